import PyProof.Rows.All
import Wide.All
import OpenK.AllK
import Wide.FinOn
import PyProof.ReprReads
import KE.SortData
import HandS.ForMost
import HandS.Exc
import HandS.TryOnly
import HandS.Wide
import HandS.WideBits
import HandS.Lambda
import HandS.HotCalls
import HandS.TupAny
import PyProof.EqKinds
import PyProof.FactsAll.dict_1
import HandS.Deep
import PyProof.SeqIndex
import HandS.Flow
import HandS.SortInts
import HandS.RaiseMore
import HandS.Text
import HandS.ExcOwn
import HandS.WordsExc
import HandS.Style
import HandS.More
import PyProof.TupleOfSeq
import HandS.ExcValue
import HandS.AnyAll
import PyProof.ReprRoads
import HandS.Comp
import HandS.Iter
import HandS.Zip
import KE.GoesEnum
import KE.GoesZip
import HandS.Property
import HandS.ClsMeth
import HandS.IsInst
import HandS.FStr
import HandS.Codes
import HandS.Strs
import HandS.ReCall
import OpenK.KMeth
import OpenK.KOps
import KE.KCallOwn
import PyProof.Conv_bool
import HandS.Star
import KE.KExcInit
import HandS.ExcInit
import HandS.SortKw
import KE.SortKeyHeap
import HandS.Ends
import HandS.HeadEnd
import HandS.Conv
import KE.KExcIs
import HandS.ExcField
import KE.KNestM
import HandS.HeadHook4
import HandS.ExcIs
import HandS.MakeKwOnly
import HandS.Head2
import KE.KRevSl
import HandS.Dict
import HandS.SetFor
import HandS.DictComp
import HandS.DictSub
import PyProof.Rows.TupDisplay
import HandS.ReplaceLit
import HandS.ReplaceList
import PyProof.InstEq
import PyProof.StrLawsRepr
import PySem.Challenge.RW_scorelists_k53_seasons_made
set_option autoImplicit false
set_option linter.all false
set_option Elab.async false
set_option maxRecDepth 100000
set_option maxHeartbeats 4000000
namespace G
abbrev Nm := Nat
inductive D where
  | non | bl (b : Bool) | int (i : Int) | str (s : List Nat)
  | tup (xs : List D) | lst (xs : List D) | dct (ks vs : List D)
  | loc (l : Nat)
  | obj (c : Nat) (fs : List D)
  | exc (c : Nat) (fs : List D)
  | cls (c : Nat)
  | fl (xs : List D)
instance : Inhabited D := ⟨.non⟩
inductive Obj where
  | lst (xs : List D)
  | ins (c : Nat) (fs : List (Nm × D))
  /-- a dict whose keys are tuples, whose values are True; whether it is locked -/
  | dic (z : Bool) (ks : List (List D))
abbrev Store := List Obj
inductive Sl where
  | em | v (d : D) | own (xs : List D) | xc (c : Nat) (fs : List D)
abbrev Env := List Sl
inductive O (α : Type) where
  | ok (a : α) (st : Store)
  | ex (c : Nat) (fs : List D) (st : Store)
  | bad
def O.bind {α β : Type} (x : O α) (f : α → Store → O β) : O β := match x with
  | .ok a st => f a st
  | .ex c fs st => .ex c fs st
  | .bad => .bad
def O.of {α : Type} (x : Option α) (st : Store) : O α := match x with
  | some a => .ok a st
  | none => .bad
inductive Op2 where
  | add | sub | mul | fdiv | mod | pow | eq | ne | lt | le | gt | ge | is | isnot | mem | nmem | idx
inductive Bi where
  | len | int | str | repr | abs | bool | min | max | sum | sorted | tuple | list | all | any | divmod
inductive Mt where
  | split | join | index | count | upper | replace
inductive Ty where
  | int | bool | str | tuple | own (c : Nat) | exc (c : Nat) | value | lookup | arith
inductive Pt where
  | nm (i : Nat) | tp (ps : List Pt)
def okCode (c : Nat) : Bool := decide (c < 1114112)
def b2i (b : Bool) : Int := if b then 1 else 0
mutual
def pyEq : D → D → Bool
  | .non, .non => true
  | .bl a, .bl b => a == b
  | .bl a, .int j => b2i a == j
  | .int i, .bl b => i == b2i b
  | .int i, .int j => i == j
  | .str x, .str y => x == y
  | .tup xs, .tup ys => pyEqs xs ys
  | .lst xs, .lst ys => pyEqs xs ys
  | _, _ => false
def pyEqs : List D → List D → Bool
  | [], [] => true
  | x :: xs, y :: ys => pyEq x y && pyEqs xs ys
  | _, _ => false
end
def isStr : D → Bool
  | .str _ => true
  | _ => false
mutual
def okEq : Nat → D → Bool
  | _, .non => true
  | _, .bl _ => true
  | _, .int _ => true
  | _, .str _ => true
  | n, .tup xs => match n with
    | 0 => false
    | n + 1 => okEqs n xs
  | n, .lst xs => match n with
    | 0 => false
    | n + 1 => okEqs n xs
  | _, _ => false
def okEqs : Nat → List D → Bool
  | _, [] => true
  | n, x :: xs => okEq n x && okEqs n xs
end
@[irreducible] def LIM : Nat := 16777216
@[irreducible] def BIG : Nat := 2 ^ 4000
def okMul (i j : Int) : Bool := decide (i.natAbs < BIG) && decide (j.natAbs < BIG)
@[irreducible] def DIV : Nat := 2 ^ 4000
def okDiv (j : Int) : Bool := decide (0 < j) && decide (j.natAbs < DIV)
def ixN (n : Nat) (i : Int) : Option Nat := if 0 ≤ i then (if i < n then some i.toNat else none) else if -(n : Int) ≤ i then some (i + n).toNat else none
def atI {α : Type} (xs : List α) (i : Int) : Option α := (ixN xs.length i).bind fun j => xs[j]?
def seqv (st : Store) : D → Option (List D)
  | .tup xs => some xs
  | .lst xs => some xs
  | .fl xs => some xs
  | .loc l => match st[l]? with
    | some (.lst xs) => some xs
    | _ => none
  | _ => none
def view (st : Store) : D → D
  | .loc l => match st[l]? with
    | some (.lst xs) => .lst xs
    | _ => .loc l
  | d => d
def tupNil : D → D → Option Bool
  | .tup xs, .tup [] => some xs.isEmpty
  | .str _, .dct _ _ => some false
  | .dct _ _, .tup [] => some false
  | .lst _, .tup [] => some false
  | _, _ => none
def op2 (o : Op2) (st : Store) (x y : D) : Option D := match o with
  | .add => match view st x, view st y with
    | .int i, .int j => some (.int (i + j))
    | .str a, .str b => if a.length + b.length ≤ LIM then some (.str (a ++ b)) else none
    | .tup a, .tup b => if a.length + b.length ≤ LIM then some (.tup (a ++ b)) else none
    | .lst a, .lst b => if a.length + b.length ≤ LIM then some (.lst (a ++ b)) else none
    | _, _ => none
  | .sub => match x, y with
    | .int i, .int j => some (.int (i - j))
    | _, _ => none
  | .mul => match view st x, y with
    | .int i, .int j => if okMul i j then some (.int (i * j)) else none
    | .lst a, .int j => if 0 ≤ j ∧ j ≤ 4096 ∧ a.length * j.toNat ≤ LIM then some (.lst (List.replicate j.toNat a).flatten) else none
    | _, _ => none
  | .fdiv => match x, y with
    | .int i, .int j => if okDiv j then some (.int (i / j)) else none
    | _, _ => none
  | .mod => match x, y with
    | .int i, .int j => if okDiv j then some (.int (i % j)) else none
    | _, _ => none
  | .pow => match x, y with
    | .int i, .int j => if 0 ≤ j ∧ j ≤ 1000 ∧ i.natAbs < 1000 then some (.int (i ^ j.toNat)) else none
    | _, _ => none
  | .eq => let x := view st x; let y := view st y; if okEq 64 x && okEq 64 y then some (.bl (pyEq x y)) else (tupNil x y).map .bl
  | .ne => let x := view st x; let y := view st y; if okEq 64 x && okEq 64 y then some (.bl (!pyEq x y)) else none
  | .lt => match x, y with
    | .int i, .int j => some (.bl (decide (i < j)))
    | _, _ => none
  | .le => match x, y with
    | .int i, .int j => some (.bl (decide (i ≤ j)))
    | _, _ => none
  | .gt => match x, y with
    | .int i, .int j => some (.bl (decide (j < i)))
    | _, _ => none
  | .ge => match x, y with
    | .int i, .int j => some (.bl (decide (j ≤ i)))
    | _, _ => none
  | .is => match x, y with
    | .non, .non => some (.bl true)
    | .bl a, .bl b => some (.bl (a == b))
    | _, .non => some (.bl false)
    | _, _ => none
  | .isnot => match x, y with
    | .non, .non => some (.bl false)
    | .bl a, .bl b => some (.bl (a != b))
    | _, .non => some (.bl true)
    | _, _ => none
  | .mem => match x, y with
    | .str a, .str b => (match a with
      | [c] => some (.bl (b.contains c))
      | _ => none)
    | .dct _ _, y => (match seqv st y with
      | some ys => if ys.all isStr then some (.bl false) else none
      | none => none)
    | _, _ => match seqv st y with
      | some ys => let x := view st x; if okEq 64 x && okEqs 64 ys then some (.bl (ys.any fun z => pyEq z x)) else none
      | none => none
  | .nmem => match x, y with
    | .str a, .str b => (match a with
      | [c] => some (.bl (!b.contains c))
      | _ => none)
    | .dct _ _, y => (match seqv st y with
      | some ys => if ys.all isStr then some (.bl true) else none
      | none => none)
    | _, _ => match seqv st y with
      | some ys => let x := view st x; if okEq 64 x && okEqs 64 ys then some (.bl (!ys.any fun z => pyEq z x)) else none
      | none => none
  | .idx => match y with
    | .int i => match x with
      | .str a => (atI a i).map fun c => .str [c]
      | _ => (seqv st x).bind fun xs => atI xs i
    | _ => none
def isDig (c : Nat) : Bool := decide (48 ≤ c) && decide (c ≤ 57)
def digVal (s : List Nat) : Nat := s.foldl (fun n c => 10 * n + (c - 48)) 0
def natStr (n : Nat) : List Nat := (Nat.toDigits 10 n).map Char.toNat
def intStr (i : Int) : List Nat := match i with
  | .ofNat n => natStr n
  | .negSucc n => 45 :: natStr (n + 1)
def splitOn (c : Nat) : List Nat → List (List Nat)
  | [] => [[]]
  | x :: r => if x = c then [] :: splitOn c r else match splitOn c r with
    | [] => [[x]]
    | w :: ws => (x :: w) :: ws
def joinS (sep : List Nat) : List (List Nat) → List Nat
  | [] => []
  | [x] => x
  | x :: y :: r => x ++ sep ++ joinS sep (y :: r)
def dStrs : List D → Option (List (List Nat))
  | [] => some []
  | .str s :: r => (dStrs r).map (s :: ·)
  | _ => none
def dInts : List D → Option (List Int)
  | [] => some []
  | .int i :: r => (dInts r).map (i :: ·)
  | _ => none
def bls : List D → Option (List Bool)
  | [] => some []
  | .bl b :: r => (bls r).map (b :: ·)
  | _ => none
def lenSum : List (List Nat) → Nat
  | [] => 0
  | x :: r => x.length + lenSum r
mutual
def toPy : D → PySem.PyData
  | .non => .none
  | .bl b => .bool b
  | .int i => .int i
  | .str s => .str ⟨s.toArray⟩
  | .tup xs => .tuple (toPys xs)
  | .lst xs => .list (toPys xs)
  | _ => .none
def toPys : List D → List PySem.PyData
  | [] => []
  | x :: xs => toPy x :: toPys xs
end
def reprD (d : D) : List Nat := (toPy d).shown.cps.toList
def okRep (n : Nat) (d : D) : Bool := okEq n d && (toPy d).showable && decide ((reprD d).length ≤ LIM) && (reprD d).all okCode
def leI (a b : Int) : Bool := decide (a ≤ b)
def maxI : List Int → Option Int
  | [] => none
  | [x] => some x
  | x :: r => (maxI r).map fun m => if m < x then x else m
def minI : List Int → Option Int
  | [] => none
  | [x] => some x
  | x :: r => (minI r).map fun m => if x < m then x else m
def listv (st : Store) : D → Option (List D)
  | .tup _ => none
  | d => seqv st d
def srtT : D → Bool
  | .tup (_ :: _) => true
  | _ => false
def srtS : D → Bool
  | .str _ => true
  | _ => false
def sortD (xs : List D) : Option (List D) := if okEqs 8 xs && (xs.all fun x => xs.all fun y => PySem.W.alike (toPy x) (toPy y)) && (xs.all srtT || xs.all srtS) then some (xs.mergeSort (PySem.W.dataLe false toPy)) else none
def bi (f : Bi) (st : Store) (ds : List D) : Option D := match f, ds with
  | .len, [.str s] => some (.int s.length)
  | .len, [d] => (seqv st d).map fun xs => .int xs.length
  | .int, [.int i] => some (.int i)
  | .int, [.bl b] => some (.int (b2i b))
  | .int, [.str s] => if s ≠ [] ∧ s.length ≤ 40 ∧ s.all isDig = true then some (.int (digVal s)) else none
  | .str, [.int i] => if i.natAbs < 2 ^ 1900 then some (.str (intStr i)) else none
  | .str, [.str s] => some (.str s)
  | .repr, [d] => let x := view st d
    if okRep 32 x then some (.str (reprD x)) else match x with
      | .dct [] [] => some (.str [123, 125])
      | _ => none
  | .abs, [.int i] => some (.int i.natAbs)
  | .bool, [.bl b] => some (.bl b)
  | .bool, [.int i] => some (.bl (i != 0))
  | .min, [.int i, .int j] => some (.int (if j < i then j else i))
  | .max, [.int i, .int j] => some (.int (if j > i then j else i))
  | .min, [d] => (listv st d).bind fun xs => (dInts xs).bind fun is => (minI is).map .int
  | .max, [d] => (listv st d).bind fun xs => (dInts xs).bind fun is => (maxI is).map .int
  | .sum, [d] => (listv st d).bind fun xs => (dInts xs).map fun is => .int is.sum
  | .sorted, [d] => match (listv st d).bind dInts with
    | some is => some (.lst ((is.mergeSort leI).map .int))
    | none => (seqv st d).bind fun xs => (sortD xs).map .lst
  | .tuple, [d] => (seqv st d).map .tup
  | .list, [d] => (seqv st d).map .lst
  | .all, [d] => (listv st d).bind fun xs => (bls xs).map fun bs => .bl (bs.all id)
  | .any, [d] => (listv st d).bind fun xs => (bls xs).map fun bs => .bl (bs.any id)
  | .divmod, [.int i, .int j] => if okDiv j then some (.tup [.int (i / j), .int (i % j)]) else none
  | _, _ => none
def mt (m : Mt) (st : Store) (x : D) (ds : List D) : Option D := match m, x, ds with
  | .split, .str s, [.str [c]] => if s.length + 2 ≤ LIM then some (.lst ((splitOn c s).map .str)) else none
  | .join, .str s, [d] => (seqv st d).bind fun xs => (dStrs xs).bind fun ss => if lenSum ss + s.length * ss.length ≤ LIM then some (.str (joinS s ss)) else none
  | .index, x, [y] => (seqv st x).bind fun xs => if okEq 64 y && okEqs 63 xs then (xs.findIdx? fun z => pyEq z y).map fun (k : Nat) => .int (k : Int) else none
  | .count, x, [y] => (seqv st x).bind fun xs => if okEq 64 y && okEqs 63 xs then some (.int (xs.countP fun z => pyEq z y)) else none
  | _, _, _ => none
def truth (st : Store) : D → Option Bool
  | .non => some false
  | .bl b => some b
  | .int i => some (i != 0)
  | .str s => some (!s.isEmpty)
  | d => (seqv st d).map fun xs => !xs.isEmpty
mutual
def ltLoc (n : Nat) : D → Bool
  | .tup xs => ltLocs n xs
  | .lst xs => ltLocs n xs
  | .dct ks vs => ltLocs n ks && ltLocs n vs
  | .loc l => decide (l < n)
  | .fl xs => ltLocs n xs
  | .obj _ fs => ltLocs n fs
  | .exc _ fs => ltLocs n fs
  | _ => true
def ltLocs (n : Nat) : List D → Bool
  | [] => true
  | x :: xs => ltLoc n x && ltLocs n xs
end
structure Cl where
  fields : List Nm
  init : Nat
  props : List (Nm × Nat)
  meths : List (Nm × Nat)
  frozen : Bool
structure Xc where
  field : List Nm
  base : Nat        -- 0 ValueError, 1 LookupError, 2 ArithmeticError
  own : Nat         -- the base class's number
structure Ctx where
  call : Nat → List D → Store → O D
  cls : Nat → Option Cl
  exs : Nat → Option Xc
  glob : Nat → Option D
def n_len : Nm := 1
def n_eq : Nm := 3
def n_bool : Nm := 5
def objv (st : Store) : D → Option (Nat × List D)
  | .obj c fs => some (c, fs)
  | .loc l => match st[l]? with
    | some (.ins c fs) => some (c, fs.map (·.2))
    | _ => none
  | _ => none
def fldv (Γ : Ctx) (st : Store) (f : Nm) : D → Option D
  | .obj c fs => (Γ.cls c).bind fun k => ((k.fields.zip fs).lookup f)
  | .loc l => match st[l]? with
    | some (.ins c fs) => (Γ.cls c).bind fun k => if f ∈ k.fields then fs.lookup f else none
    | _ => none
  | _ => none
def Env.get (env : Env) (i : Nat) : Option D := match env[i]? with
  | some (.v d) => some d
  | _ => none
def Env.pk (env : Env) (i : Nat) : Option D := match env[i]? with
  | some (.own xs) => some (.lst xs)
  | some (.v d) => some d
  | _ => none
def wipe (env : Env) : List Nat → Env
  | [] => env
  | i :: r => (wipe env r).set i .em
mutual
def setPt : Pt → D → Env → Option Env
  | .nm i, d, env => some (env.set i (.v d))
  | .tp ps, .tup ds, env => setPts ps ds env
  | .tp ps, .lst ds, env => setPts ps ds env
  | .tp ps, .exc _ ds, env => setPts ps ds env
  | _, _, _ => none
def setPts : List Pt → List D → Env → Option Env
  | [], [], env => some env
  | p :: ps, d :: ds, env => (setPt p d env).bind (setPts ps ds)
  | _, _, _ => none
end
def rangeD (lo hi : Int) : List D := (List.range (hi - lo).toNat).map fun (k : Nat) => D.int (lo + (k : Int))
def enumD (xs : List D) : List D := xs.zipIdx.map fun p => .exc 0 [.int p.2, p.1]
def clip (n d : Nat) : Option Int → Nat
  | none => d
  | some v => if v < 0 then (max (v + n) 0).toNat else (min v n).toNat
def cut {α : Type} (xs : List α) (lo hi : Option Int) : List α := (xs.drop (clip xs.length 0 lo)).take (clip xs.length xs.length hi - clip xs.length 0 lo)
def slice (st : Store) (d : D) (lo hi : Option Int) : Option D := match view st d with
  | .str s => some (.str (cut s lo hi))
  | .tup xs => some (.tup (cut xs lo hi))
  | .lst xs => some (.lst (cut xs lo hi))
  | .fl xs => some (.lst (cut xs lo hi))
  | _ => none
def compL (f : D → Store → O (Option D)) : List D → List D → Store → O (List D)
  | [], acc, st => .ok acc st
  | x :: r, acc, st => match f x st with
    | .ok (some y) st' => if acc.length < LIM then compL f r (acc ++ [y]) st' else .bad
    | .ok none st' => compL f r acc st'
    | _ => .bad
def optI : List D → Option (Option Int)
  | [] => some none
  | [.int i] => some (some i)
  | _ => none
def mkObj (Γ : Ctx) (c : Nat) (ds : List D) (st : Store) : O D := match Γ.cls c with
  | none => .bad
  | some k => match Γ.call k.init (.loc st.length :: ds) (st ++ [.ins c []]) with
    | .ok .non st' => if k.frozen then (match st'[st.length]? with
        | some (.ins b fs) => if b = c ∧ fs.map (·.1) = k.fields ∧ st'.length = st.length + 1 then .ok (.obj c (fs.map (·.2))) (st'.take st.length) else .bad
        | _ => .bad) else .ok (.loc st.length) st'
    | .ex b fs st' => .ex b fs st'
    | _ => .bad
def seqF : D → Option (List D)
  | .tup xs => some xs
  | .lst xs => some xs
  | _ => none
def seqI : D → Option (List D)
  | .str s => some (s.map fun c => .str [c])
  | d => seqF d
structure Sem where
  val : Env → Store → O D
  test : Env → Store → O Bool
  items : Env → Store → O (List D)
def Sem.of (v : Env → Store → O D) : Sem where
  val := v
  test := fun env st => (v env st).bind fun x st => .of (truth st x) st
  items := fun env st => (v env st).bind fun x st => .of (seqI x) st
def Sem.walk (w : Env → Store → O (List D)) : Sem where
  val := fun _ _ => .bad
  test := fun _ _ => .bad
  items := w
def Sem.ife (c a b : Sem) : Sem where
  val := fun env st => (c.test env st).bind fun t st => if t then a.val env st else b.val env st
  test := fun env st => (c.test env st).bind fun t st => if t then a.test env st else b.test env st
  items := fun env st => ((c.test env st).bind fun t st => if t then a.val env st else b.val env st).bind fun x st => .of (seqI x) st
def Sem.no (a : Sem) : Sem where
  val := fun env st => (a.val env st).bind fun x st => (O.of (truth st x) st).bind fun b st => .ok (.bl (!b)) st
  test := fun env st => (a.test env st).bind fun b st => .ok (!b) st
  items := fun _ _ => .bad
def args : List Sem → Env → Store → O (List D)
  | [], _, st => .ok [] st
  | e :: r, env, st => (e.val env st).bind fun x st => (args r env st).bind fun xs st => .ok (x :: xs) st
def bopV (and : Bool) : List Sem → Env → Store → O D
  | [], _, _ => .bad
  | [e], env, st => e.val env st
  | e :: r, env, st => (e.val env st).bind fun x st => match x with
    | .bl b => if b = and then bopV and r env st else .ok (.bl b) st
    | _ => .bad
def bopT (and : Bool) : List Sem → Env → Store → O Bool
  | [], _, _ => .bad
  | [e], env, st => e.test env st
  | e :: r, env, st => (e.test env st).bind fun b st => if b = and then bopT and r env st else .ok b st
def Sem.bop (and : Bool) (es : List Sem) : Sem where
  val := bopV and es
  test := bopT and es
  items := fun _ _ => .bad
def two (sa sb : Sem) (f : D → D → Store → O D) : Env → Store → O D := fun env st => (sa.val env st).bind fun x st => (sb.val env st).bind fun y st => f x y st
def one (sa : Sem) (f : D → Store → O D) : Env → Store → O D := fun env st => (sa.val env st).bind f
def many (es : List Sem) (f : List D → Store → O D) : Env → Store → O D := fun env st => (args es env st).bind f
def chain (o p : Op2) (sa sb sc : Sem) : Env → Store → O D := fun env st => (sa.val env st).bind fun x st => (sb.val env st).bind fun y st => (O.of (op2 o st x y) st).bind fun r st => match r with
  | .bl true => (sc.val env st).bind fun z st => .of (op2 p st y z) st
  | .bl false => .ok (.bl false) st
  | _ => .bad
def testsV : List Sem → Env → Store → O Bool
  | [], _, st => .ok true st
  | [e], env, st => e.test env st
  | _, _, _ => .bad
def O.hush {α : Type} : O α → O α
  | .ok a st => .ok a st
  | _ => .bad
def atV (Γ : Ctx) (f : Nm) (x : D) (st : Store) : O D := match fldv Γ st f x with
  | some d => .ok d st
  | none => match (objv st x).bind fun p => (Γ.cls p.1).bind fun k => k.props.lookup f with
    | some g => (Γ.call g [x] st).hush
    | none => .bad
def rngI (ds : List D) (st : Store) : O (List D) := match ds with
  | [.int j] => if -LIM ≤ j ∧ j ≤ LIM then .ok (rangeD 0 j) st else .bad
  | [.int i, .int j] => if -LIM ≤ i ∧ i ≤ LIM ∧ -LIM ≤ j ∧ j ≤ LIM then .ok (rangeD i j) st else .bad
  | _ => .bad
def newV (ds : List D) (st : Store) : O D := if ltLocs st.length ds = true ∧ ds.length ≤ LIM then .ok (.loc st.length) (st ++ [.lst ds]) else .bad
def turnV (own : List Nat) (elt : Sem) (p : Pt) (ifs : List Sem) (env : Env) (x : D) (st : Store) : O (Option D) := match setPt p x (wipe env own) with
  | none => .bad
  | some env => (testsV ifs env st).bind fun t st => if t then (elt.val env st).bind fun y st => .ok (some y) st else .ok none st
def noFld (st : Store) (m : Nm) : D → Bool
  | .loc l => match st[l]? with
    | some (.ins _ fs) => fs.all fun p => p.1 != m
    | _ => true
  | _ => true
def meV (Γ : Ctx) (c : Nat) (m : Nm) (so : Sem) (ss : List Sem) : Env → Store → O D := fun env st => (so.val env st).bind fun x st => match objv st x with
  | some (b, _) => if b = c ∧ noFld st m x = true then (match (Γ.cls c).bind fun k => k.meths.lookup m with
    | some f => (args ss env st).bind fun ds st => Γ.call f (x :: ds) st
    | none => .bad) else .bad
  | none => .bad
def optV (ss : List Sem) : Env → Store → O (Option Int) := fun env st => (args ss env st).bind fun ds st => .of (optI ds) st
def slV (s : Sem) (lo hi : List Sem) : Env → Store → O D := fun env st => (s.val env st).bind fun x st => (optV lo env st).bind fun l st => (optV hi env st).bind fun h st => .of (slice st x l h) st
inductive R where
  | nx (env : Env) (st : Store) | rt (d : D) (st : Store) | bk (env : Env) (st : Store) | ct (env : Env) (st : Store)
  | ex (env : Env) (c : Nat) (fs : List D) (st : Store)
  | bad
def O.run {α : Type} (x : O α) (env : Env) (f : α → Store → R) : R := match x with
  | .ok a st => f a st
  | .ex c fs st => .ex env c fs st
  | .bad => .bad
def putF (f : Nm) (d : D) : List (Nm × D) → List (Nm × D)
  | [] => [(f, d)]
  | (g, e) :: r => if g = f then (f, d) :: r else (g, e) :: putF f d r
def isFld (Γ : Ctx) (c : Nat) (f : Nm) : Bool := match Γ.cls c with
  | some k => k.fields.contains f
  | none => false
abbrev StS := Env → Store → R
def forL (body : StS) (p : Pt) : List D → Env → Store → R
  | [], env, st => .nx env st
  | x :: r, env, st => match setPt p x env with
    | none => .bad
    | some env => match body env st with
      | .nx env st => forL body p r env st
      | .ct env st => forL body p r env st
      | .bk env st => .nx env st
      | o => o
def whileL (t : Env → Store → O Bool) (body : StS) : Nat → Env → Store → R
  | 0, _, _ => .bad
  | n + 1, env, st => (t env st).run env fun b st => if b then (match body env st with
      | .nx env st => whileL t body n env st
      | .ct env st => whileL t body n env st
      | .bk env st => .nx env st
      | o => o) else .nx env st
def Ty.isInt : Ty → Bool
  | .int => true
  | _ => false
def Ty.isBl : Ty → Bool
  | .int => true
  | .bool => true
  | _ => false
def Ty.isStr : Ty → Bool
  | .str => true
  | _ => false
def Ty.isTup : Ty → Bool
  | .tuple => true
  | _ => false
def Ty.isOwn (c : Nat) : Ty → Bool
  | .own b => c == b
  | _ => false
def isiV (Γ : Ctx) (st : Store) (d : D) (τ : Ty) : Option Bool := match d with
  | .non => some false
  | .bl _ => some τ.isBl
  | .int _ => some τ.isInt
  | .str _ => some τ.isStr
  | .tup _ => some τ.isTup
  | .lst _ => some false
  | .fl _ => some false
  | .dct _ _ => some false
  | .loc l => match st[l]? with
    | some (.lst _) => some false
    | some (.ins c _) => if (Γ.cls c).isSome = true then some (τ.isOwn c) else none
    | some (.dic _ _) => none
    | none => none
  | .obj c _ => if (Γ.cls c).isSome = true then some (τ.isOwn c) else none
  | _ => none
def lcV (sI sE : Sem) (own : List Nat) (p : Pt) (ss : List Sem) : Env → Store → O D := fun env st => (sI.items env st).bind fun items st => (compL (turnV own sE p ss env) items [] st).bind fun ds st => .ok (.lst ds) st
def seqR (r : R) (f : StS) : R := match r with
  | .nx env st => f env st
  | o => o
def R.pl : R → Bool
  | .nx _ _ => true
  | .ex _ _ _ _ => true
  | .bad => true
  | _ => false
def ownR (i : Nat) (d : D) (env : Env) (st : Store) : R := match d with
  | .lst xs => .nx (env.set i (.own xs)) st
  | _ => .bad
def putO : List (Bool × Nat) → List D → Env → Option Env
  | [], [], env => some env
  | (false, i) :: ts, d :: ds, env => putO ts ds (env.set i (.v d))
  | (true, i) :: ts, .lst xs :: ds, env => putO ts ds (env.set i (.own xs))
  | _, _, _ => none
def ofPut (o : Option Env) (st : Store) : R := match o with
  | some env => .nx env st
  | none => .bad
def subR (sa sb : Sem) (d : D) : StS := fun env st => (sa.val env st).run env fun x st => (sb.val env st).run env fun k st => match x, k with
    | .loc l, .int k => (match st[l]? with
      | some (.lst xs) => match ixN xs.length k with
        | some j => if ltLoc l d then .nx env (st.set l (.lst (xs.set j d))) else .bad
        | none => .bad
      | _ => .bad)
    | _, _ => .bad
def setAll : List (D → StS) → List D → StS
  | [], [], env, st => .nx env st
  | f :: fs, d :: ds, env, st => seqR (f d env st) (setAll fs ds)
  | _, _, _, _ => .bad
def appR (i : Nat) (se : Sem) : StS := fun env st => match env[i]? with
  | some (.own xs) => (se.val env st).run env fun d st => if xs.length < LIM then .nx (env.set i (.own (xs ++ [d]))) st else .bad
  | _ => .bad
def aug1 (o : Op2) (i : Nat) (x : Int) (d : D) (env : Env) (st : Store) : R := match o, d with
  | .add, .int y => .nx (env.set i (.v (.int (x + y)))) st
  | .sub, .int y => .nx (env.set i (.v (.int (x - y)))) st
  | _, _ => .bad
def augR (i : Nat) (o : Op2) (se : Sem) : StS := fun env st => match env.get i with
  | some (.int x) => (se.val env st).run env fun y st => aug1 o i x y env st
  | _ => .bad
def fldR (Γ : Ctx) (f : Nm) (so : Sem) (d : D) : StS := fun env st => (so.val env st).run env fun x st => match x with
    | .loc l => (match st[l]? with
      | some (.ins c fs) => if ltLoc l d = true ∧ fs.length < 100 ∧ isFld Γ c f = true then .nx env (st.set l (.ins c (putF f d fs))) else .bad
      | _ => .bad)
    | _ => .bad
def frzS (i : Nat) (f : StS) : StS := fun env st => match env[i]? with
  | some (.own xs) => f (env.set i (.v (.lst xs))) st
  | _ => .bad
abbrev Fd := List D → Store → O D
def pick {α : Type} (d : α) (is : List Nat) (xs : List α) : List α := is.map fun i => xs.getD i d
def passS : StS := fun env st => .nx env st
def badS : StS := fun _ _ => .bad
def retS (s : Sem) : StS := fun env st => (s.val env st).run env fun d st => .rt d st
def exS (s : Sem) : StS := fun env st => (s.val env st).run env fun _ st => .nx env st
def ifS (c : Sem) (a b : StS) : StS := fun env st => (c.test env st).run env fun t st => if t then a env st else b env st
def seqS (a b : StS) : StS := fun env st => seqR (a env st) b
def nmS (i : Nat) (s : Sem) : StS := fun env st => (s.val env st).run env fun d st => .nx (env.set i (.v d)) st
def ownS (i : Nat) (s : Sem) : StS := fun env st => (s.val env st).run env fun d st => ownR i d env st
def tgS (f : D → StS) (s : Sem) : StS := fun env st => (s.val env st).run env fun d st => f d env st
def parS (ts : List (Bool × Nat)) (ss : List Sem) : StS := fun env st => (args ss env st).run env fun ds st => ofPut (putO ts ds env) st
def unpS (fs : List (D → StS)) (s : Sem) : StS := fun env st => (s.val env st).run env fun d st => match d with
  | .tup ds => if ds.length = fs.length then setAll fs ds env st else .bad
  | .lst ds => if ds.length = fs.length then setAll fs ds env st else .bad
  | _ => .bad
def forS (p : Pt) (s : Sem) (f : StS) : StS := fun env st => (s.items env st).run env fun xs st => forL f p xs env st
def whlS (c : Sem) (f : StS) : StS := whileL c.test f 2000
def raiseS (Γ : Ctx) (c : Nat) (ss : List Sem) : StS := fun env st => (args ss env st).run env fun ds st => match Γ.exs c with
  | some k => if k.field.length = ds.length then .ex env c ds st else .bad
  | none => .bad
def kE (d : D) : Sem := .of fun _ st => .ok d st
def vE (i : Nat) : Sem := .of fun env st => .of (env.get i) st
def pkE (i : Nat) : Sem := .of fun env st => .of (env.pk i) st
def opE (o : Op2) (a b : Sem) : Sem := .of (two a b fun x y st => .of (op2 o st x y) st)
def tupE (es : List Sem) : Sem := .of (many es fun ds st => .ok (.tup ds) st)
def lstE (es : List Sem) : Sem := .of (many es fun ds st => .ok (.lst ds) st)
def newE (es : List Sem) : Sem := .of (many es newV)
def biE (f : Bi) (es : List Sem) : Sem := .of (many es fun ds st => .of (bi f st ds) st)
def callE (c : Fd) (es : List Sem) : Sem := .of (many es c)
def mkE (Γ : Ctx) (c : Nat) (es : List Sem) : Sem := .of (many es (mkObj Γ c))
def isiE (Γ : Ctx) (s : Sem) (τ : Ty) : Sem := .of (one s fun d st => .of ((isiV Γ st d τ).map .bl) st)
def atE (Γ : Ctx) (f : Nm) (s : Sem) : Sem := .of (one s fun d st => atV Γ f d st)
def meE (Γ : Ctx) (c : Nat) (m : Nm) (s : Sem) (es : List Sem) : Sem := .of (meV Γ c m s es)
def lcE (s e : Sem) (own : List Nat) (p : Pt) (ifs : List Sem) : Sem := .of (lcV s e own p ifs)
def slE (s : Sem) (lo hi : List Sem) : Sem := .of (slV s lo hi)
def rngE (es : List Sem) : Sem := .walk fun env st => (args es env st).bind fun ds st => rngI ds st
def enumE (s : Sem) : Sem := .walk fun env st => (s.val env st).bind fun x st => .of ((seqF x).map enumD) st
def chE (o p : Op2) (a b c : Sem) : Sem := .of (chain o p a b c)
def mkKE (Γ : Ctx) (c : Nat) (is : List Nat) (es : List Sem) : Sem := .of (many es fun ds st => mkObj Γ c (pick .non is ds) st)
def appS (i : Nat) (s : Sem) : StS := appR i s
def augS (i : Nat) (o : Op2) (s : Sem) : StS := augR i o s
def fldS (Γ : Ctx) (f : Nm) (so s : Sem) : StS := fun env st => (s.val env st).run env fun d st => fldR Γ f so d env st
def nmT (i : Nat) (d : D) : StS := fun env st => .nx (env.set i (.v d)) st
inductive KX where
  | p | c (i : Nat) | k (z : Int) | ix (a b : KX)
def KX.val (env : Env) (x : D) : KX → Option D
  | .p => some x
  | .c i => env.get i
  | .k z => some (.int z)
  | .ix a b => (KX.val env x a).bind fun u => (KX.val env x b).bind fun j => match j with
    | .int j => (seqF u).bind fun xs => atI xs j
    | _ => none
def isTp : D → Bool
  | .tup _ => true
  | _ => false
def tidxV (s t : Sem) : Env → Store → O D := fun env st => (s.val env st).bind fun x st => if isTp x then (t.val env st).bind fun y st => .of (mt .index st x [y]) st else .bad
def tindexE (s t : Sem) : Sem := .of (tidxV s t)
def xisX (k : Xc) (c : Nat) : Ty → Option Bool
  | .exc j => some (decide (j = c) || decide (j = k.own))
  | .value => some (decide (k.base = 0))
  | .lookup => some (decide (k.base = 1))
  | .arith => some (decide (k.base = 2))
  | _ => none
def runH (np ns : Nat) (s : StS) : Fd := fun ds st => match ds with
  | .exc (c + 1) fs :: ds => if ds.length + 1 = np then (match s (.xc c fs :: (ds.map Sl.v ++ List.replicate (ns - (ds.length + 1)) .em)) st with
    | .rt d st => .ok d st
    | .nx _ st => .ok .non st
    | _ => .bad) else .bad
  | _ => .bad
def runF (np ns : Nat) (s : StS) : Fd := fun ds st => if ds.length = np then (match s (ds.map Sl.v ++ List.replicate (ns - ds.length) .em) st with
    | .rt d st => .ok d st
    | .nx _ st => .ok .non st
    | .ex _ c fs st => .ex c fs st
    | _ => .bad) else .bad
end G
namespace G
end G
namespace G
end G
namespace G
end G
namespace G
end G
namespace G
def meKV (Γ : Ctx) (c : Nat) (m : Nm) (is : List Nat) (ss : List Sem) (env : Env) (d : D) (st : Store) : O D := match d with
  | .obj b _ => if b = c then (match (Γ.cls c).bind fun k => k.meths.lookup m with
    | some f => (args ss env st).bind fun ds st => Γ.call f (d :: pick .non is ds) st
    | none => .bad) else .bad
  | _ => .bad
def meKE (Γ : Ctx) (c : Nat) (m : Nm) (so : Sem) (is : List Nat) (ss : List Sem) : Sem := .of fun env st => (so.val env st).bind fun d st => meKV Γ c m is ss env d st
end G
namespace G
def boolNV (c : Nat) (x : D) (st : Store) : O D := match objv st x with
  | some (b, _) => if b = c then .ok (.bl true) st else .bad
  | none => .bad
def boolNE (c : Nat) (a : Sem) : Sem := .of (one a (boolNV c))
end G
namespace G
end G
namespace G
end G
namespace G
end G
namespace G
end G
namespace G
open PySem PySem.Spec PyProof.Rows
open L2 (V Hp HO upd SqL SqT Rd)
structure Tb where
  K : PySem.W.Frag
  cls : Nat → Addr
  exc : Nat → Addr
  nm : Nm → PySem.Str
  flds : Nat → List Nm
  tabs : List (Addr × PySem.Str)
  /-- the exception that is handled: where, its dict, its class, its attributes -/
  hx : Option (Addr × Option Addr × Nat × List Nm)
def TabG (H : Hp) (ρ : List Addr) (P : Addr) (q : PySem.Str) : Prop := ∃ ps : Array Value, H P = some (.tbl ps) ∧ TriplesOk ps.toList ∧ ∀ (pos : Pos) (cv : Value), codeAmong pos ps.toList = some cv → ∃ c, cv = .ref c ∧ H c = some (LamX.CodeO c q) ∧ c ∉ ρ
def StL (K : PySem.W.Frag) (H : Hp) (ρ : List Addr) (a : Addr) (vs : List V) : Prop := ((∃ o, H a = some (.frz o (.lst vs))) ∧ a ∉ ρ) ∨ ∀ H' : Hp, SqL K H' a vs
def StT (K : PySem.W.Frag) (H : Hp) (ρ : List Addr) (a : Addr) (vs : List V) : Prop := ((∃ o : PySem.Obj, H a = some (.frz o (.tup vs)) ∧ o.dict = none) ∧ a ∉ ρ) ∨
  ∃ (o : PySem.Obj) (its : Array Value) (n : Nat), K.lookup a = some o ∧ o.dict = none ∧ o.cls = .type "tuple" ∧ o.data = .seq its n ∧ its.size ≤ sizeLine ∧ L2.Vals vs its.toList
theorem StL.sq {K : PySem.W.Frag} {H : Hp} {ρ : List Addr} {a : Addr} {vs : List V} (h : StL K H ρ a vs) : SqL K H a vs := h.elim (fun x => .inl (.inr x.1)) fun x => x H
theorem StT.sq {K : PySem.W.Frag} {H : Hp} {ρ : List Addr} {a : Addr} {vs : List V} (h : StT K H ρ a vs) : SqT K H a vs := by
  rcases h with ⟨⟨o, h, _⟩, _⟩ | ⟨o, its, n, h1, _, h3, h4, h5, h6⟩
  · exact .inl (.inr ⟨o, h⟩)
  · exact .inr ⟨o, its, n, h1, h3, h4, h5, h6⟩
def keyD : L2.Key → D
  | .inl i => .int i
  | .inr x => .str x.cps.toList
mutual
inductive RV (T : Tb) (H : Hp) (ρ Ow : List Addr) : V → D → Prop
  | non : RV T H ρ Ow .non .non
  | bl (b : Bool) : RV T H ρ Ow (.bl b) (.bl b)
  | int (i : Int) : RV T H ρ Ow (.int i) (.int i)
  | str (s : List Nat) (h : s.length ≤ LIM) (c : s.all okCode = true) : RV T H ρ Ow (.str ⟨s.toArray⟩) (.str s)
  | tup {a : Addr} {vs : List V} {ds : List D} (q : StT T.K H ρ a vs) (z : vs.length ≤ LIM) (r : RVs T H ρ Ow vs ds) : RV T H ρ Ow (.ref a) (.tup ds)
  | lst {a : Addr} {vs : List V} {ds : List D} (q : H a = some (.lst vs)) (n1 : a ∉ ρ) (n2 : a ∉ Ow) (z : vs.length ≤ LIM) (r : RVs T H ρ Ow vs ds) : RV T H ρ Ow (.ref a) (.lst ds)
  | fl {a : Addr} {vs : List V} {ds : List D} (q : StL T.K H ρ a vs) (z : vs.length ≤ LIM) (r : RVs T H ρ Ow vs ds) : RV T H ρ Ow (.ref a) (.fl ds)
  | loc {a : Addr} {l : Nat} (h : ρ[l + T.tabs.length]? = some a) : RV T H ρ Ow (.ref a) (.loc l)
  | obj {a dx : Addr} {c : Nat} {vs : List V} {ds : List D} (q : H a = some (.ins (T.cls c) dx (((T.flds c).map T.nm).zip vs))) (n1 : a ∉ ρ) (n2 : a ∉ Ow) (z : vs.length = (T.flds c).length) (r : RVs T H ρ Ow vs ds) : RV T H ρ Ow (.ref a) (.obj c ds)
  | dct {a : Addr} {kvs : List (L2.Key × V)} {ks vs : List D} (q : H a = some (.dK kvs)) (n1 : a ∉ ρ) (n2 : a ∉ Ow) (hk : ks = kvs.map fun p => keyD p.1) (r : RVs T H ρ Ow (kvs.map (·.2)) vs) : RV T H ρ Ow (.ref a) (.dct ks vs)
  | cls (c : Nat) : RV T H ρ Ow (.ref (T.cls c)) (.cls c)
  | raw {a : Addr} {vs : List V} {ds : List D} (q : Rd H a (.tup vs)) (n : a ∉ ρ) (z : vs.length ≤ LIM) (r : RVs T H ρ Ow vs ds) : RV T H ρ Ow (.ref a) (.exc 0 ds)
inductive RVs (T : Tb) (H : Hp) (ρ Ow : List Addr) : List V → List D → Prop
  | nil : RVs T H ρ Ow [] []
  | cons {v : V} {vs : List V} {d : D} {ds : List D} (r : RV T H ρ Ow v d) (rs : RVs T H ρ Ow vs ds) : RVs T H ρ Ow (v :: vs) (d :: ds)
end
structure Ext (H : Hp) (ρ : List Addr) (H' : Hp) (ρ' : List Addr) : Prop where
  keep : ∀ a o, H a = some o → a ∉ ρ → H' a = some o ∧ a ∉ ρ'
  pre : ∃ more, ρ' = ρ ++ more
  frz : ∀ a o u, H a = some (.frz o u) → H' a = some (.frz o u)
theorem Ext.refl (H : Hp) (ρ : List Addr) : Ext H ρ H ρ := ⟨fun _ _ h n => ⟨h, n⟩, ⟨[], by simp⟩, fun _ _ _ h => h⟩
theorem Ext.trans {H H1 H2 : Hp} {ρ ρ1 ρ2 : List Addr} (a : Ext H ρ H1 ρ1) (b : Ext H1 ρ1 H2 ρ2) : Ext H ρ H2 ρ2 := by
  refine ⟨fun c o h n => ?_, ?_, fun c o u h => b.frz c o u (a.frz c o u h)⟩
  · obtain ⟨h1, n1⟩ := a.keep c o h n
    exact b.keep c o h1 n1
  · obtain ⟨m1, rfl⟩ := a.pre
    obtain ⟨m2, rfl⟩ := b.pre
    exact ⟨m1 ++ m2, by simp⟩
theorem Ext.new {H : Hp} {ρ : List Addr} {p : Addr} {o : HO} (hp : H p = none) : Ext H ρ (upd H p o) ρ :=
  ⟨fun a u h n => ⟨by rw [L2.upd_ne (L2.ne_of_none h hp)]; exact h, n⟩, ⟨[], by simp⟩, fun a ob u h => by rw [L2.upd_ne (L2.ne_of_none h hp)]; exact h⟩
theorem Ext.set {H : Hp} {ρ : List Addr} {a : Addr} {o : HO} (ha : a ∈ ρ) (hf : ∀ ob u, H a ≠ some (.frz ob u)) : Ext H ρ (upd H a o) ρ :=
  ⟨fun b u h n => ⟨by rw [L2.upd_ne (fun e => n (by rw [e]; exact ha))]; exact h, n⟩, ⟨[], by simp⟩, fun b ob u h => by rw [L2.upd_ne (fun e => hf ob u (by rw [← e]; exact h))]; exact h⟩
section
variable {T : Tb} {H H' : Hp} {ρ ρ' Ow Ow' : List Addr}
theorem Rd.ext (e : Ext H ρ H' ρ') {a : Addr} {u : HO} (q : Rd H a u) (n : a ∉ ρ) : Rd H' a u ∧ a ∉ ρ' := by
  rcases q with q | ⟨o, q⟩
  · exact ⟨.inl (e.keep _ _ q n).1, (e.keep _ _ q n).2⟩
  · exact ⟨.inr ⟨o, (e.keep _ _ q n).1⟩, (e.keep _ _ q n).2⟩
theorem StL.ext {K : PySem.W.Frag} (e : Ext H ρ H' ρ') {a : Addr} {vs : List V} (q : StL K H ρ a vs) : StL K H' ρ' a vs := by
  rcases q with ⟨⟨o, q⟩, n⟩ | q
  · obtain ⟨q', n'⟩ := e.keep _ _ q n
    exact .inl ⟨⟨o, q'⟩, n'⟩
  · exact .inr q
theorem StT.ext {K : PySem.W.Frag} (e : Ext H ρ H' ρ') {a : Addr} {vs : List V} (q : StT K H ρ a vs) : StT K H' ρ' a vs := by
  rcases q with ⟨⟨o, q, hd⟩, n⟩ | q
  · exact .inl ⟨⟨o, (e.keep _ _ q n).1, hd⟩, (e.keep _ _ q n).2⟩
  · exact .inr q
mutual
theorem RV.ext (e : Ext H ρ H' ρ') : ∀ {d : D} {v : V}, RV T H ρ Ow v d → RV T H' ρ' Ow v d
  | _, _, .non => .non
  | _, _, .bl b => .bl b
  | _, _, .int i => .int i
  | _, _, .str s h c => .str s h c
  | _, _, .tup q z r => .tup (q.ext e) z (RVs.ext e r)
  | _, _, .lst q n1 n2 z r => .lst (e.keep _ _ q n1).1 (e.keep _ _ q n1).2 n2 z (RVs.ext e r)
  | _, _, .fl q z r => .fl (q.ext e) z (RVs.ext e r)
  | _, _, .loc h => .loc (by
      obtain ⟨m, rfl⟩ := e.pre
      rw [List.getElem?_append_left (List.getElem?_eq_some_iff.mp h).1]; exact h)
  | _, _, .obj q n1 n2 z r => .obj (e.keep _ _ q n1).1 (e.keep _ _ q n1).2 n2 z (RVs.ext e r)
  | _, _, .dct q n1 n2 hk r => .dct (e.keep _ _ q n1).1 (e.keep _ _ q n1).2 n2 hk (RVs.ext e r)
  | _, _, .cls c => .cls c
  | _, _, .raw q n z r => .raw (Rd.ext e q n).1 (Rd.ext e q n).2 z (RVs.ext e r)
theorem RVs.ext (e : Ext H ρ H' ρ') : ∀ {ds : List D} {vs : List V}, RVs T H ρ Ow vs ds → RVs T H' ρ' Ow vs ds
  | _, _, .nil => .nil
  | _, _, .cons r rs => .cons (RV.ext e r) (RVs.ext e rs)
end
mutual
theorem RV.ow (h : ∀ a, H a ≠ none → a ∉ ρ → a ∉ Ow → a ∉ Ow') : ∀ {d : D} {v : V}, RV T H ρ Ow v d → RV T H ρ Ow' v d
  | _, _, .non => .non
  | _, _, .bl b => .bl b
  | _, _, .int i => .int i
  | _, _, .str s h c => .str s h c
  | _, _, .tup q z r => .tup q z (RVs.ow h r)
  | _, _, .lst q n1 n2 z r => .lst q n1 (h _ (by rw [q]; simp) n1 n2) z (RVs.ow h r)
  | _, _, .fl q z r => .fl q z (RVs.ow h r)
  | _, _, .loc q => .loc q
  | _, _, .obj q n1 n2 z r => .obj q n1 (h _ (by rw [q]; simp) n1 n2) z (RVs.ow h r)
  | _, _, .dct q n1 n2 hk r => .dct q n1 (h _ (by rw [q]; simp) n1 n2) hk (RVs.ow h r)
  | _, _, .cls c => .cls c
  | _, _, .raw q n z r => .raw q n z (RVs.ow h r)
theorem RVs.ow (h : ∀ a, H a ≠ none → a ∉ ρ → a ∉ Ow → a ∉ Ow') : ∀ {ds : List D} {vs : List V}, RVs T H ρ Ow vs ds → RVs T H ρ Ow' vs ds
  | _, _, .nil => .nil
  | _, _, .cons r rs => .cons (RV.ow h r) (RVs.ow h rs)
end
theorem RV.new {d : D} {v : V} {p : Addr} (hp : H p = none) (r : RV T H ρ Ow v d) : RV T H ρ (p :: Ow) v d := r.ow fun a h _ n hm => by
  rcases List.mem_cons.mp hm with e | hm
  · rw [e] at h; exact h hp
  · exact n hm
theorem RVs.new {d : List D} {v : List V} {p : Addr} (hp : H p = none) (r : RVs T H ρ Ow v d) : RVs T H ρ (p :: Ow) v d := r.ow fun a h _ n hm => by
  rcases List.mem_cons.mp hm with e | hm
  · rw [e] at h; exact h hp
  · exact n hm
theorem RVs.length : ∀ {ds : List D} {vs : List V}, RVs T H ρ Ow vs ds → vs.length = ds.length
  | _, _, .nil => rfl
  | _, _, .cons _ rs => by simp [RVs.length rs]
theorem RVs.get : ∀ {ds : List D} {vs : List V} {i : Nat} {d : D}, RVs T H ρ Ow vs ds → ds[i]? = some d → ∃ v, vs[i]? = some v ∧ RV T H ρ Ow v d
  | _, _, 0, _, .cons r _, e => by simp at e; subst e; exact ⟨_, rfl, r⟩
  | _, _, i + 1, _, .cons _ rs, e => by
    obtain ⟨v, h, r⟩ := RVs.get (i := i) rs (by simpa using e)
    exact ⟨v, by simpa using h, r⟩
theorem RVs.set {v : V} {d : D} (r : RV T H ρ Ow v d) : ∀ {ds : List D} {vs : List V} (i : Nat), RVs T H ρ Ow vs ds → RVs T H ρ Ow (vs.set i v) (ds.set i d)
  | _, _, _, .nil => .nil
  | _, _, 0, .cons _ rs => .cons r rs
  | _, _, i + 1, .cons q rs => .cons q (RVs.set r i rs)
theorem RVs.take : ∀ {ds : List D} {vs : List V} (i : Nat), RVs T H ρ Ow vs ds → RVs T H ρ Ow (vs.take i) (ds.take i)
  | _, _, 0, _ => by simp only [List.take_zero]; exact .nil
  | _, _, _ + 1, .nil => .nil
  | _, _, i + 1, .cons q rs => .cons q (RVs.take i rs)
theorem RVs.drop : ∀ {ds : List D} {vs : List V} (i : Nat), RVs T H ρ Ow vs ds → RVs T H ρ Ow (vs.drop i) (ds.drop i)
  | _, _, 0, r => r
  | _, _, _ + 1, .nil => .nil
  | _, _, i + 1, .cons _ rs => RVs.drop i rs
end
structure Keeps (H : Hp) (ρ Ow : List Addr) (H' : Hp) (ρ' Ow' : List Addr) : Prop where
  keep : ∀ a o, H a = some o → a ∉ ρ → a ∉ Ow → H' a = some o ∧ a ∉ ρ' ∧ a ∉ Ow'
  pre : ∃ more, ρ' = ρ ++ more
  frz : ∀ a o u, H a = some (.frz o u) → H' a = some (.frz o u)
section
variable {T : Tb} {H H' H1 H2 : Hp} {ρ ρ' ρ1 ρ2 Ow Ow' Ow1 Ow2 : List Addr}
theorem Keeps.refl (H : Hp) (ρ Ow : List Addr) : Keeps H ρ Ow H ρ Ow := ⟨fun _ _ h n m => ⟨h, n, m⟩, ⟨[], by simp⟩, fun _ _ _ h => h⟩
theorem Keeps.trans (a : Keeps H ρ Ow H1 ρ1 Ow1) (b : Keeps H1 ρ1 Ow1 H2 ρ2 Ow2) : Keeps H ρ Ow H2 ρ2 Ow2 := by
  refine ⟨fun c o h n m => ?_, ?_, fun c o u h => b.frz c o u (a.frz c o u h)⟩
  · obtain ⟨h1, n1, m1⟩ := a.keep c o h n m
    exact b.keep c o h1 n1 m1
  · obtain ⟨m1, rfl⟩ := a.pre
    obtain ⟨m2, rfl⟩ := b.pre
    exact ⟨m1 ++ m2, by simp⟩
theorem Ext.keeps (e : Ext H ρ H' ρ') (Ow : List Addr) : Keeps H ρ Ow H' ρ' Ow := ⟨fun a o h n m => ⟨(e.keep a o h n).1, (e.keep a o h n).2, m⟩, e.pre, e.frz⟩
theorem Rd.keeps (e : Keeps H ρ Ow H' ρ' Ow') {a : Addr} {u : HO} (q : Rd H a u) (n : a ∉ ρ) (m : a ∉ Ow) : Rd H' a u ∧ a ∉ ρ' ∧ a ∉ Ow' := by
  rcases q with q | ⟨o, q⟩
  · exact ⟨.inl (e.keep _ _ q n m).1, (e.keep _ _ q n m).2⟩
  · exact ⟨.inr ⟨o, (e.keep _ _ q n m).1⟩, (e.keep _ _ q n m).2⟩
theorem Rd.notList (hl : ∀ a ∈ Ow, ∃ vs, H a = some (.lst vs)) {a : Addr} {vs : List V} (q : Rd H a (.tup vs)) : a ∉ Ow := fun h => by
  obtain ⟨us, z⟩ := hl a h
  rcases q with q | ⟨o, q⟩ <;> rw [z] at q <;> cases q
mutual
theorem RV.keeps (e : Keeps H ρ Ow H' ρ' Ow') (hl : ∀ a ∈ Ow, ∃ vs, H a = some (.lst vs)) : ∀ {d : D} {v : V}, RV T H ρ Ow v d → RV T H' ρ' Ow' v d
  | _, _, .non => .non
  | _, _, .bl b => .bl b
  | _, _, .int i => .int i
  | _, _, .str s h c => .str s h c
  | _, _, .tup q z r => .tup (by
      rcases q with ⟨⟨o, q, hd⟩, n⟩ | q
      · obtain ⟨q1, q2, _⟩ := e.keep _ _ q n (Rd.notList hl (.inr ⟨o, q⟩))
        exact .inl ⟨⟨o, q1, hd⟩, q2⟩
      · exact .inr q) z (RVs.keeps e hl r)
  | _, _, .lst q n1 n2 z r => .lst (e.keep _ _ q n1 n2).1 (e.keep _ _ q n1 n2).2.1 (e.keep _ _ q n1 n2).2.2 z (RVs.keeps e hl r)
  | _, _, .fl q z r => .fl (by
      rcases q with ⟨⟨o, q⟩, n⟩ | q
      · have m : _ ∉ Ow := fun hm => by
          obtain ⟨us, z⟩ := hl _ hm
          rw [q] at z; cases z
        exact .inl ⟨⟨o, (e.keep _ _ q n m).1⟩, (e.keep _ _ q n m).2.1⟩
      · exact .inr q) z (RVs.keeps e hl r)
  | _, _, .loc h => .loc (by
      obtain ⟨m, rfl⟩ := e.pre
      rw [List.getElem?_append_left (List.getElem?_eq_some_iff.mp h).1]; exact h)
  | _, _, .obj q n1 n2 z r => .obj (e.keep _ _ q n1 n2).1 (e.keep _ _ q n1 n2).2.1 (e.keep _ _ q n1 n2).2.2 z (RVs.keeps e hl r)
  | _, _, .dct q n1 n2 hk r => .dct (e.keep _ _ q n1 n2).1 (e.keep _ _ q n1 n2).2.1 (e.keep _ _ q n1 n2).2.2 hk (RVs.keeps e hl r)
  | _, _, .cls c => .cls c
  | _, _, .raw q n z r => by
    obtain ⟨q1, q2, _⟩ := Rd.keeps e q n (Rd.notList hl q)
    exact .raw q1 q2 z (RVs.keeps e hl r)
theorem RVs.keeps (e : Keeps H ρ Ow H' ρ' Ow') (hl : ∀ a ∈ Ow, ∃ vs, H a = some (.lst vs)) : ∀ {ds : List D} {vs : List V}, RVs T H ρ Ow vs ds → RVs T H' ρ' Ow' vs ds
  | _, _, .nil => .nil
  | _, _, .cons r rs => .cons (RV.keeps e hl r) (RVs.keeps e hl rs)
end
end
def dicKV (kk : List (List L2.Key)) : List (List L2.Key × V) := kk.map fun k => (k, .bl true)
def dicD (kk : List (List L2.Key)) : List (List D) := kk.map fun k => k.map keyD
def dicO (H : Hp) (a : Addr) (z : Bool) (kk : List (List L2.Key)) : Prop := match z with
  | false => H a = some (.dT (dicKV kk))
  | true => ∃ o, H a = some (.frz o (.dT (dicKV kk)))
def ObR (T : Tb) (H : Hp) (ρ Ow : List Addr) (l : Nat) (a : Addr) : Obj → Prop
  | .lst ds => ltLocs l ds = true ∧ ∃ vs, H a = some (.lst vs) ∧ vs.length ≤ LIM ∧ RVs T H ρ Ow vs ds
  | .ins c fs => ltLocs l (fs.map (·.2)) = true ∧ ∃ dx vs, H a = some (.ins (T.cls c) dx ((fs.map fun p => T.nm p.1).zip vs)) ∧ vs.length = fs.length ∧ fs.length ≤ 100 ∧ RVs T H ρ Ow vs (fs.map (·.2))
  | .dic z ks => ∃ kk : List (List L2.Key), ks = dicD kk ∧ ks.length ≤ LIM ∧ dicO H a z kk
theorem dicO.at {H H' : Hp} {a : Addr} {z : Bool} {kk : List (List L2.Key)} (k : H' a = H a) (h : dicO H a z kk) : dicO H' a z kk := by
  cases z with
  | false => exact k.trans h
  | true => obtain ⟨o, h⟩ := h; exact ⟨o, k.trans h⟩
theorem dicO.ne {H : Hp} {a : Addr} {z : Bool} {kk : List (List L2.Key)} (h : dicO H a z kk) : H a ≠ none := by
  cases z with
  | false => exact fun e => by rw [show H a = _ from h] at e; cases e
  | true => obtain ⟨o, h⟩ := h; rw [h]; simp
structure StR (T : Tb) (H : Hp) (ρ Ow : List Addr) (st : Store) : Prop where
  len : ρ.length = st.length + T.tabs.length
  nd : ρ.Nodup
  apart : ∀ a ∈ ρ, a ∉ Ow
  lists : ∀ a ∈ Ow, ∃ vs, H a = some (.lst vs)
  at_ : ∀ (l : Nat) (a : Addr) (o : Obj), ρ[l + T.tabs.length]? = some a → st[l]? = some o → ObR T H ρ Ow l a o
  tab : ∀ (i : Nat) (p : Addr × PySem.Str), T.tabs[i]? = some p → ρ[i]? = some p.1 ∧ TabG H ρ p.1 p.2
def XcR (T : Tb) (H : Hp) (ρ Ow : List Addr) (dx : Option Addr) (fl : List Nm) (fs : List D) : Prop := match fl, fs, dx with
  | [], [], none => True
  | [f], [d], some x => ∃ v, H x = some (.xd [(T.nm f, v)]) ∧ x ∉ ρ ∧ x ∉ Ow ∧ RV T H ρ Ow v d
  | _, _, _ => False
def SlR (T : Tb) (H : Hp) (ρ Ow : List Addr) : Option (Option V) → Sl → Prop
  | _, .em => True
  | some (some v), .v d => RV T H ρ Ow v d
  | some (some (.ref a)), .own ds => a ∈ Ow ∧ ∃ vs, H a = some (.lst vs) ∧ vs.length ≤ LIM ∧ RVs T H ρ Ow vs ds
  | some (some (.ref a)), .xc c fs => ∃ dx fl, T.hx = some (a, dx, c, fl) ∧ XcR T H ρ Ow dx fl fs
  | _, _ => False
section
variable {T : Tb} {H H' : Hp} {ρ ρ' Ow Ow' : List Addr} {dx : Option Addr} {fl : List Nm} {fs : List D} {z : Option (Addr × Option Addr × Nat × List Nm)}
theorem XcR.imp {T' : Tb} (hn : T'.nm = T.nm) (h : ∀ x u, H x = some u → (∀ vs, u ≠ .lst vs) → x ∉ ρ → x ∉ Ow → H' x = some u ∧ x ∉ ρ' ∧ x ∉ Ow') (hr : ∀ v d, RV T H ρ Ow v d → RV T' H' ρ' Ow' v d) (q : XcR T H ρ Ow dx fl fs) : XcR T' H' ρ' Ow' dx fl fs := by
  unfold XcR at q ⊢
  split at q
  · trivial
  · obtain ⟨v, h1, h2, h3, r⟩ := q
    obtain ⟨g1, g2, g3⟩ := h _ _ h1 (fun vs e => by cases e) h2 h3
    exact ⟨v, by rw [hn]; exact g1, g2, g3, hr _ _ r⟩
  · exact q.elim
theorem XcR.ext (e : Ext H ρ H' ρ') (q : XcR T H ρ Ow dx fl fs) : XcR T H' ρ' Ow dx fl fs := q.imp rfl (fun x u h _ n1 n2 => ⟨(e.keep _ _ h n1).1, (e.keep _ _ h n1).2, n2⟩) fun _ _ r => r.ext e
theorem XcR.ow (h : ∀ a, H a ≠ none → a ∉ ρ → a ∉ Ow → a ∉ Ow') (q : XcR T H ρ Ow dx fl fs) : XcR T H ρ Ow' dx fl fs := q.imp rfl (fun x u e _ n1 n2 => ⟨e, n1, h _ (by rw [e]; simp) n1 n2⟩) fun _ _ r => r.ow h
theorem XcR.keeps (e : Keeps H ρ Ow H' ρ' Ow') (hl : ∀ a ∈ Ow, ∃ vs, H a = some (.lst vs)) (q : XcR T H ρ Ow dx fl fs) : XcR T H' ρ' Ow' dx fl fs := q.imp rfl (fun x u h _ n1 n2 => e.keep _ _ h n1 n2) fun _ _ r => r.keeps e hl
mutual
theorem RV.hx : ∀ {d : D} {v : V}, RV T H ρ Ow v d → RV { T with hx := z } H ρ Ow v d
  | _, _, .non => .non
  | _, _, .bl b => .bl b
  | _, _, .int i => .int i
  | _, _, .str s h c => .str s h c
  | _, _, .tup q z r => .tup q z (RVs.hx r)
  | _, _, .lst q n1 n2 z r => .lst q n1 n2 z (RVs.hx r)
  | _, _, .fl q z r => .fl q z (RVs.hx r)
  | _, _, .loc h => .loc (T := { T with hx := _ }) h
  | _, _, .obj q n1 n2 z r => .obj (T := { T with hx := _ }) q n1 n2 z (RVs.hx r)
  | _, _, .dct q n1 n2 hk r => .dct q n1 n2 hk (RVs.hx r)
  | _, _, .cls c => .cls (T := { T with hx := _ }) c
  | _, _, .raw q n z r => .raw q n z (RVs.hx r)
theorem RVs.hx : ∀ {ds : List D} {vs : List V}, RVs T H ρ Ow vs ds → RVs { T with hx := z } H ρ Ow vs ds
  | _, _, .nil => .nil
  | _, _, .cons r rs => .cons (RV.hx r) (RVs.hx rs)
end
theorem XcR.hx (q : XcR T H ρ Ow dx fl fs) : XcR { T with hx := z } H ρ Ow dx fl fs := XcR.imp (T := T) (T' := { T with hx := z }) rfl (fun x u h _ n1 n2 => ⟨h, n1, n2⟩) (fun _ _ r => r.hx) q
theorem StR.hx {st : Store} (s : StR T H ρ Ow st) : StR { T with hx := z } H ρ Ow st :=
  ⟨s.len, s.nd, s.apart, s.lists, fun l a o h1 h2 => by
    have q := s.at_ l a o h1 h2
    cases o with
    | lst ds =>
      obtain ⟨p, vs, h, z, r⟩ := q
      exact ⟨p, vs, h, z, r.hx⟩
    | ins c fs =>
      obtain ⟨p, dx, vs, h, z, z2, r⟩ := q
      exact ⟨p, dx, vs, h, z, z2, r.hx⟩
    | dic z ks => exact q, s.tab⟩
end
structure EnR (T : Tb) (H : Hp) (ρ Ow : List Addr) (σ : L2.St) (env : Env) : Prop where
  len : env.length = σ.length
  at_ : ∀ (i : Nat) (s : Sl), env[i]? = some s → SlR T H ρ Ow σ[i]? s
  apart : ∀ (i j : Nat) (xs ys : List D) (a : Addr), env[i]? = some (.own xs) → env[j]? = some (.own ys) → σ[i]? = some (some (.ref a)) → σ[j]? = some (some (.ref a)) → i = j
end G
namespace G
open PySem PySem.Spec PyProof.Rows
open L2 (V Hp HO upd SqL SqT Rd VK TE TT TA TI WX XK Cx PE PT PA PI)
section
variable {T : Tb} {H H' : Hp} {ρ ρ' Ow Ow' : List Addr}
theorem ObR.ext (e : Ext H ρ H' ρ') {l : Nat} {a : Addr} {o : Obj} (k : H' a = H a) (r : ObR T H ρ Ow l a o) : ObR T H' ρ' Ow l a o := by
  cases o with
  | lst ds =>
    obtain ⟨p, vs, h, z, r⟩ := r
    exact ⟨p, vs, by rw [k]; exact h, z, r.ext e⟩
  | ins c fs =>
    obtain ⟨p, dx, vs, h, z, z2, r⟩ := r
    exact ⟨p, dx, vs, by rw [k]; exact h, z, z2, r.ext e⟩
  | dic z ks =>
    obtain ⟨kk, e1, e2, h⟩ := r
    exact ⟨kk, e1, e2, h.at k⟩
theorem TabG.ext {P : Addr} {q : PySem.Str} (e : Ext H ρ H' ρ') (k : H' P = H P) (t : TabG H ρ P q) : TabG H' ρ' P q := by
  obtain ⟨ps, h1, h2, h3⟩ := t
  refine ⟨ps, by rw [k]; exact h1, h2, fun pos cv h => ?_⟩
  obtain ⟨c, e1, e2, e3⟩ := h3 pos cv h
  exact ⟨c, e1, (e.keep c _ e2 e3).1, (e.keep c _ e2 e3).2⟩
theorem codeO_list {c : Addr} {q : PySem.Str} {vs : List V} : some (LamX.CodeO c q) ≠ some (HO.lst vs) := fun z => by
  unfold LamX.CodeO at z
  cases z
theorem TabG.keeps {P : Addr} {q : PySem.Str} (e : Keeps H ρ Ow H' ρ' Ow') (hl : ∀ a ∈ Ow, ∃ vs, H a = some (.lst vs)) (k : H' P = H P) (t : TabG H ρ P q) : TabG H' ρ' P q := by
  obtain ⟨ps, h1, h2, h3⟩ := t
  refine ⟨ps, by rw [k]; exact h1, h2, fun pos cv h => ?_⟩
  obtain ⟨c, e1, e2, e3⟩ := h3 pos cv h
  have n : c ∉ Ow := fun hm => by
    obtain ⟨vs, z⟩ := hl c hm
    rw [e2] at z
    exact codeO_list z
  exact ⟨c, e1, (e.keep c _ e2 e3 n).1, (e.keep c _ e2 e3 n).2.1⟩
theorem TabG.there {P : Addr} {q : PySem.Str} (t : TabG H ρ P q) : H P ≠ none := by
  obtain ⟨ps, h1, _⟩ := t
  rw [h1]; simp
theorem StR.new {st : Store} {p : Addr} {o : HO} (hp : H p = none) (r : StR T H ρ Ow st) : StR T (upd H p o) ρ Ow st :=
  ⟨r.len, r.nd, r.apart, fun a ha => by
    obtain ⟨vs, q⟩ := r.lists a ha
    exact ⟨vs, by rw [L2.upd_ne (L2.ne_of_none q hp)]; exact q⟩, fun l a ob h1 h2 => (r.at_ l a ob h1 h2).ext (Ext.new hp) (by
    have q := r.at_ l a ob h1 h2
    have hn : H a ≠ none := by
      cases ob with
      | lst ds => obtain ⟨_, vs, h, _⟩ := q; rw [h]; simp
      | ins c fs => obtain ⟨_, dx, vs, h, _⟩ := q; rw [h]; simp
      | dic z ks => obtain ⟨kk, _, _, h⟩ := q; exact h.ne
    exact L2.upd_ne (fun e => hn (by rw [e]; exact hp))), fun i q h => by
    obtain ⟨h1, h2⟩ := r.tab i q h
    exact ⟨h1, h2.ext (Ext.new hp) (L2.upd_ne fun e => h2.there (by rw [e]; exact hp))⟩⟩
theorem StR.there {st : Store} (r : StR T H ρ Ow st) {l : Nat} {a : Addr} (h : ρ[l]? = some a) : ∃ o, H a = some o := by
  have hl0 := (List.getElem?_eq_some_iff.mp h).1
  rw [r.len] at hl0
  by_cases hk : l < T.tabs.length
  · obtain ⟨h1, ps, h2, _⟩ := r.tab l _ (List.getElem?_eq_getElem hk)
    rw [h] at h1
    cases h1
    exact ⟨_, h2⟩
  obtain ⟨l, rfl⟩ : ∃ m, l = m + T.tabs.length := ⟨l - T.tabs.length, by omega⟩
  have hl : l < st.length := by omega
  have q := r.at_ l a _ h (List.getElem?_eq_getElem hl)
  cases e : st[l] with
  | lst ds => rw [e] at q; obtain ⟨_, vs, h, _⟩ := q; exact ⟨_, h⟩
  | ins c fs => rw [e] at q; obtain ⟨_, dx, vs, h, _⟩ := q; exact ⟨_, h⟩
  | dic z ks => rw [e] at q; obtain ⟨kk, _, _, h⟩ := q; exact Option.ne_none_iff_exists'.mp h.ne
theorem StR.mem {st : Store} (r : StR T H ρ Ow st) {a : Addr} (h : a ∈ ρ) : ∃ o, H a = some o := by
  obtain ⟨l, hl⟩ := List.getElem?_of_mem h
  exact r.there hl
theorem StR.ow {st : Store} (r : StR T H ρ Ow st) (h : ∀ a, H a ≠ none → a ∉ ρ → a ∉ Ow → a ∉ Ow') (h2 : ∀ a ∈ ρ, a ∉ Ow') (h3 : ∀ a ∈ Ow', ∃ vs, H a = some (.lst vs)) : StR T H ρ Ow' st :=
  ⟨r.len, r.nd, h2, h3, fun l a ob h1 q => by
    have z := r.at_ l a ob h1 q
    cases ob with
    | lst ds => obtain ⟨p, vs, h', z, r⟩ := z; exact ⟨p, vs, h', z, r.ow h⟩
    | ins c fs => obtain ⟨p, dx, vs, h', z, z2, r⟩ := z; exact ⟨p, dx, vs, h', z, z2, r.ow h⟩
    | dic z2 ks => exact z, r.tab⟩
theorem ObR.new {l : Nat} {a p : Addr} {o : Obj} (hp : H p = none) (r : ObR T H ρ Ow l a o) : ObR T H ρ (p :: Ow) l a o := by
  cases o with
  | lst ds =>
    obtain ⟨q, vs, h, z, r⟩ := r
    exact ⟨q, vs, h, z, r.new hp⟩
  | ins c fs =>
    obtain ⟨q, dx, vs, h, z, z2, r⟩ := r
    exact ⟨q, dx, vs, h, z, z2, r.new hp⟩
  | dic z ks => exact r
theorem ObR.there {l : Nat} {a : Addr} {o : Obj} (r : ObR T H ρ Ow l a o) : H a ≠ none := by
  cases o with
  | lst ds => obtain ⟨_, vs, h, _⟩ := r; rw [h]; simp
  | ins c fs => obtain ⟨_, dx, vs, h, _⟩ := r; rw [h]; simp
  | dic z ks => obtain ⟨kk, _, _, h⟩ := r; exact h.ne
theorem EnR.ext {σ : L2.St} {env : Env} (e : Ext H ρ H' ρ') (hd : ∀ a ∈ Ow, a ∉ ρ) (r : EnR T H ρ Ow σ env) : EnR T H' ρ' Ow σ env := by
  refine ⟨r.len, fun i s h => ?_, r.apart⟩
  have q := r.at_ i s h
  cases s with
  | em => cases σ[i]? with
    | none => trivial
    | some o => cases o <;> trivial
  | v d =>
    cases hs : σ[i]? with
    | none => rw [hs] at q; exact q.elim
    | some o =>
      rw [hs] at q
      cases o with
      | none => exact q.elim
      | some v =>
        have q' : RV T H ρ Ow v d := q
        exact q'.ext e
  | own ds =>
    cases hs : σ[i]? with
    | none => rw [hs] at q; exact q.elim
    | some o =>
      rw [hs] at q
      cases o with
      | none => exact q.elim
      | some v =>
        cases v with
        | ref a =>
          obtain ⟨m, vs, h1, z, rs⟩ := (q : a ∈ Ow ∧ ∃ vs, H a = some (.lst vs) ∧ vs.length ≤ LIM ∧ RVs T H ρ Ow vs ds)
          exact ⟨m, vs, (e.keep _ _ h1 (hd a m)).1, z, rs.ext e⟩
        | _ => exact q.elim
  | xc c fs =>
    cases hs : σ[i]? with
    | none => rw [hs] at q; exact q.elim
    | some o =>
      rw [hs] at q
      cases o with
      | none => exact q.elim
      | some v =>
        cases v with
        | ref a =>
          obtain ⟨dx, fl, h1, h2⟩ := (q : ∃ dx fl, T.hx = some (a, dx, c, fl) ∧ XcR T H ρ Ow dx fl fs)
          exact ⟨dx, fl, h1, h2.ext e⟩
        | _ => exact q.elim
theorem StR.disj {st : Store} (r : StR T H ρ Ow st) : ∀ a ∈ Ow, a ∉ ρ := fun a h1 h2 => r.apart a h2 h1
theorem EnR.get {σ : L2.St} {env : Env} (r : EnR T H ρ Ow σ env) {i : Nat} {d : D} (h : env.get i = some d) : ∃ v, σ[i]? = some (some v) ∧ RV T H ρ Ow v d := by
  unfold Env.get at h
  cases e : env[i]? with
  | none => rw [e] at h; cases h
  | some s =>
    rw [e] at h
    cases s with
    | v d' =>
      cases h
      have q := r.at_ i _ e
      cases hs : σ[i]? with
      | none => rw [hs] at q; exact q.elim
      | some o =>
        rw [hs] at q
        cases o with
        | none => exact q.elim
        | some v => exact ⟨v, rfl, q⟩
    | em => cases h
    | own xs => cases h
    | xc c fs => cases h
theorem EnR.xc {σ : L2.St} {env : Env} (r : EnR T H ρ Ow σ env) {i : Nat} {c : Nat} {fs : List D} (e : env[i]? = some (.xc c fs)) : ∃ a dx fl, σ[i]? = some (some (.ref a)) ∧ T.hx = some (a, dx, c, fl) ∧ XcR T H ρ Ow dx fl fs := by
  have q := r.at_ i _ e
  cases hs : σ[i]? with
  | none => rw [hs] at q; exact q.elim
  | some o =>
    rw [hs] at q
    cases o with
    | none => exact q.elim
    | some v =>
      cases v with
      | ref a =>
        obtain ⟨dx, fl, h1, h2⟩ := (q : ∃ dx fl, T.hx = some (a, dx, c, fl) ∧ XcR T H ρ Ow dx fl fs)
        exact ⟨a, dx, fl, rfl, h1, h2⟩
      | _ => exact q.elim
theorem EnR.own {σ : L2.St} {env : Env} (r : EnR T H ρ Ow σ env) {i : Nat} {xs : List D} (e : env[i]? = some (.own xs)) : ∃ a vs, σ[i]? = some (some (.ref a)) ∧ a ∈ Ow ∧ H a = some (.lst vs) ∧ vs.length ≤ LIM ∧ RVs T H ρ Ow vs xs := by
  have q := r.at_ i _ e
  cases hs : σ[i]? with
  | none => rw [hs] at q; exact q.elim
  | some o =>
    rw [hs] at q
    cases o with
    | none => exact q.elim
    | some v =>
      cases v with
      | ref a =>
        obtain ⟨m, vs, h1, z, rs⟩ := (q : a ∈ Ow ∧ ∃ vs, H a = some (.lst vs) ∧ vs.length ≤ LIM ∧ RVs T H ρ Ow vs xs)
        exact ⟨a, vs, rfl, m, h1, z, rs⟩
      | _ => exact q.elim
def RW (T : Tb) (H : Hp) (ρ Ow : List Addr) (v : V) (d : D) : Prop := RV T H ρ Ow v d ∨ ∃ a vs ds, v = .ref a ∧ d = .lst ds ∧ H a = some (.lst vs) ∧ a ∉ ρ ∧ vs.length ≤ LIM ∧ RVs T H ρ Ow vs ds
def RX (str : Bool) (T : Tb) (H : Hp) (ρ Ow : List Addr) (v : V) (d : D) : Prop := match str with
  | true => RV T H ρ Ow v d
  | false => RW T H ρ Ow v d
theorem RX.w {str : Bool} {v : V} {d : D} (r : RX str T H ρ Ow v d) : RW T H ρ Ow v d := by
  cases str with
  | true => exact .inl r
  | false => exact r
theorem RV.x {str : Bool} {v : V} {d : D} (r : RV T H ρ Ow v d) : RX str T H ρ Ow v d := by
  cases str with
  | true => exact r
  | false => exact .inl r
theorem RW.ext {v : V} {d : D} (e : Ext H ρ H' ρ') (r : RW T H ρ Ow v d) : RW T H' ρ' Ow v d := by
  rcases r with r | ⟨a, vs, ds, h1, h2, h3, h4, h5, h6⟩
  · exact .inl (r.ext e)
  · exact .inr ⟨a, vs, ds, h1, h2, (e.keep _ _ h3 h4).1, (e.keep _ _ h3 h4).2, h5, h6.ext e⟩
theorem RX.ext {str : Bool} {v : V} {d : D} (e : Ext H ρ H' ρ') (r : RX str T H ρ Ow v d) : RX str T H' ρ' Ow v d := by
  cases str with
  | true => exact RV.ext e r
  | false => exact RW.ext e r
theorem EnR.pk {σ : L2.St} {env : Env} {st : Store} (r : EnR T H ρ Ow σ env) (s : StR T H ρ Ow st) {i : Nat} {d : D} (h : env.pk i = some d) : ∃ v, σ[i]? = some (some v) ∧ RW T H ρ Ow v d := by
  unfold Env.pk at h
  cases e : env[i]? with
  | none => rw [e] at h; cases h
  | some sl =>
    rw [e] at h
    cases sl with
    | v d' =>
      cases h
      obtain ⟨v, h1, h2⟩ := r.get (i := i) (d := d) (by unfold Env.get; rw [e])
      exact ⟨v, h1, .inl h2⟩
    | em => cases h
    | xc c fs => cases h
    | own xs =>
      cases h
      obtain ⟨a, vs, h1, m, h2, z, rs⟩ := r.own e
      exact ⟨.ref a, h1, .inr ⟨a, vs, xs, rfl, rfl, h2, s.disj a m, z, rs⟩⟩
end
def ExR (T : Tb) (xf : Nat → List Nm) (H : Hp) (ρ Ow : List Addr) (cls : Value) (dx : Option Addr) (c : Nat) (fs : List D) : Prop :=
  cls = .ref (T.exc c) ∧ match xf c, fs, dx with
    | [], [], none => True
    | [f], [d], some x => ∃ v, H x = some (.xd [(T.nm f, v)]) ∧ x ∉ ρ ∧ x ∉ Ow ∧ RV T H ρ Ow v d
    | _, _, _ => False
structure Wo where
  T : Tb
  xf : Nat → List Nm
  W : WX
  σ : L2.St
def Post {α : Type} (w : Wo) (H : Hp) (ρ Ow : List Addr) (Q : α → Store → Hp → List Addr → Prop) : O α → Prop
  | .ok a st => ∀ H' ρ', Ext H ρ H' ρ' → StR w.T H' ρ' Ow st → Q a st H' ρ'
  | .ex c fs st => ∀ cls dx H' ρ', Ext H ρ H' ρ' → StR w.T H' ρ' Ow st → ExR w.T w.xf H' ρ' Ow cls dx c fs → w.W cls dx w.σ H'
  | .bad => False
section
variable {w : Wo} {H H1 : Hp} {ρ ρ1 Ow : List Addr} {α β : Type}
theorem Post.later {Q : α → Store → Hp → List Addr → Prop} {o : O α} (e : Ext H ρ H1 ρ1) (h : Post w H ρ Ow Q o) : Post w H1 ρ1 Ow Q o := by
  cases o with
  | ok a st => exact fun H' ρ' e' s => h H' ρ' (e.trans e') s
  | ex c fs st => exact fun cls dx H' ρ' e' s => h cls dx H' ρ' (e.trans e') s
  | bad => exact h
theorem Post.bind {Q : β → Store → Hp → List Addr → Prop} {x : O α} {f : α → Store → O β} (h : Post w H ρ Ow Q (x.bind f)) :
    Post w H ρ Ow (fun a st H1 ρ1 => Post w H1 ρ1 Ow Q (f a st)) x := by
  cases x with
  | ok a st => exact fun H' ρ' e s => Post.later e h
  | ex c fs st => exact h
  | bad => exact h
theorem Post.mono {Q Q' : α → Store → Hp → List Addr → Prop} {o : O α} (h : Post w H ρ Ow Q o) (i : ∀ a st H' ρ', Ext H ρ H' ρ' → StR w.T H' ρ' Ow st → Q a st H' ρ' → Q' a st H' ρ') : Post w H ρ Ow Q' o := by
  cases o with
  | ok a st => exact fun H' ρ' e s => i _ _ _ _ e s (h H' ρ' e s)
  | ex c fs st => exact h
  | bad => exact h
theorem Post.of {Q : α → Store → Hp → List Addr → Prop} {x : Option α} {st : Store} (s : StR w.T H ρ Ow st) (h : Post w H ρ Ow Q (O.of x st)) : ∃ a, x = some a ∧ Q a st H ρ := by
  cases x with
  | none => exact h.elim
  | some a => exact ⟨a, rfl, h H ρ (Ext.refl _ _) s⟩
theorem Post.ok {Q : α → Store → Hp → List Addr → Prop} {a : α} {st : Store} (s : StR w.T H ρ Ow st) (h : Post w H ρ Ow Q (O.ok a st)) : Q a st H ρ := h H ρ (Ext.refl _ _) s
end
def At {α : Type} (T : Tb) (xf : Nat → List Nm) (W : WX) (f : Env → Store → O α) (Q : α → List Addr → List Addr → Hp → Prop) : L2.St → Hp → Prop := fun σ H =>
  ∃ env st ρ Ow, EnR T H ρ Ow σ env ∧ StR T H ρ Ow st ∧ Post ⟨T, xf, W, σ⟩ H ρ Ow (fun a _ H' ρ' => Q a ρ' Ow H') (f env st)
def tVal (T : Tb) (xf : Nat → List Nm) (W : WX) (str : Bool) (f : Env → Store → O D) : TE := fun σ H Q => At T xf W f (fun d ρ Ow H' => ∀ v, RX str T H' ρ Ow v d → Q v H') σ H
def tTst (T : Tb) (xf : Nat → List Nm) (W : WX) (f : Env → Store → O Bool) : TT := fun σ H Q => At T xf W f (fun b _ _ H' => Q b H') σ H
def Per (str : Bool) (H : Hp) (ρ Ow : List Addr) (H' : Hp) (ρ' Ow' : List Addr) : Prop := match str with
  | true => Keeps H ρ Ow H' ρ' Ow'
  | false => Ext H ρ H' ρ' ∧ ∀ a, H a ≠ none → a ∉ Ow → a ∉ Ow'
def New (H H' : Hp) : Prop := H' = H ∨ ∃ p xs, H p = none ∧ H' = upd H p (.tup xs)
theorem New.ext {H H' : Hp} (n : New H H') (ρ : List Addr) : Ext H ρ H' ρ := by
  rcases n with rfl | ⟨p, xs, hp, rfl⟩
  · exact Ext.refl _ _
  · exact Ext.new hp
theorem New.st {T : Tb} {H H' : Hp} {ρ Ow : List Addr} {st : Store} (n : New H H') (s : StR T H ρ Ow st) : StR T H' ρ Ow st := by
  rcases n with rfl | ⟨p, xs, hp, rfl⟩
  · exact s
  · exact s.new hp
structure Walk (str : Bool) (T : Tb) (J : L2.It) (H0 : Hp) (ρ0 Ow0 : List Addr) (ds : List D) : Prop where
  step : ∀ (i : Nat) (d : D) (H : Hp) (ρ Ow : List Addr) (st : Store), ds[i]? = some d → Per str H0 ρ0 Ow0 H ρ Ow → StR T H ρ Ow st → J.go i H ∧ ∀ x H', J.yld i H x H' → New H H' ∧ RV T H' ρ Ow x d
  stop : ∀ (H : Hp) (ρ Ow : List Addr), Per str H0 ρ0 Ow0 H ρ Ow → J.stop ds.length H
def tIt (T : Tb) (xf : Nat → List Nm) (W : WX) (str : Bool) (f : Env → Store → O (List D)) : TI := fun σ H R => At T xf W f (fun ds ρ Ow H' => ∀ J, Walk str T J H' ρ Ow ds → R J H') σ H
end G
namespace G
open PySem PySem.Spec PyProof.Rows
open L2 (V Hp HO upd SqL SqT Rd VK TE TT TA TI WX XK Cx PE PT PA PI Inv OpR CallR RelV Vals)
theorem PE.imp {X : Cx} {e : Expr} {t t' : TE} (h : PE X e t) (i : ∀ σ H Q, t' σ H Q → t σ H Q) : PE X e t' := ⟨fun pins s σ H Q I q => h.run pins s σ H Q I (i σ H Q q)⟩
theorem PT.imp {X : Cx} {e : Expr} {t t' : TT} (h : PT X e t) (i : ∀ σ H Q, t' σ H Q → t σ H Q) : PT X e t' := ⟨fun pins s σ H Q I q => h.run pins s σ H Q I (i σ H Q q)⟩
theorem PA.imp {X : Cx} {e : List Expr} {t t' : TA} (h : PA X e t) (i : ∀ σ H Q, t' σ H Q → t σ H Q) : PA X e t' := ⟨fun pos pins s σ H Q I q => h.run pos pins s σ H Q I (i σ H Q q)⟩
theorem PI.imp {X : Cx} {tg e : Expr} {t t' : TI} (h : PI X tg e t) (i : ∀ σ H Q, t' σ H Q → t σ H Q) : PI X tg e t' := ⟨fun pins s σ H Q I q => h.run pins s σ H Q I (i σ H Q q)⟩
structure CxG (X : Cx) (T : Tb) (N : List PySem.Str) (sc : Scope) (n : Nat) : Prop where
  eK : X.K = T.K
  eN : X.N = N
  nd : N.Nodup
  eS : X.env.scope = sc
  rm : L2H.RoomH n X.A
  guards : X.A.guards = some []
structure CxC (X : Cx) (T : Tb) (N : List PySem.Str) (sc : Scope) (n : Nat) : Prop extends CxG X T N sc n where
  calm : X.calm = true
  room : L2.Room n X.A
  hx0 : T.hx = none
structure JE (X : Cx) (T : Tb) (xf : Nat → List Nm) (W : WX) (e : Expr) (s : Sem) (str : Bool) : Prop where
  val : PE X e (tVal T xf W str s.val)
  test : PT X e (tTst T xf W s.test)
  items : ∀ tg, PI X tg e (tIt T xf W str s.items)
section
variable {X : Cx} {T : Tb} {xf : Nat → List Nm} {W : WX} {N : List PySem.Str} {sc : Scope} {n : Nat}
theorem lim_line : LIM = sizeLine := by rw [sizeLine_eq, LIM]
theorem RW.ow {H : Hp} {ρ Ow Ow' : List Addr} {v : V} {d : D} (h : ∀ a, H a ≠ none → a ∉ ρ → a ∉ Ow → a ∉ Ow') (r : RW T H ρ Ow v d) : RW T H ρ Ow' v d := by
  rcases r with r | ⟨a, vs, ds, h1, h2, h3, h4, h5, h6⟩
  · exact .inl (r.ow h)
  · exact .inr ⟨a, vs, ds, h1, h2, h3, h4, h5, h6.ow h⟩
theorem truth_ok {H : Hp} {ρ Ow : List Addr} {st : Store} {v : V} {d : D} {b : Bool} (s : StR T H ρ Ow st) (r : RW T H ρ Ow v d) (h : truth st d = some b) : L2.TruV T.K v H b := by
  rcases r with r | ⟨a, vs, ds, rfl, rfl, h1, h2, z, rs⟩
  · cases r with
    | non => cases h; rfl
    | bl k => cases h; rfl
    | int i => cases h; rfl
    | str x hx hc =>
      cases h
      refine ⟨by rw [← lim_line]; simpa [Str.length] using hx, ?_⟩
      cases x <;> simp [Str.length] <;> omega
    | tup q z rs =>
      cases h
      refine .inr (.inl ⟨_, q.sq, ?_⟩)
      cases rs <;> rfl
    | lst q n1 n2 z rs =>
      cases h
      refine .inl ⟨_, .inl (.inl q), ?_⟩
      cases rs <;> rfl
    | fl q z rs =>
      cases h
      refine .inl ⟨_, q.sq, ?_⟩
      cases rs <;> rfl
    | loc q =>
      rename_i a l
      unfold truth seqv at h
      cases e : st[l]? with
      | none => simp [e] at h
      | some o =>
        cases o with
        | ins c fs => simp [e] at h
        | dic z ks => simp [e] at h
        | lst ds =>
          have hb : b = !ds.isEmpty := by
            simp [e] at h
            cases b <;> simp_all
          subst hb
          obtain ⟨_, vs, h1, z, rs⟩ := s.at_ l a _ q e
          refine .inl ⟨vs, .inl (.inl h1), ?_⟩
          cases rs <;> rfl
    | obj q n1 n2 z rs => cases h
    | cls c => cases h
    | dct q n1 n2 hk r => cases h
    | raw q n z rs => cases h
  · cases h
    refine .inl ⟨_, .inl (.inl h1), ?_⟩
    cases rs <;> rfl
theorem test_of {e : Expr} {f : Env → Store → O D} {str : Bool} (C : CxG X T N sc n) (he : ∀ whole, isTrue e X.env whole = (do let v ← whole; standAt e.pos; holding [v] (truthy v))) (h : PE X e (tVal T xf W str f)) :
    PT X e (tTst T xf W (Sem.of f).test) := by
  refine PT.imp (L2.pt_truth h he) fun σ H Q q => ?_
  obtain ⟨env, st, ρ, Ow, en, sr, p⟩ := q
  refine ⟨env, st, ρ, Ow, en, sr, (Post.bind p).mono fun d st1 H1 ρ1 e1 s1 q v r => ?_⟩
  obtain ⟨b, e2, q⟩ := Post.of s1 q
  exact ⟨b, by rw [C.eK]; exact truth_ok s1 r.w e2, q⟩
theorem walk_lst {str : Bool} {H : Hp} {ρ Ow : List Addr} {st : Store} {a : Addr} {ds : List D} (s : StR T H ρ Ow st) (r : RX str T H ρ Ow (.ref a) (.lst ds)) : Walk str T (L2.Itl T.K a) H ρ Ow ds := by
  have key : ∀ H' ρ' Ow', Per str H ρ Ow H' ρ' Ow' → ∃ vs, SqL T.K H' a vs ∧ RVs T H' ρ' Ow' vs ds := fun H' ρ' Ow' p => by
    cases str with
    | true =>
      have r' : RV T H ρ Ow (.ref a) (.lst ds) := r
      have r2 := r'.keeps p s.lists
      cases r2 with
      | lst q n1 n2 z rs => exact ⟨_, .inl (.inl q), rs⟩
    | false =>
      obtain ⟨e, ho⟩ := p
      rcases RW.ext e (RW.ow (fun a h _ n => ho a h n) r) with r2 | ⟨b, vs, es, e1, e2, h1, h2, z, rs⟩
      · cases r2 with
        | lst q n1 n2 z rs => exact ⟨_, .inl (.inl q), rs⟩
      · cases e1; cases e2
        exact ⟨vs, .inl (.inl h1), rs⟩
  refine ⟨fun i d H' ρ' Ow' st' hd p s' => ?_, fun H' ρ' Ow' p => ?_⟩
  · obtain ⟨vs, q, rs⟩ := key H' ρ' Ow' p
    obtain ⟨v, hv, rv⟩ := rs.get hd
    refine ⟨⟨vs, v, q, hv⟩, fun x H2 y => ?_⟩
    obtain ⟨rfl, y⟩ := y
    have e := y vs q
    rw [hv] at e; cases e
    exact ⟨.inl rfl, rv⟩
  · obtain ⟨vs, q, rs⟩ := key H' ρ' Ow' p
    exact ⟨vs, q, Nat.le_of_eq rs.length⟩
theorem walk_tup {str : Bool} {H : Hp} {ρ Ow : List Addr} {st : Store} {a : Addr} {ds : List D} (s : StR T H ρ Ow st) (r : RX str T H ρ Ow (.ref a) (.tup ds)) : Walk str T (L2.Itt T.K a) H ρ Ow ds := by
  have key : ∀ H' ρ' Ow', Per str H ρ Ow H' ρ' Ow' → ∃ vs, SqT T.K H' a vs ∧ RVs T H' ρ' Ow' vs ds := fun H' ρ' Ow' p => by
    cases str with
    | true =>
      have r' : RV T H ρ Ow (.ref a) (.tup ds) := r
      have r2 := r'.keeps p s.lists
      cases r2 with
      | tup q z rs => exact ⟨_, q.sq, rs⟩
    | false =>
      obtain ⟨e, ho⟩ := p
      rcases RW.ext e (RW.ow (fun a h _ n => ho a h n) r) with r2 | ⟨b, vs, es, e1, e2, h1, h2, z, rs⟩
      · cases r2 with
        | tup q z rs => exact ⟨_, q.sq, rs⟩
      · cases e2
  refine ⟨fun i d H' ρ' Ow' st' hd p s' => ?_, fun H' ρ' Ow' p => ?_⟩
  · obtain ⟨vs, q, rs⟩ := key H' ρ' Ow' p
    obtain ⟨v, hv, rv⟩ := rs.get hd
    refine ⟨⟨vs, v, q, hv⟩, fun x H2 y => ?_⟩
    obtain ⟨rfl, y⟩ := y
    have e := y vs q
    rw [hv] at e; cases e
    exact ⟨.inl rfl, rv⟩
  · obtain ⟨vs, q, rs⟩ := key H' ρ' Ow' p
    exact ⟨vs, q, Nat.le_of_eq rs.length⟩
def iSeq (K : PySem.W.Frag) (tl : TE) : TI := fun σ H R => tl σ H fun x H1 => (∃ a, x = .ref a ∧ (((∃ xs, SqL K H1 a xs) ∧ R (L2.Itl K a) H1) ∨ ((∃ xs, SqT K H1 a xs) ∧ R (L2.Itt K a) H1))) ∨ ∃ y, x = .str y ∧ R (L2.Its y) H1
theorem pi_seq {tg l : Expr} {tl : TE} (hl : PE X l tl) : PI X tg l (iSeq X.K tl) := by
  refine ⟨fun pins s σ H R I h => ?_⟩
  refine L2.thn (hl.run pins s σ H _ I h) fun v s1 ⟨x, H1, I1, r1, q⟩ => ?_
  rcases q with ⟨a, e, q⟩ | ⟨x, ex, q⟩
  rotate_left
  · subst ex
    obtain ⟨t, rfl⟩ := r1
    cases ha : x.cps.all (· < 128)
    · exact wpAny_pyIter_wide ha (L2.pi_one (tk := s1.toks) I1 _ (L2.turn_str _ x t "str_iterator" (.inr rfl)) ⟨_, Heap.get?_push_size _ rfl, rfl, rfl⟩ q)
    · exact wpAny_pyIter_ascii ha (L2.pi_one (tk := s1.toks) I1 _ (L2.turn_str _ x t "str_ascii_iterator" (.inl rfl)) ⟨_, Heap.get?_push_size _ rfl, rfl, rfl⟩ q)
  subst e
  cases r1
  have fp : ∀ b ∈ [s1.heap.objs.size], L2.FpOk X pins H1 b := fun b hb => by
    rw [List.mem_singleton.mp hb]
    exact I1.fpOk (Nat.le_refl _) (I1.hok.fresh (Nat.le_refl _))
  rcases q with ⟨⟨xs, hq⟩, q⟩ | ⟨⟨xs, hq⟩, q⟩
  · obtain ⟨its, rv, p, hz⟩ := I1.list hq
    exact wpAny_pyIter_list p.isList ⟨_, [s1.heap.objs.size], _, _, H1, rfl, I1.kept (t' := s1.toks) fun b o e => Heap.get?_push_of_some _ e, L2.turn_list a _, ⟨_, Heap.get?_push_size _ rfl, rfl, rfl⟩, fp, q⟩
  · obtain ⟨its, rv, p, hz⟩ := I1.tuple hq
    exact wpAny_pyIter_tuple (show s1.heap.IsTuple a its.toArray from p) ⟨_, [s1.heap.objs.size], _, _, H1, rfl, I1.kept (t' := s1.toks) fun b o e => Heap.get?_push_of_some _ e, L2.turn_tuple a _, ⟨_, Heap.get?_push_size _ rfl, rfl, rfl⟩, fp, q⟩
theorem walk_str {str : Bool} {H : Hp} {ρ Ow : List Addr} {xs : List Nat} (hz : xs.length ≤ LIM) (hc : xs.all okCode = true) : Walk str T (L2.Its ⟨xs.toArray⟩) H ρ Ow (xs.map fun c => .str [c]) := by
  refine ⟨fun i d H1 ρ1 Ow1 st hd _ _ => ?_, fun H1 ρ1 Ow1 _ => ?_⟩
  · rw [List.getElem?_map, Option.map_eq_some_iff] at hd
    obtain ⟨c, h1, rfl⟩ := hd
    have hi : i < xs.length := (List.getElem?_eq_some_iff.mp h1).1
    refine ⟨by show i < xs.toArray.size; simpa using hi, fun x H' ⟨e, c', hc', ex⟩ => ?_⟩
    subst e
    have e2 : c' = c := by
      have : xs.toArray[i]? = some c' := hc'
      rw [List.getElem?_toArray, h1] at this
      exact (Option.some.inj this).symm
    subst e2
    subst ex
    have ho : okCode c' = true := List.all_eq_true.mp hc c' (List.mem_of_getElem? h1)
    have h1 : 1 ≤ LIM := by rw [lim_line]; decide
    exact ⟨.inl rfl, .str [c'] h1 (by simp [ho])⟩
  · show xs.toArray.size ≤ (xs.map _).length
    simp
theorem items_of {tg e : Expr} {f : Env → Store → O D} {str : Bool} (C : CxG X T N sc n) (h : PE X e (tVal T xf W str f)) : PI X tg e (tIt T xf W str (Sem.of f).items) := by
  refine PI.imp (pi_seq h) fun σ H R q => ?_
  obtain ⟨env, st, ρ, Ow, en, sr, p⟩ := q
  refine ⟨env, st, ρ, Ow, en, sr, (Post.bind p).mono fun d st1 H1 ρ1 e1 s1 q0 v r => ?_⟩
  obtain ⟨ds, e2, q⟩ := Post.of s1 q0
  clear q0
  rw [C.eK]
  have w := r
  cases d with
  | lst xs =>
    cases e2
    rcases r.w with r2 | ⟨a, vs, es, rfl, e2, h1, h2, z, rs⟩
    · cases r2 with
      | lst q2 n1 n2 z rs => exact .inl ⟨_, rfl, .inl ⟨⟨_, .inl (.inl q2)⟩, q _ (walk_lst s1 w)⟩⟩
    · cases e2
      exact .inl ⟨_, rfl, .inl ⟨⟨_, .inl (.inl h1)⟩, q _ (walk_lst s1 w)⟩⟩
  | tup xs =>
    cases e2
    rcases r.w with r2 | ⟨a, vs, es, rfl, e2, h1, h2, z, rs⟩
    · cases r2 with
      | tup q2 z rs => exact .inl ⟨_, rfl, .inr ⟨⟨_, q2.sq⟩, q _ (walk_tup s1 w)⟩⟩
    · cases e2
  | str xs =>
    cases e2
    rcases r.w with r2 | ⟨a, vs, es, rfl, e2, h1, h2, z, rs⟩
    · cases r2 with
      | str _ hz hc => exact .inr ⟨_, rfl, q _ (walk_str hz hc)⟩
    · cases e2
  | _ => cases e2
theorem JE.of {e : Expr} {f : Env → Store → O D} {str : Bool} (C : CxG X T N sc n) (h : PE X e (tVal T xf W str f)) (he : ∀ whole, isTrue e X.env whole = (do let v ← whole; standAt e.pos; holding [v] (truthy v)) := by intro _; rfl) :
    JE X T xf W e (Sem.of f) str := ⟨h, test_of C he h, fun _ => items_of C h⟩
end
end G
namespace G
open PySem PySem.Spec PyProof.Rows
open L2 (V Hp HO upd SqL SqT Rd VK TE TT TA TI WX XK Cx PE PT PA PI Inv OpR CallR RelV Vals R2)
end G
namespace G
open PySem PySem.Spec PyProof.Rows
open L2 (V Hp HO upd SqL SqT Rd VK TE TT TA TI WX XK Cx PE PT PA PI Inv OpR CallR RelV Vals R2)
def New1 (H H' : Hp) : Prop := H' = H ∨ ∃ p o, H p = none ∧ H' = upd H p o
theorem New1.refl (H : Hp) : New1 H H := .inl rfl
theorem New1.ext {H H' : Hp} (n : New1 H H') (ρ : List Addr) : Ext H ρ H' ρ := by
  rcases n with rfl | ⟨p, xs, hp, rfl⟩
  · exact Ext.refl _ _
  · exact Ext.new hp
theorem New1.st {T : Tb} {H H' : Hp} {ρ Ow : List Addr} {st : Store} (n : New1 H H') (s : StR T H ρ Ow st) : StR T H' ρ Ow st := by
  rcases n with rfl | ⟨p, xs, hp, rfl⟩
  · exact s
  · exact s.new hp
section
variable {T : Tb} {H H' : Hp} {ρ ρ' Ow Ow' : List Addr} {st : Store}
def RU (T : Tb) (H : Hp) (ρ Ow : List Addr) (v : V) (d : D) : Prop := RV T H ρ Ow v d ∨ ∃ a vs ds, v = .ref a ∧ d = .lst ds ∧ H a = some (.lst vs) ∧ vs.length ≤ LIM ∧ RVs T H ρ Ow vs ds
theorem RW.u {v : V} {d : D} (r : RW T H ρ Ow v d) : RU T H ρ Ow v d := by
  rcases r with r | ⟨a, vs, ds, h1, h2, h3, h4, h5, h6⟩
  · exact .inl r
  · exact .inr ⟨a, vs, ds, h1, h2, h3, h5, h6⟩
theorem view_lst {l : Nat} {ds : List D} (e : st[l]? = some (.lst ds)) : G.view st (.loc l) = .lst ds := by unfold G.view; simp [e]
theorem view_no {l : Nat} (e : ∀ ds, st[l]? ≠ some (.lst ds)) : G.view st (.loc l) = .loc l := by
  unfold G.view
  cases q : st[l]? with
  | none => simp [q]
  | some o =>
    cases o with
    | ins c fs => simp [q]
    | dic z ks => simp [q]
    | lst ds => exact absurd q (e ds)
theorem RW.view {v : V} {d : D} (s : StR T H ρ Ow st) (r : RW T H ρ Ow v d) : RU T H ρ Ow v (G.view st d) := by
  cases d with
  | loc l =>
    rcases r with r | ⟨_, _, _, _, h, _⟩
    · cases r with
      | loc q =>
        cases e : st[l]? with
        | none => rw [view_no (fun ds h => by rw [e] at h; cases h)]; exact .inl (.loc q)
        | some o =>
          cases o with
          | ins c fs => rw [view_no (fun ds h => by rw [e] at h; cases h)]; exact .inl (.loc q)
          | dic z ks => rw [view_no (fun ds h => by rw [e] at h; cases h)]; exact .inl (.loc q)
          | lst ds =>
            obtain ⟨_, vs, h1, z, rs⟩ := s.at_ l _ _ q e
            rw [view_lst e]
            exact .inr ⟨_, vs, ds, rfl, rfl, h1, z, rs⟩
    · cases h
  | _ => exact r.u
theorem RU.lst {v : V} {ds : List D} (r : RU T H ρ Ow v (.lst ds)) : ∃ a vs, v = .ref a ∧ H a = some (.lst vs) ∧ vs.length ≤ LIM ∧ RVs T H ρ Ow vs ds := by
  rcases r with r | ⟨a, vs, es, h1, h2, h3, h4, h5⟩
  · cases r with
    | lst q n1 n2 z rs => exact ⟨_, _, rfl, q, z, rs⟩
  · cases h2
    exact ⟨a, vs, h1, h3, h4, h5⟩
theorem RU.tup {v : V} {ds : List D} (r : RU T H ρ Ow v (.tup ds)) : ∃ a vs, v = .ref a ∧ StT T.K H ρ a vs ∧ vs.length ≤ LIM ∧ RVs T H ρ Ow vs ds := by
  rcases r with r | ⟨a, vs, es, h1, h2, h3, h4, h5⟩
  · cases r with
    | tup q z rs => exact ⟨_, _, rfl, q, z, rs⟩
  · cases h2
theorem RU.int {v : V} {i : Int} (r : RU T H ρ Ow v (.int i)) : v = .int i := by
  rcases r with r | ⟨a, vs, es, h1, h2, h3, h4, h5⟩
  · cases r; rfl
  · cases h2
theorem RU.bl {v : V} {i : Bool} (r : RU T H ρ Ow v (.bl i)) : v = .bl i := by
  rcases r with r | ⟨a, vs, es, h1, h2, h3, h4, h5⟩
  · cases r; rfl
  · cases h2
theorem RU.str {v : V} {x : List Nat} (r : RU T H ρ Ow v (.str x)) : v = .str ⟨x.toArray⟩ ∧ x.length ≤ LIM ∧ x.all okCode = true := by
  rcases r with r | ⟨a, vs, es, h1, h2, h3, h4, h5⟩
  · cases r with
    | str x h c => exact ⟨rfl, h, c⟩
  · cases h2
theorem RU.non {v : V} (r : RU T H ρ Ow v .non) : v = .non := by
  rcases r with r | ⟨a, vs, es, h1, h2, h3, h4, h5⟩
  · cases r; rfl
  · cases h2
theorem RW.seq {v : V} {d : D} {ds : List D} (s : StR T H ρ Ow st) (r : RW T H ρ Ow v d) (e : seqv st d = some ds) : ∃ a vs, v = .ref a ∧ (SqL T.K H a vs ∨ SqT T.K H a vs) ∧ vs.length ≤ LIM ∧ RVs T H ρ Ow vs ds := by
  cases d with
  | tup xs =>
    cases e
    obtain ⟨a, vs, h1, h2, h3, h4⟩ := r.u.tup
    exact ⟨a, vs, h1, .inr h2.sq, h3, h4⟩
  | lst xs =>
    cases e
    obtain ⟨a, vs, h1, h2, h3, h4⟩ := r.u.lst
    exact ⟨a, vs, h1, .inl (.inl (.inl h2)), h3, h4⟩
  | fl xs =>
    cases e
    rcases r with r | ⟨_, _, _, _, h, _⟩
    · cases r with
      | fl q z rs => exact ⟨_, _, rfl, .inl q.sq, z, rs⟩
    · cases h
  | loc l =>
    have w := r.view s
    unfold seqv at e
    cases e2 : st[l]? with
    | none => simp [e2] at e
    | some o =>
      cases o with
      | ins c fs => simp [e2] at e
      | dic z ks => simp [e2] at e
      | lst xs =>
        simp [e2] at e
        subst e
        have : G.view st (.loc l) = .lst xs := by unfold G.view; simp [e2]
        rw [this] at w
        obtain ⟨a, vs, h1, h2, h3, h4⟩ := w.lst
        exact ⟨a, vs, h1, .inl (.inl (.inl h2)), h3, h4⟩
  | _ => cases e
theorem StR.fresh (s : StR T H ρ Ow st) {p : Addr} (hp : H p = none) : p ∉ ρ ∧ p ∉ Ow := by
  refine ⟨fun h => ?_, fun h => ?_⟩
  · obtain ⟨o, q⟩ := s.mem h
    rw [hp] at q; cases q
  · obtain ⟨vs, q⟩ := s.lists _ h
    rw [hp] at q; cases q
end
section
variable {X : Cx} {T : Tb}
theorem RW.int {T : Tb} {H : Hp} {ρ Ow : List Addr} {v : V} {i : Int} (r : RW T H ρ Ow v (.int i)) : v = .int i := r.u.int
end
end G
namespace PySem.SeqAt
open AutoSeq1 (wpAny_loadPart')
open MeetsSeq
end PySem.SeqAt
namespace G
open PySem PySem.Spec PyProof.Rows
open L2 (V Hp HO upd SqL SqT Rd VK TE TT TA TI WX XK Cx PE PT PA PI Inv OpR CallR RelV Vals R2)
end G
namespace G
open PySem PySem.Spec PyProof.Rows
open L2 (V Hp HO upd SqL SqT Rd VK TE TT TA TI WX XK Cx PE PT PA PI Inv OpR CallR RelV Vals R2 PC)
end G
namespace G
open PySem PySem.Spec PyProof.Rows
open L2 (V Hp HO upd SqL SqT Rd VK TE TT TA TI WX XK Cx PE PT PA PI Inv OpR CallR RelV Vals R2 PC PW)
end G
namespace G
open PySem PySem.Spec PyProof.Rows
open L2 (V Hp HO upd SqL SqT Rd VK TE TT TA TI WX XK Cx PE PT PA PI Inv OpR CallR RelV Vals R2 PC PW)
end G
namespace G
open PySem PySem.Spec PyProof.Rows
open L2 (V Hp HO upd SqL SqT Rd VK TE TT TA TI WX XK Cx PE PT PA PI Inv OpR CallR RelV Vals R2 PC PW)
inductive RWs (T : Tb) (H : Hp) (ρ Ow : List Addr) : List V → List D → Prop
  | nil : RWs T H ρ Ow [] []
  | cons {v : V} {vs : List V} {d : D} {ds : List D} (r : RW T H ρ Ow v d) (rs : RWs T H ρ Ow vs ds) : RWs T H ρ Ow (v :: vs) (d :: ds)
end G
namespace G
open PySem PySem.Spec PyProof.Rows
open L2 (V Hp HO upd SqL SqT Rd VK XK TE TT TA TI TS Ends WX Cx PE PT PA PI PS PSs Inv OpR CallR RelV Vals R2 PC PW)
structure Step (Ow0 : List Addr) (H : Hp) (ρ Ow : List Addr) (H' : Hp) (ρ' Ow' : List Addr) : Prop where
  kp : Keeps H ρ Ow H' ρ' Ow'
  out : ∀ a ∈ Ow0, H' a = H a ∧ a ∈ Ow'
structure Fr (T : Tb) (Ow0 : List Addr) (H : Hp) (ρ Ow : List Addr) (σ : L2.St) (env : Env) (st : Store) : Prop where
  en : EnR T H ρ Ow σ env
  sr : StR T H ρ Ow st
  sub : ∀ a ∈ Ow0, a ∈ Ow
  out : ∀ (i : Nat) (xs : List D) (a : Addr), env[i]? = some (.own xs) → σ[i]? = some (some (.ref a)) → a ∉ Ow0
section
variable {T : Tb} {H H' H1 H2 : Hp} {ρ ρ' ρ1 ρ2 Ow Ow' Ow1 Ow2 Ow0 : List Addr} {σ : L2.St} {env : Env} {st st' : Store}
theorem Step.trans (a : Step Ow0 H ρ Ow H1 ρ1 Ow1) (b : Step Ow0 H1 ρ1 Ow1 H2 ρ2 Ow2) : Step Ow0 H ρ Ow H2 ρ2 Ow2 :=
  ⟨a.kp.trans b.kp, fun x hx => ⟨by rw [(b.out x hx).1, (a.out x hx).1], (b.out x hx).2⟩⟩
theorem Fr.refl (f : Fr T Ow0 H ρ Ow σ env st) : Step Ow0 H ρ Ow H ρ Ow := ⟨Keeps.refl _ _ _, fun a ha => ⟨rfl, f.sub a ha⟩⟩
theorem Fr.step (f : Fr T Ow0 H ρ Ow σ env st) (e : Ext H ρ H' ρ') : Step Ow0 H ρ Ow H' ρ' Ow := ⟨e.keeps Ow, fun a ha => by
  obtain ⟨vs, h⟩ := f.sr.lists a (f.sub a ha)
  exact ⟨by rw [h, (e.keep a _ h (f.sr.disj a (f.sub a ha))).1], f.sub a ha⟩⟩
theorem Fr.ext (f : Fr T Ow0 H ρ Ow σ env st) (e : Ext H ρ H' ρ') (s : StR T H' ρ' Ow st') : Fr T Ow0 H' ρ' Ow σ env st' := ⟨f.en.ext e f.sr.disj, s, f.sub, f.out⟩
end
structure WS where
  T : Tb
  xf : Nat → List Nm
  W : WX
  Ow0 : List Addr
  fre : Bool
def RRt (fre : Bool) (T : Tb) (H : Hp) (ρ Ow Ow0 : List Addr) (v : V) (d : D) : Prop := match fre with
  | false => RV T H ρ Ow v d
  | true => ∃ a vs xs, v = .ref a ∧ d = .lst xs ∧ a ∈ Ow ∧ a ∉ Ow0 ∧ H a = some (.lst vs) ∧ vs.length ≤ LIM ∧ RVs T H ρ Ow vs xs
def PostR (w : WS) (H : Hp) (ρ Ow : List Addr) (Z : Ends) : R → Prop
  | .nx env st => ∀ σ' H' ρ' Ow', Step w.Ow0 H ρ Ow H' ρ' Ow' → Fr w.T w.Ow0 H' ρ' Ow' σ' env st → Z.nx σ' H'
  | .bk env st => ∀ σ' H' ρ' Ow', Step w.Ow0 H ρ Ow H' ρ' Ow' → Fr w.T w.Ow0 H' ρ' Ow' σ' env st → Z.bk σ' H'
  | .ct env st => ∀ σ' H' ρ' Ow', Step w.Ow0 H ρ Ow H' ρ' Ow' → Fr w.T w.Ow0 H' ρ' Ow' σ' env st → Z.ct σ' H'
  | .rt d st => ∀ v H' ρ' Ow', Step w.Ow0 H ρ Ow H' ρ' Ow' → StR w.T H' ρ' Ow' st → RRt w.fre w.T H' ρ' Ow' w.Ow0 v d → Z.rt v H'
  | .ex env c fs st => ∀ cls dx σ' H' ρ' Ow', Step w.Ow0 H ρ Ow H' ρ' Ow' → Fr w.T w.Ow0 H' ρ' Ow' σ' env st → ExR w.T w.xf H' ρ' Ow' cls dx c fs → w.W cls dx σ' H'
  | .bad => False
def WS.o (w : WS) (σ : L2.St) : Wo := ⟨w.T, w.xf, w.W, σ⟩
section
variable {w : WS} {H H' H1 : Hp} {ρ ρ' ρ1 Ow Ow' Ow1 : List Addr} {σ : L2.St} {env : Env} {st st' : Store} {Z : Ends}
theorem PostR.later {r : R} (e : Step w.Ow0 H ρ Ow H1 ρ1 Ow1) (h : PostR w H ρ Ow Z r) : PostR w H1 ρ1 Ow1 Z r := by
  cases r with
  | nx env st => exact fun σ' H' ρ' Ow' s f => h σ' H' ρ' Ow' (e.trans s) f
  | bk env st => exact fun σ' H' ρ' Ow' s f => h σ' H' ρ' Ow' (e.trans s) f
  | ct env st => exact fun σ' H' ρ' Ow' s f => h σ' H' ρ' Ow' (e.trans s) f
  | rt d st => exact fun v H' ρ' Ow' s f r => h v H' ρ' Ow' (e.trans s) f r
  | ex env c fs st => exact fun cls dx σ' H' ρ' Ow' s f x => h cls dx σ' H' ρ' Ow' (e.trans s) f x
  | bad => exact h
theorem PostR.run {α : Type} {o : O α} {f : α → Store → R} (fr : Fr w.T w.Ow0 H ρ Ow σ env st) (h : PostR w H ρ Ow Z (o.run env f)) :
    Post (w.o σ) H ρ Ow (fun a st1 H1 ρ1 => Fr w.T w.Ow0 H1 ρ1 Ow σ env st1 ∧ PostR w H1 ρ1 Ow Z (f a st1)) o := by
  cases o with
  | ok a st1 => exact fun H1 ρ1 e s => ⟨fr.ext e s, PostR.later (fr.step e) h⟩
  | ex c fs st1 => exact fun cls dx H1 ρ1 e s x => h cls dx σ H1 ρ1 Ow (fr.step e) (fr.ext e s) x
  | bad => exact h
end
structure CxS (X : Cx) (w : WS) (N : List PySem.Str) (sc : Scope) (n : Nat) : Prop extends CxC X w.T N sc n where
  fn : ∀ x, X.fn x = true
  own : PassesOwn (model X.prog X.w) X.A X.env X.xe
  tk : L2N.Takes X w.W
section
variable {X : Cx} {w : WS} {N : List PySem.Str} {sc : Scope} {n : Nat} {e a b c : Expr} {pos : Pos} {se sc' : Sem} {str : Bool}
theorem PS.imp {s : Stmt} {t t' : TS} (h : PS X s t) (i : ∀ D σ H, t' D σ H → t D σ H) : PS X s t' := ⟨fun pins s σ H D I q => h.run pins s σ H D I (i D σ H q)⟩
theorem PSs.imp {s : List Stmt} {t t' : TS} (h : PSs X s t) (i : ∀ D σ H, t' D σ H → t D σ H) : PSs X s t' := ⟨fun pins s σ H D I q => h.run pins s σ H D I (i D σ H q)⟩
theorem RV.rt {T : Tb} {H : Hp} {ρ Ow Ow0 : List Addr} {v : V} {d : D} {fr : Bool} (h : fr = false) (r : RV T H ρ Ow v d) : RRt fr T H ρ Ow Ow0 v d := by
  subst h; exact r
end
end G
namespace G
open PySem PySem.Spec PyProof.Rows
open L2 (V Hp HO upd SqL SqT Rd VK XK TE TT TA TI TS TG TGs Ends WX Cx PE PT PA PI PS PSs PG PGs Inv OpR CallR RelV Vals R2 PC PW)
section
variable {T : Tb} {H H' H1 H2 : Hp} {ρ ρ' ρ1 ρ2 Ow Ow' Ow1 Ow2 Ow0 : List Addr} {σ : L2.St} {env : Env} {st st' : Store}
theorem EnR.set (en : EnR T H ρ Ow σ env) {v : V} {d : D} (i : Nat) (r : RV T H ρ Ow v d) : EnR T H ρ Ow (σ.set i (some v)) (env.set i (.v d)) := by
  refine ⟨by simp [en.len], fun j s h => ?_, fun j k xs ys a h1 h2 h3 h4 => ?_⟩
  · by_cases hj : i = j
    · subst hj
      have hi : i < env.length := by
        have := (List.getElem?_eq_some_iff.mp h).1
        simpa using this
      rw [List.getElem?_set_self hi] at h
      cases h
      rw [List.getElem?_set_self (by rw [← en.len]; exact hi)]
      exact r
    · rw [List.getElem?_set_ne hj] at h
      rw [List.getElem?_set_ne hj]
      exact en.at_ j s h
  · have e1 : i ≠ j := fun e => by
      subst e
      have hi : i < env.length := by
        have := (List.getElem?_eq_some_iff.mp h1).1
        simpa using this
      rw [List.getElem?_set_self hi] at h1; cases h1
    have e2 : i ≠ k := fun e => by
      subst e
      have hi : i < env.length := by
        have := (List.getElem?_eq_some_iff.mp h2).1
        simpa using this
      rw [List.getElem?_set_self hi] at h2; cases h2
    rw [List.getElem?_set_ne e1] at h1 h3
    rw [List.getElem?_set_ne e2] at h2 h4
    exact en.apart j k xs ys a h1 h2 h3 h4
theorem Fr.set (f : Fr T Ow0 H ρ Ow σ env st) {v : V} {d : D} (i : Nat) (r : RV T H ρ Ow v d) : Fr T Ow0 H ρ Ow (σ.set i (some v)) (env.set i (.v d)) st := by
  refine ⟨f.en.set i r, f.sr, f.sub, fun j xs a h1 h2 => ?_⟩
  have e1 : i ≠ j := fun e => by
    subst e
    have hi : i < env.length := by
      have := (List.getElem?_eq_some_iff.mp h1).1
      simpa using this
    rw [List.getElem?_set_self hi] at h1; cases h1
  rw [List.getElem?_set_ne e1] at h1 h2
  exact f.out j xs a h1 h2
theorem ObR.keeps (e : Keeps H ρ Ow H' ρ' Ow') (hl : ∀ a ∈ Ow, ∃ vs, H a = some (.lst vs)) {l : Nat} {a : Addr} {o : Obj} (k : H' a = H a) (r : ObR T H ρ Ow l a o) : ObR T H' ρ' Ow' l a o := by
  cases o with
  | lst ds =>
    obtain ⟨p, vs, h, z, r⟩ := r
    exact ⟨p, vs, by rw [k]; exact h, z, r.keeps e hl⟩
  | ins c fs =>
    obtain ⟨p, dx, vs, h, z, z2, r⟩ := r
    exact ⟨p, dx, vs, by rw [k]; exact h, z, z2, r.keeps e hl⟩
  | dic z ks =>
    obtain ⟨kk, e1, e2, h⟩ := r
    exact ⟨kk, e1, e2, h.at k⟩
end
end G
namespace G
open PySem PySem.Spec PyProof.Rows
open L2 (V Hp HO upd SqL SqT Rd VK XK TE TT TA TI TS TG TGs Ends WX Cx PE PT PA PI PS PSs PG PGs Inv OpR CallR RelV Vals R2 PC PW)
theorem PG.imp {X : Cx} {e : Expr} {t t' : TG} (h : PG X e t) (i : ∀ v σ H Q, t' v σ H Q → t v σ H Q) : PG X e t' := ⟨fun pins s σ H v u Q I r q => h.run pins s σ H v u Q I r (i v σ H Q q)⟩
theorem PGs.imp {X : Cx} {e : List Expr} {t t' : TGs} (h : PGs X e t) (i : ∀ v σ H Q, t' v σ H Q → t v σ H Q) : PGs X e t' := ⟨fun pins s σ H v u Q I r q => h.run pins s σ H v u Q I r (i v σ H Q q)⟩
def onlyNx (Q : L2.St → Hp → Prop) : Ends := ⟨Q, fun _ _ => False, fun _ _ => False, fun _ _ => False⟩
def tTgt (w : WS) (f : D → StS) : TG := fun v σ H Q => ∃ env st ρ Ow d, Fr w.T w.Ow0 H ρ Ow σ env st ∧ RV w.T H ρ Ow v d ∧ PostR w H ρ Ow (onlyNx Q) (f d env st)
structure JT (X : Cx) (w : WS) (tg : Expr) (f : D → StS) : Prop where
  run : PG X tg (tTgt w f)
  pl : ∀ d env st, (f d env st).pl = true
structure NmL (X : Cx) (x : PySem.Str) (i : Nat) : Prop where
  nd : X.N.Nodup
  at_ : X.N[i]? = some x
  loc : L2.Loc X.env.scope x
  fn : X.fn x = true ∨ X.env.scope.names.lookup x = some .local
section
variable {X : Cx} {w : WS} {N : List PySem.Str} {sc : Scope} {n : Nat} {e a b c tg : Expr} {pos pos' : Pos} {se sa sb : Sem} {str : Bool} {x : PySem.Str} {i : Nat}
theorem jt_nm (h : NmL X x i) : JT X w (.Name x pos) fun d env st => .nx (env.set i (.v d)) st :=
  ⟨PG.imp (L2.pg_name h.nd h.at_ h.loc h.fn) fun v σ H Q ⟨env, st, ρ, Ow, d, f, r, p⟩ => p _ H ρ Ow f.refl (f.set i r), fun _ _ _ => rfl⟩
def isTup : Expr → Bool
  | .Tuple .. => true
  | .List .. => true
  | _ => false
inductive VO (T : Tb) (H : Hp) (ρ Ow : List Addr) : List Addr → List Bool → List V → List D → Prop
  | nil : VO T H ρ Ow [] [] [] []
  | val {news : List Addr} {fl : List Bool} {v : V} {vs : List V} {d : D} {ds : List D} (r : RV T H ρ Ow v d) (rs : VO T H ρ Ow news fl vs ds) : VO T H ρ Ow news (false :: fl) (v :: vs) (d :: ds)
  | own {news : List Addr} {fl : List Bool} {a : Addr} {us vs : List V} {xs ds : List D} (m : a ∈ Ow) (h : H a = some (.lst us)) (z : us.length ≤ LIM) (r : RVs T H ρ Ow us xs) (rs : VO T H ρ Ow news fl vs ds) : VO T H ρ Ow (a :: news) (true :: fl) (.ref a :: vs) (.lst xs :: ds)
end
section
variable {T : Tb} {H H' H1 H2 : Hp} {ρ ρ' ρ1 ρ2 Ow Ow' Ow1 Ow2 Ow0 : List Addr} {σ : L2.St} {env : Env} {st st' : Store}
theorem VO.length {news : List Addr} {fl : List Bool} {vs : List V} {ds : List D} (h : VO T H ρ Ow news fl vs ds) : vs.length = ds.length := by
  induction h with
  | nil => rfl
  | val r rs ih => simp [ih]
  | own m h z r rs ih => simp [ih]
theorem VO.news {news : List Addr} {fl : List Bool} {vs : List V} {ds : List D} (h : VO T H ρ Ow news fl vs ds) : ∀ a ∈ news, H a ≠ none := by
  induction h with
  | nil => intro a h; cases h
  | val r rs ih => exact ih
  | own m h z r rs ih =>
    intro a ha
    rcases List.mem_cons.mp ha with e | ha
    · rw [e, h]; simp
    · exact ih a ha
end
section
variable {X : Cx} {T : Tb} {xf : Nat → List Nm} {W : WX}
theorem Ext.there {H H' : Hp} {ρ ρ' : List Addr} (e : Ext H ρ H' ρ') {a : Addr} {o : HO} (h : H a = some o) (n : a ∉ ρ) : H' a = some o := (e.keep a o h n).1
end
end G
namespace G
open PySem PySem.Spec PyProof.Rows
open L2 (V Hp HO upd SqL SqT Rd VK XK TE TT TA TI TS TG TGs Ends WX Cx PE PT PA PI PS PSs PG PGs Inv OpR CallR RelV Vals R2 PC PW)
end G
namespace G
open PySem PySem.Spec PyProof.Rows
open L2 (V Hp HO upd SqL SqT Rd VK XK TE TT TA TI TS TG TGs Ends WX Cx PE PT PA PI PS PSs PG PGs Inv OpR CallR RelV Vals R2 PC PW)
def plainT : Expr → Bool
  | .Starred .. => false
  | _ => true
section
variable {X : Cx} {w : WS} {N : List PySem.Str} {sc : Scope} {n : Nat} {e a b c tg : Expr} {pos pos' : Pos} {se sa sb : Sem} {str : Bool} {x : PySem.Str} {i : Nat}
inductive JTs (X : Cx) (w : WS) : List Expr → List (D → StS) → Prop
  | nil : JTs X w [] []
  | cons {e : Expr} {f : D → StS} {es : List Expr} {fs : List (D → StS)} (h : plainT e = true) (t : JT X w e f) (ts : JTs X w es fs) : JTs X w (e :: es) (f :: fs)
theorem JTs.pl {es : List Expr} {fs : List (D → StS)} (h : JTs X w es fs) : ∀ ds env st, (setAll fs ds env st).pl = true := by
  induction h with
  | nil => intro ds env st; cases ds <;> rfl
  | @cons e f es fs h t ts ih =>
    intro ds env st
    cases ds with
    | nil => rfl
    | cons d ds =>
      have q := t.pl d env st
      show (seqR (f d env st) (setAll fs ds)).pl = true
      cases e : f d env st with
      | nx env1 st1 => exact ih ds env1 st1
      | ex _ _ _ _ => rfl
      | bad => rfl
      | bk _ _ => rw [e] at q; cases q
      | ct _ _ => rw [e] at q; cases q
      | rt _ _ => rw [e] at q; cases q
end
end G
namespace G
open PySem PySem.Spec PyProof.Rows
open L2 (V Hp HO upd SqL SqT Rd VK XK TE TT TA TI TS TG TGs Ends WX Cx PE PT PA PI PS PSs PG PGs Inv OpR CallR RelV Vals R2 PC PW)
section
variable {X : Cx} {w : WS} {N : List PySem.Str} {sc : Scope} {n : Nat} {e a b c tg : Expr} {pos pos' : Pos} {se sa sb sc' : Sem} {str : Bool} {x : PySem.Str} {i : Nat}
def Off (is : List Nat) (σ σ' : L2.St) : Prop := σ'.length = σ.length ∧ ∀ j, j ∉ is → σ'[j]? = σ[j]?
theorem Off.trans {is js : List Nat} {σ σ1 σ2 : L2.St} (a : Off is σ σ1) (b : Off js σ1 σ2) : Off (is ++ js) σ σ2 :=
  ⟨b.1.trans a.1, fun j hj => by
    rw [List.mem_append, not_or] at hj
    rw [b.2 j hj.2, a.2 j hj.1]⟩
variable {T : Tb} {Ow0 : List Addr}
theorem isList {K : PySem.W.Frag} {H : Hp} {a : Addr} {vs : List V} (h : H a = some (.lst vs)) : L2.tyV K "list" (.ref a) H := .inl ⟨rfl, vs, .inl (.inl h)⟩
end
end G
namespace G
open PySem PySem.Spec PyProof.Rows
open L2 (V Hp HO upd SqL SqT Rd VK XK TE TT TA TI TS TG TGs Ends WX Cx PE PT PA PI PS PSs PG PGs Inv OpR CallR RelV Vals R2 PC PW)
end G
namespace G
open PySem PySem.Spec PyProof.Rows
open L2 (V Hp HO upd SqL SqT Rd VK XK TE TT TA TI TS TG TGs Ends WX Cx PE PT PA PI PS PSs PG PGs Inv OpR CallR RelV Vals R2 PC PW Sp Room Env0 CR FnScope cxOf Binds Gl)
def Want (T : Tb) (xf : Nat → List Nm) (c : Fd) (vs : List V) (H : Hp) (Q : VK) (E : XK) : Prop :=
  ∃ st ρ Ow ds, StR T H ρ Ow st ∧ RVs T H ρ Ow vs ds ∧ Post ⟨T, xf, fun cls dx _ H' => E cls dx H', []⟩ H ρ Ow (fun d _ H' ρ' => ∀ v, RV T H' ρ' Ow v d → Q v H') (c ds st)
def Give (fr : Bool) (T : Tb) (Q : VK) (d : D) (H : Hp) (ρ Ow : List Addr) : Prop := match fr with
  | false => ∀ v, RV T H ρ Ow v d → Q v H
  | true => ∃ xs, d = .lst xs ∧ ∀ p vs, H p = none → RVs T H ρ Ow vs xs → vs.length ≤ LIM → Q (.ref p) (upd H p (.lst vs))
def WantX (fr : Bool) (T : Tb) (xf : Nat → List Nm) (c : Fd) (vs : List V) (H : Hp) (Q : VK) (E : XK) : Prop :=
  ∃ st ρ Ow ds, StR T H ρ Ow st ∧ RVs T H ρ Ow vs ds ∧ Post ⟨T, xf, fun cls dx _ H' => E cls dx H', []⟩ H ρ Ow (fun d _ H' ρ' => Give fr T Q d H' ρ' Ow) (c ds st)
structure Wd where
  P : Program
  w : World
  K : PySem.W.Frag
  mg : PySem.Str → Option Value
  base : Heap
  T : Tb
  xf : Nat → List Nm
structure FnG (Y : Wd) (k : Nat) (f : Addr) (fd : FuncData) (ps : List PySem.Str) (c : Fd) : Prop where
  run : ∀ (A : Around) (outer : List PySem.Env) (s : Shared) (H : Hp) (args : Args) (us : List Value) (vs : List V) (Q : VK) (E : XK), Room k A → A.guards = some [] → Env0 Y.P Y.w Y.K Y.mg Y.base A outer s H → BindsTo s fd args (ps.zip us) → Vals vs us → vs.length = ps.length → Want Y.T Y.xf c vs H Q E →
    codeAny (model Y.P Y.w) A (.call (.ref f) args) (CR (L2N.CX Y.P Y.w) outer Y.P Y.w H s Q E) s
structure FnX (fr : Bool) (Y : Wd) (k : Nat) (f : Addr) (fd : FuncData) (ps : List PySem.Str) (c : Fd) : Prop where
  run : ∀ (A : Around) (outer : List PySem.Env) (s : Shared) (H : Hp) (args : Args) (us : List Value) (vs : List V) (Q : VK) (E : XK), Room k A → A.guards = some [] → Env0 Y.P Y.w Y.K Y.mg Y.base A outer s H → BindsTo s fd args (ps.zip us) → Vals vs us → vs.length = ps.length → WantX fr Y.T Y.xf c vs H Q E →
    codeAny (model Y.P Y.w) A (.call (.ref f) args) (CR (L2N.CX Y.P Y.w) outer Y.P Y.w H s Q E) s
theorem FnG.mono {Y : Wd} {j k : Nat} {f : Addr} {fd : FuncData} {ps : List PySem.Str} {c : Fd} (F : FnG Y j f fd ps c) (h : j ≤ k) : FnG Y k f fd ps c :=
  ⟨fun A outer s H args us vs Q E hr => F.run A outer s H args us vs Q E (hr.mono h)⟩
section
variable {Y : Wd} {X : Cx} {W : WX} {N : List PySem.Str} {sc : Scope} {n k : Nat}
structure CxY (X : Cx) (Y : Wd) (W : WX) (N : List PySem.Str) (sc : Scope) (n : Nat) : Prop extends CxC X Y.T N sc n where
  eP : X.prog = Y.P
  ew : X.w = Y.w
  eKY : X.K = Y.K
  em : X.mg = Y.mg
  eb : X.base = Y.base
  pass : ∀ σ, L2.PassesAt (L2N.CX X.prog X.w) X σ (L2.WE W σ)
variable {x : PySem.Str} {f : Addr} {fd : FuncData} {ps : List PySem.Str} {c : Fd} {p pos : Pos} {e : Expr} {es : List Expr} {ss : List Sem}
end
end G
namespace G
open PySem PySem.Spec PyProof.Rows
open L2 (V Hp HO upd SqL SqT Rd VK TE TT TA TI WX XK Cx PE PT PA PI Inv OpR CallR RelV Vals R2 PC PW)
section
variable {X : Cx} {T : Tb}
theorem RW.seqL {H : Hp} {ρ Ow : List Addr} {st : Store} {v : V} {d : D} {ds : List D} (s : StR T H ρ Ow st) (r : RW T H ρ Ow v d) (hn : ∀ zs, d ≠ .tup zs) (e : seqv st d = some ds) : ∃ a vs, v = .ref a ∧ SqL T.K H a vs ∧ vs.length ≤ LIM ∧ RVs T H ρ Ow vs ds := by
  cases d with
  | tup xs => exact absurd rfl (hn xs)
  | lst xs =>
    cases e
    obtain ⟨a, vs, h1, h2, h3, h4⟩ := r.u.lst
    exact ⟨a, vs, h1, .inl (.inl h2), h3, h4⟩
  | fl xs =>
    cases e
    rcases r with r | ⟨_, _, _, _, h, _⟩
    · cases r with
      | fl q z rs => exact ⟨_, _, rfl, q.sq, z, rs⟩
    · cases h
  | loc l =>
    have w := r.view s
    unfold seqv at e
    cases e2 : st[l]? with
    | none => simp [e2] at e
    | some o =>
      cases o with
      | ins c fs => simp [e2] at e
      | dic z ks => simp [e2] at e
      | lst xs =>
        simp [e2] at e
        subst e
        rw [view_lst e2] at w
        obtain ⟨a, vs, h1, h2, h3, h4⟩ := w.lst
        exact ⟨a, vs, h1, .inl (.inl h2), h3, h4⟩
  | _ => cases e
theorem RW.list {H : Hp} {ρ Ow : List Addr} {st : Store} {v : V} {d : D} {ds : List D} (s : StR T H ρ Ow st) (r : RW T H ρ Ow v d) (e : listv st d = some ds) : ∃ a vs, v = .ref a ∧ SqL T.K H a vs ∧ vs.length ≤ LIM ∧ RVs T H ρ Ow vs ds := by
  cases d with
  | tup xs => cases e
  | _ => exact r.seqL s (fun zs h => by cases h) e
end
end G
namespace G
open PySem PySem.Spec PyProof.Rows
open L2 (V Hp HO upd SqL SqT Rd VK TE TT TA TI WX XK Cx PE PT PA PI Inv OpR CallR RelV Vals R2 PC PW Gl)
section
variable {X : Cx} {T : Tb} {xf : Nat → List Nm} {W : WX} {N : List PySem.Str} {sc : Scope} {n : Nat}
theorem RWs.ext {H H' : Hp} {ρ ρ' Ow : List Addr} (e : Ext H ρ H' ρ') {vs : List V} {ds : List D} (r : RWs T H ρ Ow vs ds) : RWs T H' ρ' Ow vs ds := by
  induction r with
  | nil => exact .nil
  | cons r rs ih => exact .cons (r.ext e) ih
variable {p pos : Pos} {es : List Expr} {ss : List Sem}
end
end G
namespace G
open PySem PySem.Spec PyProof.Rows
open L2 (V Hp HO upd SqL SqT Rd VK TE TT TA TI WX XK Cx PE PT PA PI Inv OpR CallR RelV Vals R2 PC PW Gl)
end G
namespace G
open PySem PySem.Spec PyProof.Rows
open L2 (V Hp HO upd SqL SqT Rd VK XK TE TT TA TI TS TG TGs Ends WX Cx PE PT PA PI PS PSs PG PGs Inv OpR CallR RelV Vals R2 PC PW)
section
variable {T : Tb} {H H' H1 H2 : Hp} {ρ ρ' ρ1 ρ2 Ow Ow' Ow1 Ow2 Ow0 : List Addr} {σ : L2.St} {env : Env} {st st' : Store}
theorem SlR.em (o : Option (Option V)) : SlR T H ρ Ow o .em := by
  cases o with
  | none => trivial
  | some o => cases o <;> trivial
end
section
variable {X : Cx} {T : Tb} {xf : Nat → List Nm} {W : WX} {N : List PySem.Str} {sc scope : Scope} {n : Nat} {elt tg iter : Expr} {pos : Pos} {sE sI : G.Sem} {rE rI : Bool}
def W0 : WX := fun _ _ _ _ => False
theorem Post.calm {α : Type} {w w' : Wo} (hT : w.T = w'.T) {H : Hp} {ρ Ow : List Addr} {Q : α → Store → Hp → List Addr → Prop} {o : O α} (h : ∃ a st, o = .ok a st) (p : Post w H ρ Ow Q o) : Post w' H ρ Ow Q o := by
  obtain ⟨a, st, rfl⟩ := h
  intro H' ρ' e s
  exact p H' ρ' e (by rw [hT]; exact s)
end
end G
namespace G
open PySem PySem.Spec PyProof.Rows
open L2 (V Hp HO upd SqL SqT Rd VK XK TE TT TA TI TS TG TGs Ends WX Cx PE PT PA PI PS PSs PG PGs Inv OpR CallR RelV Vals R2 PC PW)
end G
namespace G
open PySem PySem.Spec PyProof.Rows
open L2 (V Hp HO upd SqL SqT Rd VK XK TE TT TA TI TS TG TGs Ends WX Cx PE PT PA PI PS PSs PG PGs Inv OpR CallR RelV Vals R2 PC PW Gl)
end G
namespace G
open PySem PySem.Spec PyProof.Rows
open L2 (V Hp HO upd SqL SqT Rd VK XK TE TT TA TI TS TG TGs Ends WX Cx PE PT PA PI PS PSs PG PGs Inv OpR CallR RelV Vals R2 PC PW Gl It Turn FpOk)
def IterS : Bool → Heap → Addr → Addr → Nat → Prop
  | true, h, it, a, i => h.IsTupleIter it a i
  | false, h, it, a, i => h.IsListIter it a i
def ItemsS : Bool → Heap → Addr → Array Value → Prop
  | true, h, a, u => h.IsTuple a u
  | false, h, a, u => h.IsList a u
theorem ItemsS.lt {k : Bool} {h : Heap} {a : Addr} {u : Array Value} (p : ItemsS k h a u) : a < h.objs.size := by
  cases k with
  | true => obtain ⟨o, ho, _⟩ := p; exact Heap.lt_size ho
  | false => obtain ⟨o, ho, _⟩ := p; exact Heap.lt_size ho
theorem IterS.obj {k : Bool} {h : Heap} {it a : Addr} {i : Nat} (p : IterS k h it a i) : ∃ o, h.get? it = some o ∧ ∀ v, o.data ≠ .cell v := by
  cases k with
  | true => obtain ⟨o, ho, _, hd⟩ := p; exact ⟨o, ho, fun v q => by rw [hd] at q; cases q⟩
  | false => obtain ⟨o, ho, _, hd⟩ := p; exact ⟨o, ho, fun v q => by rw [hd] at q; cases q⟩
theorem IterS.at {k : Bool} {h h' : Heap} {it a : Addr} {i : Nat} (p : IterS k h it a i) (f : ∀ o, h.get? it = some o → h'.get? it = some o) : IterS k h' it a i := by
  cases k with
  | true => exact Heap.IsTupleIter.at p f
  | false => exact Heap.IsListIter.at p f
end G
namespace G
open PySem PySem.Spec PyProof.Rows
open L2 (V Hp HO upd SqL SqT Rd VK XK TE TT TA TI TS TG TGs Ends WX Cx PE PT PA PI PS PSs PG PGs Inv OpR CallR RelV Vals R2 PC PW Gl It Turn FpOk)
end G
namespace G
open PySem PySem.Spec PyProof.Rows
open L2 (V Hp HO upd SqL SqT Rd VK XK TE TT TA TI TS TG TGs Ends WX Cx PE PT PA PI PS PSs PG PGs Inv OpR CallR RelV Vals R2 PC PW Gl Room)
end G
namespace G
open PySem PySem.Spec PyProof.Rows
open L2 (V Hp HO upd SqL SqT Rd VK XK TE TT TA TI TS TG TGs Ends WX Cx PE PT PA PI PS PSs PG PGs Inv OpR CallR RelV Vals R2 PC PW Gl Room)
end G
namespace G
open PySem PySem.Spec PyProof.Rows
open L2 (V Hp HO upd SqL SqT Rd VK XK TE TT TA TI TS TG TGs Ends WX Cx PE PT PA PI PS PSs PG PGs Inv OpR CallR RelV Vals R2 PC PW Gl Room)
end G
namespace G
open PySem PySem.Spec PyProof.Rows
open L2 (V Hp HO upd SqL SqT Rd VK XK TE TT TA TI TS TG TGs Ends WX Cx PE PT PA PI PS PSs PG PGs Inv OpR CallR RelV Vals R2 PC PW Gl Room)
section
variable {X : Cx} {Y : Wd} {W : WX} {N : List PySem.Str} {sc : Scope} {n k : Nat} {Γ : Ctx} {x : PySem.Str} {e o : Expr} {es : List Expr} {ss : List G.Sem} {pos apos : Pos} {so : G.Sem}
structure MeOk (Y : Wd) (k : Nat) (c : Nat) (m : Nm) (call : Fd) (np : Nat) : Prop where
  ex : ∃ (f : Addr) (fd : FuncData) (ps : List PySem.Str), L2.Meth Y.K (Y.T.cls c) (Y.T.nm m) f ∧ FnG Y k f fd ps call ∧ L2.Binds Y.K fd ps [] ∧ ps.length = np
structure CmOk (Y : Wd) (k : Nat) (c : Nat) (m : PySem.Str) (call : Fd) (np : Nat) : Prop where
  ex : ∃ (mc : Value) (p g : Addr) (fd : FuncData) (ps : List PySem.Str), ClX.CRead Y.K (Y.T.cls c) mc ∧ ClX.CMet Y.K (Y.T.cls c) mc m p g ∧ FnG Y k g fd ps call ∧ L2.Binds Y.K fd ps [] ∧ ps.length = np
end
end G
namespace G
open PySem PySem.Spec PyProof.Rows
open L2 (V Hp HO upd SqL SqT Rd VK XK TE TT TA TI TS TG TGs Ends WX Cx PE PT PA PI PS PSs PG PGs Inv OpR CallR RelV Vals R2 PC PW Gl Room)
structure ClTy (K : PySem.W.Frag) (C : Addr) : Prop where
  cl : L2.Cls K C
  ha : PySem.W.findIn K (.ref C) "__class__" = some (some (.builtin "object.__class__"))
  hn : PySem.W.specialIn K (.builtin "object.__class__") "__get__" = some (some (.builtin "getset_descriptor.__get__"))
  htk : PySem.W.takesIn K (.builtin "object.__class__") = some true
  hm : PySem.W.mroIn K C (.type "object") = some true
end G
namespace G
open PySem PySem.Spec PyProof.Rows
open L2 (V Hp HO upd SqL SqT Rd VK XK TE TT TA TI TS TG TGs Ends WX Cx PE PT PA PI PS PSs PG PGs Inv OpR CallR RelV Vals R2 PC PW Gl Room)
end G
namespace G
open PySem PySem.Spec PyProof.Rows
open L2 (V Hp HO upd SqL SqT Rd VK XK TE TT TA TI TS TG TGs Ends WX Cx PE PT PA PI PS PSs PG PGs Inv OpR CallR RelV Vals R2 PC PW Gl Room)
section
variable {X : Cx} {Y : Wd} {T : Tb} {xf : Nat → List Nm} {W : WX} {N : List PySem.Str} {sc : Scope} {n k : Nat} {e o : Expr} {es : List Expr} {p p2 pos apos cpos : Pos} {s t : G.Sem} {ss : List G.Sem} {str str2 : Bool}
theorem PO.imp {eo : Option Expr} {t t' : L2.TO} (h : L2.PO X eo t) (i : ∀ σ H Q, t' σ H Q → t σ H Q) : L2.PO X eo t' := ⟨fun pins s σ H Q I q => h.run pins s σ H Q I (i σ H Q q)⟩
end
end G
namespace G
open PySem PySem.Spec PyProof.Rows
open L2 (V Hp HO upd SqL SqT Rd VK XK TE TT TA TI TS TG TGs Ends WX Cx PE PT PA PI PS PSs PG PGs Inv OpR CallR RelV Vals R2 PC PW Gl)
end G
namespace G
open PySem PySem.Spec PyProof.Rows
open L2 (V Hp HO upd SqL SqT Rd VK XK TE TT TA TI TS TG TGs Ends WX Cx PE PT PA PI PS PSs PG PGs Inv OpR CallR RelV Vals R2 PC PW Gl Room)
end G
namespace G
open PySem PySem.Spec PyProof.Rows
open L2 (V Hp HO upd SqL SqT Rd VK XK TE TT TA TI TS TG TGs Ends WX Cx PE PT PA PI PS PSs PG PGs Inv OpR CallR RelV Vals R2 PC PW Gl Room)
end G
namespace G
open PySem PySem.Spec PyProof.Rows
open L2 (V Hp HO upd SqL SqT Rd VK XK TE TT TA TI TS TG TGs Ends WX Cx PE PT PA PI PS PSs PG PGs Inv OpR CallR RelV Vals R2 PC PW Gl Room)
end G
namespace G
open PySem PySem.Spec PyProof.Rows
open L2 (V Hp HO upd SqL SqT Rd VK XK TE TT TA TI TS TG TGs Ends WX Cx PE PT PA PI PS PSs PG PGs Inv OpR CallR RelV Vals R2 PC PW Gl Room)
end G
namespace G
open PySem PySem.Spec PyProof.Rows
open L2 (V Hp HO upd SqL SqT Rd VK XK TE TT TA TI TS TG TGs Ends WX Cx PE PT PA PI PS PSs PG PGs Inv OpR CallR RelV Vals R2 PC PW Gl Room exo exd)
end G
namespace G
open PySem PySem.Spec PyProof.Rows
open L2 (V Hp HO upd SqL SqT Rd VK XK TE TT TA TI TS TG TGs Ends WX Cx PE PT PA PI PS PSs PG PGs Inv OpR CallR RelV Vals R2 PC PW Gl Room exo exd)
end G
namespace G
open PySem PySem.Spec PyProof.Rows
open L2 (V Hp HO upd SqL SqT Rd VK XK TE TT TA TI TS TG TGs Ends WX Cx PE PT PA PI PS PSs PG PGs Inv OpR CallR RelV Vals R2 PC PW Gl Room)
open LamX (TabB lamEnv TabS Tabs CodeO)
end G
namespace G
open PySem PySem.Spec PyProof.Rows
open L2 (V Hp HO upd SqL SqT Rd VK XK Inv RelV Vals Gl Room Env0 Mod HOk)
end G
namespace G
open PySem PySem.Spec PyProof.Rows
open L2 (V Hp HO upd SqL SqT Rd VK XK TE TT TA TI TS TG TGs Ends WX Cx PE PT PA PI PS PSs PG PGs Inv OpR CallR RelV Vals R2 PC PW)
section
variable {T : Tb} {H : Hp} {ρ Ow Ow0 : List Addr} {σ : L2.St} {env : Env} {st : Store}
theorem Fr.frz (f : Fr T Ow0 H ρ Ow σ env st) {i : Nat} {xs : List D} (e : env[i]? = some (.own xs)) :
    ∃ Ow', Step Ow0 H ρ Ow H ρ Ow' ∧ Fr T Ow0 H ρ Ow' σ (env.set i (.v (.lst xs))) st := by
  obtain ⟨a, vs, hσ, m, h, z, rs⟩ := f.en.own e
  have n0 := f.out i xs a e hσ
  have hn : a ∉ ρ := f.sr.disj a m
  have sub : ∀ b, b ∉ Ow → b ∉ Ow.filter (fun b => decide (b ≠ a)) := fun b hb h2 => hb (List.mem_filter.mp h2).1
  have na : a ∉ Ow.filter (fun b => decide (b ≠ a)) := fun h2 => by
    have := (List.mem_filter.mp h2).2
    simp at this
  have mem : ∀ b, b ∈ Ow → b ≠ a → b ∈ Ow.filter (fun b => decide (b ≠ a)) := fun b hb hne => List.mem_filter.mpr ⟨hb, by simpa using hne⟩
  refine ⟨Ow.filter (fun b => decide (b ≠ a)), ⟨⟨fun b o q n1 n2 => ⟨q, n1, sub b n2⟩, ⟨[], by simp⟩, fun _ _ _ h => h⟩, fun b hb => ⟨rfl, mem b (f.sub b hb) fun e => n0 (by rw [← e]; exact hb)⟩⟩, ?_⟩
  have wk : ∀ {d : D} {v : V}, RV T H ρ Ow v d → RV T H ρ (Ow.filter (fun b => decide (b ≠ a))) v d := fun r => r.ow fun b _ _ h => sub b h
  have wks : ∀ {d : List D} {v : List V}, RVs T H ρ Ow v d → RVs T H ρ (Ow.filter (fun b => decide (b ≠ a))) v d := fun r => r.ow fun b _ _ h => sub b h
  have hi : i < env.length := (List.getElem?_eq_some_iff.mp e).1
  refine ⟨⟨by simp [f.en.len], fun j s h1 => ?_, fun j k ys zs b h1 h2 h3 h4 => ?_⟩, f.sr.ow (fun b _ _ h => sub b h) (fun b hb => sub b (f.sr.apart b hb)) (fun b hb => f.sr.lists b (List.mem_filter.mp hb).1), fun b hb => mem b (f.sub b hb) fun e => n0 (by rw [← e]; exact hb), fun j ys b h1 h2 => ?_⟩
  · by_cases hj : i = j
    · subst hj
      rw [List.getElem?_set_self hi] at h1
      cases h1
      rw [hσ]
      exact .lst h hn na z (wks rs)
    · rw [List.getElem?_set_ne hj] at h1
      have q := f.en.at_ j s h1
      cases s with
      | em =>
        cases hs : σ[j]? with
        | none => trivial
        | some o => cases o <;> trivial
      | v d =>
        cases hs : σ[j]? with
        | none => rw [hs] at q; exact q.elim
        | some o =>
          rw [hs] at q
          cases o with
          | none => exact q.elim
          | some v => exact wk q
      | own zs =>
        obtain ⟨b, ws, g1, g2, g3, g4, g5⟩ := f.en.own h1
        rw [g1]
        exact ⟨mem b g2 fun eb => by
          subst eb
          exact hj (f.en.apart i j xs zs b e h1 hσ g1), ws, g3, g4, wks g5⟩
      | xc c fs =>
        obtain ⟨b, dx, fl, g1, g2, g3⟩ := f.en.xc h1
        rw [g1]
        exact ⟨dx, fl, g2, g3.ow fun b _ _ h => sub b h⟩
  · have old : ∀ (j : Nat) (zs : List D), (env.set i (.v (.lst xs)))[j]? = some (.own zs) → env[j]? = some (.own zs) := fun j zs h => by
      by_cases hj : i = j
      · subst hj
        rw [List.getElem?_set_self hi] at h; cases h
      · rw [List.getElem?_set_ne hj] at h; exact h
    exact f.en.apart j k ys zs b (old j ys h1) (old k zs h2) h3 h4
  · by_cases hj : i = j
    · subst hj
      rw [List.getElem?_set_self hi] at h1; cases h1
    · rw [List.getElem?_set_ne hj] at h1
      exact f.out j ys b h1 h2
end
end G
namespace G
open PySem PySem.Spec PyProof.Rows
open L2 (V Hp HO upd SqL SqT Rd VK XK TE TT TA TI TS TG TGs Ends WX Cx PE PT PA PI PS PSs PG PGs Inv OpR CallR RelV Vals R2 PC PW Gl Room Env0)
end G
namespace G
open PySem PySem.Spec PyProof.Rows
open L2 (V Hp HO upd SqL SqT Rd VK XK TE TT TA TI TS TG TGs Ends WX Cx PE PT PA PI PS PSs PG PGs Inv OpR CallR RelV Vals R2 PC PW Gl)
end G
namespace G
open PySem PySem.Spec PyProof.Rows
open L2 (V Hp HO upd SqL SqT Rd VK XK TE TT TA TI TS TG TGs Ends WX Cx PE PT PA PI PS PSs PG PGs Inv OpR CallR RelV Vals R2 PC PW Gl Room)
end G
namespace G
open PySem PySem.Spec PyProof.Rows
open L2 (V Hp HO upd SqL SqT Rd VK XK TE TT TA TI TS TG TGs Ends WX Cx PE PT PA PI PS PSs PG PGs Inv OpR CallR RelV Vals R2 PC PW Gl Room Env0)
end G
namespace G
open PySem PySem.Spec PyProof.Rows
open L2 (V Hp HO upd SqL SqT Rd VK XK TE TT TA TI TS TG TGs Ends WX Cx PE PT PA PI PS PSs PG PGs Inv OpR CallR RelV Vals R2 PC PW Gl)
end G
namespace G
open PySem PySem.Spec PyProof.Rows
open L2 (V Hp HO upd SqL SqT Rd VK XK TE TT TA TI TS TG TGs Ends WX Cx PE PT PA PI PS PSs PG PGs Inv OpR CallR RelV Vals R2 PC PW Sp Room Env0 CR FnScope cxOf Binds Gl)
def HotAt (X : Cx) (T : Tb) (xf : Nat → List Nm) : Prop := ∃ (a : Addr) (dx : Option Addr) (c : Nat) (oe : PySem.Obj), T.hx = some (a, dx, c, xf c) ∧ (a, oe) ∈ X.pn ∧ L2N.Zn (.ref (T.exc c)) dx oe ∧ (∃ fv, oe.data = .fields fv) ∧ X.A.handled = some (.ref a)
def WantH (T : Tb) (xf : Nat → List Nm) (c : Fd) (dx : Option Addr) (cn : Nat) (vs : List V) (H : Hp) (Q : VK) : Prop :=
  ∃ st ρ Ow ds fs, StR T H ρ Ow st ∧ RVs T H ρ Ow vs ds ∧ XcR T H ρ Ow dx (xf cn) fs ∧ Post ⟨T, xf, W0, []⟩ H ρ Ow (fun d _ H' ρ' => ∀ v, RV T H' ρ' Ow v d → Q v H') (c (.exc (cn + 1) fs :: ds) st)
def Tb.hot (T : Tb) (xf : Nat → List Nm) (a : Addr) (dx : Option Addr) (cn : Nat) : Tb := { T with hx := some (a, dx, cn, xf cn) }
structure FnHot (Y : Wd) (k : Nat) (f : Addr) (fd : FuncData) (ps : List PySem.Str) (c : Fd) : Prop where
  run : ∀ (A : Around) (outer : List PySem.Env) (s : Shared) (H : Hp) (args : Args) (us : List Value) (vs : List V) (Q : VK) (a : Addr) (dx : Option Addr) (cn : Nat) (oe : PySem.Obj), L2H.RoomH k A → A.guards = some [] → L2H.PinOk outer H s (a, oe) → L2N.Zn (.ref (Y.T.exc cn)) dx oe → (∃ fv, oe.data = .fields fv) → A.handled = some (.ref a) →
    Env0 Y.P Y.w Y.K Y.mg Y.base A outer s H → BindsTo s fd args (ps.zip (.ref a :: us)) → Vals vs us → vs.length + 1 = ps.length → WantH (Y.T.hot Y.xf a dx cn) Y.xf c dx cn vs H Q →
    codeAny (model Y.P Y.w) A (.call (.ref f) args) (CR (L2N.CX Y.P Y.w) outer Y.P Y.w H s Q fun _ _ _ => False) s
theorem FnHot.mono {Y : Wd} {j k : Nat} {f : Addr} {fd : FuncData} {ps : List PySem.Str} {c : Fd} (F : FnHot Y j f fd ps c) (h : j ≤ k) : FnHot Y k f fd ps c :=
  ⟨fun A outer s H args us vs Q a dx cn oe hr => F.run A outer s H args us vs Q a dx cn oe (hr.mono h)⟩
end G
namespace G
open PySem PySem.Spec PyProof.Rows
open L2 (V Hp HO upd SqL SqT Rd VK XK TE TT TA TI TS TG TGs Ends WX Cx PE PT PA PI PS PSs PG PGs Inv OpR CallR RelV Vals R2 PC PW Sp Room Env0 CR FnScope cxOf Binds Gl Names SP frs)
open L2N (Takes Zn)
section
variable {X : Cx} {w : WS} {N : List PySem.Str} {sc : Scope} {k : Nat} {n : PySem.Str} {i : Nat} {body : List Stmt} {hds : List ExceptHandler} {gs : List (Nat × StS)} {pos : Pos} {f : StS}
theorem Fr.hot {T : Tb} {xf : Nat → List Nm} {Ow0 : List Addr} {H : Hp} {ρ Ow : List Addr} {σ : L2.St} {env : Env} {st : Store} {a : Addr} {dx : Option Addr} {c : Nat} {fs : List D} (hx0 : T.hx = none) (fr : Fr T Ow0 H ρ Ow σ env st) (hi : i < σ.length) (xr : XcR T H ρ Ow dx (xf c) fs) :
    Fr (T.hot xf a dx c) Ow0 H ρ Ow (σ.set i (some (.ref a))) (env.set i (.xc c fs)) st := by
  have hl : i < env.length := by rw [fr.en.len]; exact hi
  have old : ∀ (j : Nat) (xs : List D) (b : Addr), (env.set i (.xc c fs))[j]? = some (.own xs) → (σ.set i (some (.ref a)))[j]? = some (some (.ref b)) → j ≠ i ∧ env[j]? = some (.own xs) ∧ σ[j]? = some (some (.ref b)) := fun j xs b h1 h2 => by
    by_cases e : j = i
    · subst e
      rw [List.getElem?_set_self hl] at h1
      cases h1
    · rw [List.getElem?_set_ne (Ne.symm e)] at h1 h2
      exact ⟨e, h1, h2⟩
  refine ⟨⟨by rw [List.length_set, List.length_set]; exact fr.en.len, fun j s h => ?_, fun j l xs ys b h1 h2 h3 h4 => ?_⟩, fr.sr.hx, fr.sub, fun j xs b h1 h2 => ?_⟩
  · by_cases e : j = i
    · subst e
      rw [List.getElem?_set_self hl] at h
      cases h
      rw [List.getElem?_set_self hi]
      exact ⟨dx, xf c, rfl, xr.hx⟩
    · rw [List.getElem?_set_ne (Ne.symm e)] at h ⊢
      have q := fr.en.at_ j s h
      revert q
      cases s with
      | em => exact fun _ => by cases σ[j]? with
        | none => trivial
        | some o => cases o <;> trivial
      | v d =>
        cases σ[j]? with
        | none => exact fun q => q.elim
        | some o =>
          cases o with
          | none => exact fun q => q.elim
          | some v => exact fun q => RV.hx (show RV T H ρ Ow v d from q)
      | own ds =>
        cases σ[j]? with
        | none => exact fun q => q.elim
        | some o =>
          cases o with
          | none => exact fun q => q.elim
          | some v =>
            cases v with
            | ref b =>
              intro q
              obtain ⟨m, vs, h1, z, rs⟩ := (q : b ∈ Ow ∧ ∃ vs, H b = some (.lst vs) ∧ vs.length ≤ LIM ∧ RVs T H ρ Ow vs ds)
              exact ⟨m, vs, h1, z, rs.hx⟩
            | _ => exact fun q => q.elim
      | xc c1 fs1 =>
        cases σ[j]? with
        | none => exact fun q => q.elim
        | some o =>
          cases o with
          | none => exact fun q => q.elim
          | some v =>
            cases v with
            | ref b =>
              intro q
              obtain ⟨dx1, fl1, h1, _⟩ := (q : ∃ dx fl, T.hx = some (b, dx, c1, fl) ∧ XcR T H ρ Ow dx fl fs1)
              rw [hx0] at h1
              cases h1
            | _ => exact fun q => q.elim
  · obtain ⟨_, a1, a2⟩ := old j xs b h1 h3
    obtain ⟨_, b1, b2⟩ := old l ys b h2 h4
    exact fr.en.apart j l xs ys b a1 b1 a2 b2
  · obtain ⟨_, a1, a2⟩ := old j xs b h1 h2
    exact fr.out j xs b a1 a2
end
end G
namespace G
open PySem PySem.Spec PyProof.Rows
open L2 (V Hp HO upd SqL SqT Rd VK XK TE TT TA TI TS TG TGs Ends WX Cx PE PT PA PI PS PSs PG PGs Inv OpR CallR RelV Vals R2 PC PW Gl Room FunD Binds)
inductive Pa where
  | glo (x : PySem.Str) | me (C m : PySem.Str) | prop (C m : PySem.Str) | cm (C m : PySem.Str)
deriving DecidableEq
def recG (K : PySem.W.Frag) (p : Addr) (t : String) : Addr := match PySem.W.recIn K p t with
  | some (.ref g :: _) => g
  | _ => 0
def Pa.ad (K : PySem.W.Frag) : Pa → Addr
  | .glo x => He.ga K x
  | .me C m => He.ma K (He.ga K C) m
  | .prop C m => recG K (He.ma K (He.ga K C) m) "property"
  | .cm C m => recG K (He.ma K (He.ga K C) m) "classmethod"
structure Df where
  pa : Pa
  name : PySem.Str
  qual : PySem.Str
  params : Arguments
  body : List Stmt
  scope : Scope
  N : List PySem.Str
  ps : List PySem.Str
  sem : Ctx → StS
  fre : Bool
  hot : Bool
  /-- whether it has one default, which is () -/
  dv : Bool
structure ClT where
  x : PySem.Str
  cl : Cl
  cms : List (PySem.Str × Nat)
structure XcT where
  x : PySem.Str
  q : Xc
  init : Nat
structure PT where
  defs : List Df
  cls : List ClT
  exs : List XcT
  nms : List PySem.Str
  free : List PySem.Str
  gints : List (PySem.Str × Int)
  gstrs : List (PySem.Str × List Nat)
  tys : List Ty
  tabs : List Nat
  /-- exceptions are asked for: the types, the base classes -/
  xon : Bool
  xtys : List Ty
  bases : List PySem.Str
def nmOf (l : List PySem.Str) (i : Nat) : PySem.Str := match l[i]? with
  | some x => x
  | none => ⟨#[1114112 + i]⟩
def okNms (l : List PySem.Str) : Bool := decide l.Nodup && l.all fun x => x.cps.all okCode
def codeAd (K : PySem.W.Frag) (a : Addr) : Value := match K.lookup a with
  | some ⟨_, _, .func fd, _⟩ => fd.code
  | _ => .none
def cAd (K : PySem.W.Frag) (a : Addr) : Addr := match codeAd K a with
  | .ref c => c
  | _ => 0
def tabAd (K : PySem.W.Frag) (a : Addr) : Addr := match K.lookup (cAd K a) with
  | some ⟨_, _, .fields vs, _⟩ => (match (vs[11]? : Option Value) with
    | some (.ref P) => P
    | _ => 0)
  | _ => 0
def lamQ (q : PySem.Str) : PySem.Str := q ++ ".<locals>." ++ "<lambda>"
def PT.dAd (pt : PT) (K : PySem.W.Frag) (i : Nat) : Addr := match pt.defs[i]? with
  | some d => d.pa.ad K
  | none => 0
def PT.dQ (pt : PT) (i : Nat) : PySem.Str := match pt.defs[i]? with
  | some d => lamQ d.qual
  | none => ""
def tbOf (pt : PT) (K : PySem.W.Frag) : Tb where
  K := K
  cls := fun c => match pt.cls[c]? with
    | some t => He.ga K t.x
    | none => 0
  exc := fun c => match pt.exs[c]? with
    | some t => He.ga K t.x
    | none => 0
  nm := nmOf pt.nms
  flds := fun c => match pt.cls[c]? with
    | some t => t.cl.fields
    | none => []
  tabs := pt.tabs.map fun i => (tabAd K (pt.dAd K i), pt.dQ i)
  hx := none
def xfOf (pt : PT) (c : Nat) : List Nm := match pt.exs[c]? with
  | some t => t.q.field
  | none => []
def PT.ctx (pt : PT) (call : Nat → Fd) : Ctx := ⟨call, fun c => (pt.cls[c]?).map (·.cl), fun c => (pt.exs[c]?).map (·.q), fun _ => none⟩
def Df.run (d : Df) (Γ : Ctx) : Fd := match d.hot with
  | false => runF d.ps.length d.N.length (d.sem Γ)
  | true => runH d.ps.length d.N.length (d.sem Γ)
def PT.call (pt : PT) : Nat → Nat → Fd
  | 0, _ => fun _ _ => .bad
  | n + 1, f => match pt.defs[f]? with
    | some d => d.run (pt.ctx (pt.call n))
    | none => fun _ _ => .bad
def fnA (K : PySem.W.Frag) (a : Addr) : He.FnW := match K.lookup a with
  | some ⟨_, _, .func fd, _⟩ => some (fd.name, fd.qualname, fd.params, fd.body, fd.scope, fd.globals, fd.closure, fd.builtins)
  | _ => none
def Df.val (d : Df) : He.FnW := some (d.name, d.qual, d.params, .stmts d.body, d.scope, mainGlobals, [], builtinsNs)
def nilA (K : PySem.W.Frag) (a : Addr) : Addr := match K.lookup a with
  | some ⟨_, _, .func fd, _⟩ => (match fd.defaults with
    | .ref T => (match K.lookup T with
      | some ⟨_, _, .seq its _, _⟩ => (match its.toList with
        | [.ref t] => t
        | _ => 0)
      | _ => 0)
    | _ => 0)
  | _ => 0
def Df.dvs (d : Df) (K : PySem.W.Frag) : List V := match d.dv with
  | true => [.ref (nilA K (d.pa.ad K))]
  | false => []
def nilB (K : PySem.W.Frag) (t : Addr) : Bool := match K.lookup t with
  | some ⟨c, none, .seq its _, _⟩ => decide (c = .type "tuple") && its.isEmpty
  | _ => false
def nilOk (K : PySem.W.Frag) (d : Df) : Bool := !d.dv || nilB K (nilA K (d.pa.ad K))
def fnB (K : PySem.W.Frag) (a : Addr) (qual : PySem.Str) (dvs : List V) : Bool := PySem.W.keepIn K (.ref a) && (match K.lookup a with
  | some ⟨_, _, .func fd, _⟩ => PySem.W.codeIn K fd.code qual && He.dflB K fd.defaults dvs
  | _ => false)
def clTyB (K : PySem.W.Frag) (C : Addr) : Bool := He.eqO (PySem.W.findIn K (.ref C) "__class__") (some (some (.builtin "object.__class__"))) &&
  (He.eqO (PySem.W.specialIn K (.builtin "object.__class__") "__get__") (some (some (.builtin "getset_descriptor.__get__"))) && (decide (PySem.W.takesIn K (.builtin "object.__class__") = some true) && decide (PySem.W.mroIn K C (.type "object") = some true)))
theorem clTy_ok {K : PySem.W.Frag} {C : Addr} (c : L2.Cls K C) (h : clTyB K C = true) : ClTy K C := by
  obtain ⟨h1, h⟩ := He.ba h
  obtain ⟨h2, h⟩ := He.ba h
  obtain ⟨h3, h4⟩ := He.ba h
  exact ⟨c, He.eqO_ok h1, He.eqO_ok h2, of_decide_eq_true h3, of_decide_eq_true h4⟩
def propB (K : PySem.W.Frag) (C : Addr) (f : PySem.Str) : Bool := He.eqO (PySem.W.findIn K (.ref C) f) (some (some (.ref (He.ma K C f)))) &&
  (He.eqO (PySem.W.specialIn K (.ref (He.ma K C f)) "__get__") (some (some (.builtin "property.__get__"))) && (decide (PySem.W.takesIn K (.ref (He.ma K C f)) = some true) &&
    (match PySem.W.recIn K (He.ma K C f) "property" with
    | some (.ref _ :: _) => true
    | _ => false)))
def cmB (K : PySem.W.Frag) (C : Addr) (m : PySem.Str) : Bool := PySem.W.readsIn K C (.type "type") && (He.eqO (PySem.W.specialIn K (.ref C) "__getattribute__") (some (some (.builtin "type.__getattribute__"))) &&
  ((match PySem.W.findCls K (.ref C) (.type "type") m with
    | some (.get a b c d) => decide (a = .builtin "classmethod.__get__") && (decide (b = .ref (He.ma K C m)) && (decide (c = .none) && decide (d = .ref C)))
    | _ => false) && (PySem.W.fnIn K (recG K (He.ma K C m) "classmethod") &&
    (match PySem.W.recIn K (He.ma K C m) "classmethod" with
    | some (.ref _ :: _) => true
    | _ => false))))
theorem cm_ok {K : PySem.W.Frag} {C : Addr} {m : PySem.Str} (h : cmB K C m = true) : ClX.CRead K C (.type "type") ∧ ClX.CMet K C (.type "type") m (He.ma K C m) (recG K (He.ma K C m) "classmethod") := by
  obtain ⟨h1, h⟩ := He.ba h
  obtain ⟨h2, h⟩ := He.ba h
  obtain ⟨h3, h⟩ := He.ba h
  obtain ⟨h4, h5⟩ := He.ba h
  refine ⟨⟨h1, He.eqO_ok h2⟩, ?_, ?_, h4⟩
  · split at h3
    · rename_i a b c d e
      obtain ⟨g1, h3⟩ := He.ba h3
      obtain ⟨g2, h3⟩ := He.ba h3
      obtain ⟨g3, g4⟩ := He.ba h3
      rw [e, of_decide_eq_true g1, of_decide_eq_true g2, of_decide_eq_true g3, of_decide_eq_true g4]
    · cases h3
  unfold recG
  cases e : PySem.W.recIn K (He.ma K C m) "classmethod" with
  | none => rw [e] at h5; cases h5
  | some l =>
    rw [e] at h5
    cases l with
    | nil => cases h5
    | cons v r => cases v <;> first | exact ⟨r, rfl⟩ | cases h5
end G
namespace G
open PySem PySem.Spec PyProof.Rows
open L2 (V Hp HO upd SqL SqT Rd VK XK TE TT TA TI TS TG TGs Ends WX Cx PE PT PA PI PS PSs PG PGs Inv OpR CallR RelV Vals R2 PC PW Gl Room FunD Binds)
def bNew : Nat → String
  | 0 => "ValueError.__new__"
  | 1 => "LookupError.__new__"
  | _ => "ArithmeticError.__new__"
def bMro : Nat → List Value
  | 0 => [.type "ValueError", .type "Exception", .type "BaseException", .type "object"]
  | 1 => [.type "LookupError", .type "Exception", .type "BaseException", .type "object"]
  | _ => [.type "ArithmeticError", .type "Exception", .type "BaseException", .type "object"]
def excB (K : PySem.W.Frag) (C : Addr) (bmB : List Value) (newId : String) : Bool := (match K.lookup C with
  | some ⟨.type "type", _, .cls cd, sl⟩ => (match cd.mro, sl.toList with
    | .ref C' :: bm, [_, _, _, _, some (.builtin n), _] => C' == C && n == newId && !cd.hasDel && cd.hasDict && PySem.W.excTail bmB bm
    | _, _ => false)
  | _ => false) && (PySem.W.excOver K C bmB && (He.eqO (PySem.W.findIn K (.ref C) "__setattr__") (some (some (.builtin "object.__setattr__"))) &&
  (decide (PySem.W.subIn K (.ref C) (.type "BaseException") = some true) && (decide (PySem.W.typeIn K (.ref C) = some (.type "type")) && PySem.W.keepIn K (.ref C)))))
def glB (K : PySem.W.Frag) (x : PySem.Str) : Bool := (He.Fa.glo x).ok K
def defAt (pt : PT) (i : Nat) (pa : Pa) (n : Nat) : Bool := match pt.defs[i]? with
  | some d => decide (d.pa = pa) && decide (d.ps.length = n)
  | none => false
def neB (K : PySem.W.Frag) (C : Addr) : Bool := decide (PySem.W.findIn K (.ref C) "__ne__" = some (some (.builtin "object.__ne__")))
def clsB0 (pt : PT) (K : PySem.W.Frag) (t : ClT) : Bool := glB K t.x && ((He.Fa.cls t.x).ok K && (clTyB K (He.ga K t.x) && (decide t.cl.fields.Nodup && ((t.cl.fields.all fun f => (He.Fa.noat t.x (nmOf pt.nms f)).ok K) &&
  ((He.Fa.mkr t.x).ok K && ((match pt.defs[t.cl.init]? with
    | some d => decide (d.pa = .me t.x "__init__")
    | none => false) && ((t.cl.props.all fun p => propB K (He.ga K t.x) (nmOf pt.nms p.1) && defAt pt p.2 (.prop t.x (nmOf pt.nms p.1)) 1) &&
  ((t.cl.meths.all fun p => (He.Fa.meth t.x (nmOf pt.nms p.1)).ok K && (match pt.defs[p.2]? with
    | some d => decide (d.pa = .me t.x (nmOf pt.nms p.1))
    | none => false)) && (t.cms.all fun p => cmB K (He.ga K t.x) p.1 && (match pt.defs[p.2]? with
    | some d => decide (d.pa = .cm t.x p.1)
    | none => false))))))))))
def excChk (pt : PT) (K : PySem.W.Frag) (t : XcT) : Bool := glB K t.x && (excB K (He.ga K t.x) (bMro t.q.base) (bNew t.q.base) && (match t.q.field with
  | [] => true
  | [f] => He.eqO (PySem.W.findIn K (.ref (He.ga K t.x)) (nmOf pt.nms f)) (some none) && ((He.Fa.meth t.x "__init__").ok K && (decide (PySem.W.typeIn K (.ref (He.ma K (He.ga K t.x) "__init__")) = some (.type "function")) && (match pt.defs[t.init]? with
    | some d => decide (d.pa = .me t.x "__init__")
    | none => false)))
  | _ => false))
def tyV (pt : PT) (K : PySem.W.Frag) : Ty → Value
  | .int => .type "int"
  | .bool => .type "bool"
  | .str => .type "str"
  | .tuple => .type "tuple"
  | .own c => .ref ((tbOf pt K).cls c)
  | _ => .none
def kitB (K : PySem.W.Frag) (t u : Value) (b : Bool) : Bool := decide (PySem.W.kitOne K t u = some b)
def tyB (pt : PT) (K : PySem.W.Frag) (τ : Ty) : Bool := kitB K (.type "NoneType") (tyV pt K τ) false && (kitB K (.type "bool") (tyV pt K τ) τ.isBl && (kitB K (.type "int") (tyV pt K τ) τ.isInt && (kitB K (.type "str") (tyV pt K τ) τ.isStr && (kitB K (.type "tuple") (tyV pt K τ) τ.isTup && (kitB K (.type "list") (tyV pt K τ) false && (kitB K (.type "dict") (tyV pt K τ) false &&
  ((List.range pt.cls.length).all fun c => kitB K (.ref ((tbOf pt K).cls c)) (tyV pt K τ) (τ.isOwn c))))))))
def chkD1 (K : PySem.W.Frag) (d : Df) : Bool := (fnB K (d.pa.ad K) d.qual (d.dvs K) && nilOk K d) && (match d.pa with
    | .glo x => glB K x
    | _ => true)
def chkD (pt : PT) (K : PySem.W.Frag) : Bool := pt.defs.all (chkD1 K)
def chkF (pt : PT) (K : PySem.W.Frag) : Bool := pt.free.all fun x => (He.Fa.free x).ok K
def chkI1 (K : PySem.W.Frag) (p : PySem.Str × Int) : Bool := (He.Fa.int p.1 p.2).ok K
def chkI (pt : PT) (K : PySem.W.Frag) : Bool := pt.gints.all (chkI1 K)
def chkS1 (K : PySem.W.Frag) (p : PySem.Str × List Nat) : Bool := (He.Fa.str p.1 ⟨p.2.toArray⟩).ok K && (decide (p.2.length ≤ 1000) && p.2.all okCode)
def chkS (pt : PT) (K : PySem.W.Frag) : Bool := pt.gstrs.all (chkS1 K)
def tabB (pt : PT) (K : PySem.W.Frag) (i : Nat) : Bool := (match codeAd K (pt.dAd K i) with
  | .ref _ => true
  | _ => false) && (PySem.W.codeHdIn K (cAd K (pt.dAd K i)) (tabAd K (pt.dAd K i)) && (match K.lookup (tabAd K (pt.dAd K i)) with
  | none => true
  | some _ => false))
def chkT (pt : PT) (K : PySem.W.Frag) : Bool := pt.tabs.all (tabB pt K) && decide (pt.tabs.map fun i => tabAd K (pt.dAd K i)).Nodup
def noB (K : PySem.W.Frag) (C : Addr) (t : ClT) : Bool := ((t.cl.meths.lookup n_bool).isSome || (t.cl.meths.lookup n_len).isSome) || (decide (PySem.W.findIn K (.ref C) "__bool__" = some none) && decide (PySem.W.findIn K (.ref C) "__len__" = some none))
def idB (K : PySem.W.Frag) (C : Addr) (t : ClT) : Bool := (t.cl.meths.lookup n_eq).isSome || decide (PySem.W.findIn K (.ref C) "__eq__" = some (some (.builtin "object.__eq__")))
def clsB (pt : PT) (K : PySem.W.Frag) (t : ClT) : Bool := ((neB K (He.ga K t.x) && noB K (He.ga K t.x) t) && idB K (He.ga K t.x) t) && clsB0 pt K t
def PT.xnm (pt : PT) (j : Nat) : PySem.Str := if j < 100 then (match pt.exs[j]? with
  | some t => t.x
  | none => "") else pt.bases.getD (j - 100) ""
def xtyV (pt : PT) (K : PySem.W.Frag) : Ty → Value
  | .exc j => .ref (He.ga K (pt.xnm j))
  | .value => .type "ValueError"
  | .lookup => .type "LookupError"
  | .arith => .type "ArithmeticError"
  | _ => .none
def xcB (K : PySem.W.Frag) (C : Addr) : Bool := (PySem.W.clsIn K C).isSome && (He.eqO (PySem.W.findIn K (.ref C) "__getattribute__") (some (some (.builtin "BaseException.__getattribute__"))) && (decide (PySem.W.findIn K (.ref C) "__getattr__" = some none) && (He.eqO (PySem.W.findIn K (.ref C) "__class__") (some (some (.builtin "object.__class__"))) &&
  (He.eqO (PySem.W.specialIn K (.builtin "object.__class__") "__get__") (some (some (.builtin "getset_descriptor.__get__"))) && (decide (PySem.W.takesIn K (.builtin "object.__class__") = some true) && (decide (PySem.W.mroIn K C (.type "object") = some true) && PySem.W.hasDictIn K C))))))
def xty1 (pt : PT) (K : PySem.W.Frag) (τ : Ty) (c : Nat) : Bool := match pt.exs[c]? with
  | some t => (match xisX t.q c τ with
    | some b => kitB K (.ref (He.ga K t.x)) (xtyV pt K τ) b
    | none => true)
  | none => true
def xglB (pt : PT) (K : PySem.W.Frag) : Ty → Bool
  | .exc j => glB K (pt.xnm j)
  | _ => true
def xpair (pt : PT) (K : PySem.W.Frag) (c c' : Nat) : Bool := decide (PySem.W.subIn K (.ref ((tbOf pt K).exc c')) (.ref ((tbOf pt K).exc c)) = some (decide (c' = c)))
def chkX (pt : PT) (K : PySem.W.Frag) : Bool := !pt.xon || ((pt.exs.all fun t => xcB K (He.ga K t.x)) && (((List.range pt.exs.length).all fun c => (List.range pt.exs.length).all (xpair pt K c)) && (pt.xtys.all fun τ => xglB pt K τ && (List.range pt.exs.length).all (xty1 pt K τ))))
def chkU (pt : PT) (K : PySem.W.Frag) : Bool := chkT pt K && (okNms pt.nms && (chkD pt K && (pt.cls.all (clsB pt K) && (pt.exs.all (excChk pt K) && (chkF pt K && (chkI pt K && (chkS pt K && pt.tys.all (tyB pt K))))))))
def chk (pt : PT) (K : PySem.W.Frag) : Bool := chkX pt K && chkU pt K
theorem ba8 {a b c d e f g h : Bool} (q : (a && (b && (c && (d && (e && (f && (g && h))))))) = true) : a = true ∧ b = true ∧ c = true ∧ d = true ∧ e = true ∧ f = true ∧ g = true ∧ h = true := by
  simpa [Bool.and_eq_true] using q
abbrev AlP : Type := (Bool × List He.FnW) × List (Option PySem.Obj)
def obsP (pt : PT) (K : PySem.W.Frag) : Bool × List He.FnW := (chk pt K, pt.defs.map fun d => fnA K (d.pa.ad K))
def valP (pt : PT) : Bool × List He.FnW := (true, pt.defs.map Df.val)
def tabObs (pt : PT) (K : PySem.W.Frag) (g : Addr → Option PySem.Obj) : List (Option PySem.Obj) := pt.tabs.map fun i => g (tabAd K (pt.dAd K i))
def tabVal (pt : PT) : List (Option PySem.Obj) := pt.tabs.map fun _ => some (PySem.W.tabObj #[])
def gT (g : Addr → Option PySem.Obj) (a : Addr) : Option PySem.Obj := match g a with
  | some o => (match o.cls, o.data with
    | .none, .fields _ => none
    | _, _ => some o)
  | none => none
theorem gT_of {g : Addr → Option PySem.Obj} {a : Addr} {o : PySem.Obj} (h : gT g a = some o) : g a = some o := by
  unfold gT at h
  split at h
  · rename_i o' ho
    split at h
    · cases h
    · rw [← h]; exact ho
  · cases h
def pickB : List Addr → Nat → List Addr → List Addr × Nat
  | [], seen, acc => (acc, seen)
  | a :: r, seen, acc => match Nat.testBit seen a with
    | true => pickB r seen acc
    | false => pickB r (seen ||| (1 <<< a)) (a :: acc)
def growB (g : Addr → Option PySem.Obj) : Nat → List Addr → Nat → List Addr
  | 0, fr, _ => fr
  | n + 1, fr, seen => match pickB (fr.flatMap fun a => match g a with
    | some o => He.refsD o
    | none => []) seen [] with
    | (new, seen2) => fr ++ growB g n new seen2
def asB (g : Addr → Option PySem.Obj) (n : Nat) : List Addr := growB g n [mainGlobals] (1 <<< mainGlobals)
def frP (g : Addr → Option PySem.Obj) (n : Nat) : PySem.W.Frag := He.frG (gT g) (asB g n ++ [PySem.cStatics])
theorem frP_in {s : Shared} {n : Nat} : (frP s.heap.get? n).In s.heap := fun a o e => gT_of (He.frG_at _ e)
def obsPG (n : Nat) (pt : PT) (g : Addr → Option PySem.Obj) : AlP := (obsP pt (frP g n), tabObs pt (frP g n) g)
def hookP (n : Nat) (pt : PT) : PySem.W.Hook where
  α := AlP
  obs := fun s => obsPG n pt s.heap.get?
  val := fun _ => (valP pt, tabVal pt)
  says := fun _ h => ∃ K : PySem.W.Frag, K.In h ∧ obsP pt K = valP pt ∧ ∀ i ∈ pt.tabs, h.get? (tabAd K (pt.dAd K i)) = some (PySem.W.tabObj #[])
  of := fun _ _ e => ⟨_, frP_in, congrArg Prod.fst e, fun i hi => List.map_inj_left.mp (congrArg Prod.snd e) i hi⟩
  keeps := fun _ _ _ ⟨K, hK, c, t⟩ k => ⟨K, PySem.W.Frag.In.keeps hK k, c, fun i hi => k _ _ (t i hi)⟩
structure St (pt : PT) (Y : Wd) : Prop where
  eT : Y.T = { tbOf pt Y.K with hx := Y.T.hx }
  exf : Y.xf = xfOf pt
  kin : Y.K.In Y.base
  ns : Y.base.Ns mainGlobals Y.mg
  says : obsP pt Y.K = valP pt
section
variable {pt : PT} {Y : Wd}
theorem St.chk0 (S : St pt Y) : chkU pt Y.K = true := (He.ba (show chk pt Y.K = true from congrArg (fun z : Bool × List He.FnW => z.1) S.says)).2
theorem St.cs (S : St pt Y) : okNms pt.nms = true ∧ chkD pt Y.K = true ∧ pt.cls.all (clsB pt Y.K) = true ∧ pt.exs.all (excChk pt Y.K) = true ∧ chkF pt Y.K = true ∧ chkI pt Y.K = true ∧ chkS pt Y.K = true ∧ pt.tys.all (tyB pt Y.K) = true := ba8 (He.ba S.chk0).2
theorem St.nms (S : St pt Y) : okNms pt.nms = true := S.cs.1
theorem all_at {α : Type} {p : α → Bool} {l : List α} (h : l.all p = true) {i : Nat} {a : α} (e : l[i]? = some a) : p a = true := List.all_eq_true.mp h a (List.mem_of_getElem? e)
theorem St.free (S : St pt Y) {x : PySem.Str} (h : pt.free.contains x = true) : Y.mg x = none := He.free_ok S.kin S.ns (List.all_eq_true.mp S.cs.2.2.2.2.1 x (by simpa using h))
structure ClF (pt : PT) (Y : Wd) (t : ClT) : Prop where
  gl : glB Y.K t.x = true
  cls : L2.Cls Y.K (He.ga Y.K t.x)
  ty : ClTy Y.K (He.ga Y.K t.x)
  nd : t.cl.fields.Nodup
  no : ∀ f ∈ t.cl.fields, L2.NoAttr Y.K (He.ga Y.K t.x) (nmOf pt.nms f)
  mkr : L2.Mk Y.K (He.ga Y.K t.x) (He.ma Y.K (He.ga Y.K t.x) "__init__")
  init : ∃ d, pt.defs[t.cl.init]? = some d ∧ d.pa = .me t.x "__init__"
  prop : ∀ p ∈ t.cl.props, propB Y.K (He.ga Y.K t.x) (nmOf pt.nms p.1) = true ∧ defAt pt p.2 (.prop t.x (nmOf pt.nms p.1)) 1 = true
  meth : ∀ p ∈ t.cl.meths, (He.Fa.meth t.x (nmOf pt.nms p.1)).ok Y.K = true ∧ ∃ d, pt.defs[p.2]? = some d ∧ d.pa = .me t.x (nmOf pt.nms p.1)
  cm : ∀ p ∈ t.cms, cmB Y.K (He.ga Y.K t.x) p.1 = true ∧ ∃ d, pt.defs[p.2]? = some d ∧ d.pa = .cm t.x p.1
theorem def_is {pt : PT} {i : Nat} {pa : Pa} (h : (match pt.defs[i]? with
    | some d => decide (d.pa = pa)
    | none => false) = true) : ∃ d, pt.defs[i]? = some d ∧ d.pa = pa := by
  cases e : pt.defs[i]? with
  | none => rw [e] at h; cases h
  | some d =>
    rw [e] at h
    exact ⟨d, rfl, of_decide_eq_true h⟩
theorem St.cl (S : St pt Y) {c : Nat} {t : ClT} (h : pt.cls[c]? = some t) : ClF pt Y t := by
  have h1 := (He.ba (all_at S.cs.2.2.1 h)).2
  obtain ⟨g1, h1⟩ := He.ba h1
  obtain ⟨g2, h1⟩ := He.ba h1
  obtain ⟨g3, h1⟩ := He.ba h1
  obtain ⟨g4, h1⟩ := He.ba h1
  obtain ⟨g5, h1⟩ := He.ba h1
  obtain ⟨g6, h1⟩ := He.ba h1
  obtain ⟨g7, h1⟩ := He.ba h1
  obtain ⟨g8, h1⟩ := He.ba h1
  obtain ⟨g9, g10⟩ := He.ba h1
  exact ⟨g1, He.cls_ok g2, clTy_ok (He.cls_ok g2) g3, of_decide_eq_true g4, fun f hf => He.noat_ok (List.all_eq_true.mp g5 f hf), He.mkr_ok g6, def_is g7, fun p hp => He.ba (List.all_eq_true.mp g8 p hp),
    fun p hp => ⟨(He.ba (List.all_eq_true.mp g9 p hp)).1, def_is (He.ba (List.all_eq_true.mp g9 p hp)).2⟩, fun p hp => ⟨(He.ba (List.all_eq_true.mp g10 p hp)).1, def_is (He.ba (List.all_eq_true.mp g10 p hp)).2⟩⟩
theorem St.t_cls (S : St pt Y) {c : Nat} {t : ClT} (h : pt.cls[c]? = some t) : Y.T.cls c = He.ga Y.K t.x := by rw [S.eT]; simp only [tbOf, h]
theorem St.ne (S : St pt Y) {c : Nat} {t : ClT} (h : pt.cls[c]? = some t) : PySem.W.findIn Y.K (.ref (Y.T.cls c)) "__ne__" = some (some (.builtin "object.__ne__")) := by
  rw [S.t_cls h]
  exact of_decide_eq_true (He.ba (He.ba (He.ba (all_at S.cs.2.2.1 h)).1).1).1
theorem St.t_nm (S : St pt Y) : Y.T.nm = nmOf pt.nms := by rw [S.eT]; rfl
end
structure XcOk (pt : PT) (t : XcT) (f : Nm) : Prop where
  ex : ∃ (d : Df) (x1 x2 : PySem.Str) (p1 p2 p3 pos : Pos), pt.defs[t.init]? = some d ∧ d.body = [.Assign [.Attribute (.Name x1 p1) (nmOf pt.nms f) p3] (.Name x2 p2) pos] ∧ d.ps = [x1, x2] ∧ L2.FnScope [x1, x2] [x1, x2] d.scope ∧
    (x1 == ("__debug__" : PySem.Str)) = false ∧ (x1 == ("__classdict__" : PySem.Str)) = false ∧ (x2 == ("__debug__" : PySem.Str)) = false ∧ (x2 == ("__classdict__" : PySem.Str)) = false
def XOk (pt : PT) : Prop := ∀ t ∈ pt.exs, ∀ f, t.q.field = [f] → XcOk pt t f
structure Fs (pt : PT) (Y : Wd) (Γ : Ctx) (k : Nat) : Prop where
  st : St pt Y
  hx0 : Y.T.hx = none
  tb : ∀ i ∈ pt.tabs, LamX.TabB Y.base Y.mg (cAd Y.K (pt.dAd Y.K i)) (tabAd Y.K (pt.dAd Y.K i))
  xok : XOk pt
  pos : 1 ≤ k
  cls : Γ.cls = fun c => (pt.cls[c]?).map (·.cl)
  exs : Γ.exs = fun c => (pt.exs[c]?).map (·.q)
  fn : ∀ (i : Nat) (d : Df), pt.defs[i]? = some d → ∃ fd, FunD Y.K d.name d.qual d.params d.body d.scope (d.dvs Y.K) [] (d.pa.ad Y.K) fd ∧ Binds Y.K fd d.ps [] ∧ FnG Y k (d.pa.ad Y.K) fd d.ps (Γ.call i)
  hotf : ∀ (i : Nat) (d : Df), pt.defs[i]? = some d → d.hot = true → ∀ fd, FunD Y.K d.name d.qual d.params d.body d.scope (d.dvs Y.K) [] (d.pa.ad Y.K) fd → FnHot Y k (d.pa.ad Y.K) fd d.ps (Γ.call i)
  fnF : ∀ (i : Nat) (d : Df), pt.defs[i]? = some d → d.fre = true → ∀ fd, FunD Y.K d.name d.qual d.params d.body d.scope (d.dvs Y.K) [] (d.pa.ad Y.K) fd → FnX true Y k (d.pa.ad Y.K) fd d.ps (Γ.call i)
  fn0 : ∀ (i : Nat) (d : Df), pt.defs[i]? = some d → d.dv = true → 1 ≤ d.ps.length → ∀ fd, FunD Y.K d.name d.qual d.params d.body d.scope (d.dvs Y.K) [] (d.pa.ad Y.K) fd → Binds Y.K fd d.ps [.ref (nilA Y.K (d.pa.ad Y.K))]
def Wd.hot (Y : Wd) (a : Addr) (dx : Option Addr) (cn : Nat) : Wd := { Y with T := Y.T.hot Y.xf a dx cn }
structure FsH (pt : PT) (Y : Wd) (Γ : Ctx) (k : Nat) : Prop where
  st : St pt Y
  exs : Γ.exs = fun c => (pt.exs[c]?).map (·.q)
  fn : ∀ (i : Nat) (d : Df), pt.defs[i]? = some d → d.hot = true → ∃ fd, FunD Y.K d.name d.qual d.params d.body d.scope (d.dvs Y.K) [] (d.pa.ad Y.K) fd ∧ Binds Y.K fd d.ps [] ∧ FnHot Y k (d.pa.ad Y.K) fd d.ps (Γ.call i)
theorem St.hot {pt : PT} {Y : Wd} (S : St pt Y) (a : Addr) (dx : Option Addr) (cn : Nat) : St pt (Y.hot a dx cn) := ⟨by
  show Tb.hot Y.T Y.xf a dx cn = _
  unfold Tb.hot
  conv => lhs; rw [S.eT]
  rfl, S.exf, S.kin, S.ns, S.says⟩
theorem Fs.hot {pt : PT} {Y : Wd} {Γ : Ctx} {k : Nat} (F : Fs pt Y Γ k) (a : Addr) (dx : Option Addr) (cn : Nat) : FsH pt (Y.hot a dx cn) Γ k := ⟨F.st.hot a dx cn, F.exs, fun i d h hd => by
  obtain ⟨fd, D, B, _⟩ := F.fn i d h
  exact ⟨fd, D, B, ⟨(F.hotf i d h hd fd D).run⟩⟩⟩
structure CxH (X : Cx) (Y : Wd) (N : List PySem.Str) (sc : Scope) (n : Nat) : Prop extends CxG X Y.T N sc n where
  fn : ∀ x, X.fn x = true
  hot : HotAt X Y.T Y.xf
  eP : X.prog = Y.P
  ew : X.w = Y.w
  eKY : X.K = Y.K
  em : X.mg = Y.mg
  eb : X.base = Y.base
section
variable {pt : PT} {Y : Wd} {Γ : Ctx} {k : Nat}
theorem mem_lookup {α β : Type} [BEq α] [LawfulBEq α] {a : α} {b : β} : ∀ {l : List (α × β)}, l.lookup a = some b → (a, b) ∈ l
  | [], h => by cases h
  | (x, y) :: r, h => by
    have h2 : (match a == x with | true => some y | false => r.lookup a) = some b := h
    cases q : (a == x) with
    | true =>
      rw [q] at h2
      have e : y = b := Option.some.inj h2
      rw [eq_of_beq q, e]
      exact List.mem_cons_self
    | false =>
      rw [q] at h2
      exact List.mem_cons_of_mem _ (mem_lookup h2)
theorem Fs.me (F : Fs pt Y Γ k) {c : Nat} {t : ClT} {d : Df} {m : Nm} {f : Nat} {np : Nat} (h : pt.cls[c]? = some t) (hm : t.cl.meths.lookup m = some f) (hd : pt.defs[f]? = some d) (hp : d.ps.length = np) : MeOk Y k c m (Γ.call f) np := by
  obtain ⟨h1, d', e1, e2⟩ := (F.st.cl h).meth _ (mem_lookup hm)
  rw [hd] at e1
  cases e1
  obtain ⟨fd, D, B, G0⟩ := F.fn _ d hd
  rw [e2] at G0
  exact ⟨_, fd, d.ps, by rw [F.st.t_cls h, F.st.t_nm]; exact He.meth_ok h1, G0, B, hp⟩
theorem Fs.cm (F : Fs pt Y Γ k) {c : Nat} {t : ClT} {d : Df} {x : PySem.Str} {f : Nat} {np : Nat} (h : pt.cls[c]? = some t) (hm : t.cms.lookup x = some f) (hd : pt.defs[f]? = some d) (hp : d.ps.length = np) : CmOk Y k c x (Γ.call f) np := by
  obtain ⟨h1, d', e1, e2⟩ := (F.st.cl h).cm _ (mem_lookup hm)
  rw [hd] at e1
  cases e1
  obtain ⟨fd, D, B, G0⟩ := F.fn _ d hd
  rw [e2] at G0
  obtain ⟨q1, q2⟩ := cm_ok h1
  exact ⟨_, _, _, fd, d.ps, by rw [F.st.t_cls h]; exact q1, by rw [F.st.t_cls h]; exact q2, G0, B, hp⟩
theorem St.nil (S : St pt Y) {i : Nat} {d : Df} (h : pt.defs[i]? = some d) (hv : d.dv = true) : nilB Y.K (nilA Y.K (d.pa.ad Y.K)) = true := by
  have := (He.ba (He.ba (all_at (p := chkD1 Y.K) S.cs.2.1 h)).1).2
  unfold nilOk at this
  rw [hv] at this
  exact this
end
end G
namespace G
open PySem PySem.Spec PyProof.Rows
open L2 (V Hp HO upd SqL SqT Rd VK XK TE TT TA TI TS TG TGs Ends WX Cx PE PT PA PI PS PSs PG PGs Inv OpR CallR RelV Vals R2 PC PW Gl Room FunD Binds PK)
section
variable {X : Cx} {Y : Wd} {W : WX} {N : List PySem.Str} {sc : Scope} {n k : Nat} {Γ : Ctx}
inductive JKs (X : Cx) (T : Tb) (xf : Nat → List Nm) (W : WX) : List Keyword → List PySem.Str → List G.Sem → Prop
  | nil : JKs X T xf W [] [] []
  | cons {x : PySem.Str} {e : Expr} {p : Pos} {s : G.Sem} {kws : List Keyword} {ks : List PySem.Str} {ss : List G.Sem} (j : JE X T xf W e s true) (js : JKs X T xf W kws ks ss) : JKs X T xf W (⟨some x, e, p⟩ :: kws) (x :: ks) (s :: ss)
theorem JKs.len {T : Tb} {xf : Nat → List Nm} : ∀ {kws : List Keyword} {ks : List PySem.Str} {ss : List G.Sem}, JKs X T xf W kws ks ss → ss.length = ks.length
  | _, _, _, .nil => rfl
  | _, _, _, .cons j js => by simp [js.len]
variable {x : PySem.Str} {f : Addr} {fd : FuncData} {ps ks : List PySem.Str} {c : Fd} {p pos : Pos} {kws : List Keyword} {ss : List G.Sem} {is : List Nat}
end
end G
namespace G
open PySem PySem.Spec PyProof.Rows
open L2 (V Hp HO upd SqL SqT Rd VK XK TE TT TA TI TS TG TGs Ends WX Cx PE PT PA PI PS PSs PG PGs Inv OpR CallR RelV Vals R2 PC PW Gl Room FunD Binds PK)
structure En (pt : G.PT) (Y : Wd) (Γ : Ctx) (k : Nat) (N : List PySem.Str) (X : Cx) (W : WX) (sc : Scope) : Prop where
  F : Fs pt Y Γ k
  M : CxY X Y W N sc (k + 1)
def kindB (sc : Scope) (x : PySem.Str) (k : NameKind) : Bool := decide (sc.names.lookup x = some k)
def locB (N : List PySem.Str) (sc : Scope) (i : Nat) (x : PySem.Str) : Bool := decide (N[i]? = some x) && (kindB sc x .local || kindB sc x .cell)
theorem kind_ok {sc : Scope} {x : PySem.Str} {k : NameKind} (h : kindB sc x k = true) : sc.names.lookup x = some k := of_decide_eq_true h
section
variable {pt : G.PT} {Y : Wd} {Γ : Ctx} {k : Nat} {N : List PySem.Str} {X : Cx} {W : WX} {sc scope : Scope} {Ow0 : List Addr}
theorem En.c (E : En pt Y Γ k N X W sc) : CxG X Y.T N sc (k + 1) := E.M.toCxG
variable (E : En pt Y Γ k N X W sc)
include E
variable {x : PySem.Str} {i j : Nat} {pos p p2 p3 apos cpos : Pos} {e a b c o : Expr} {es : List Expr} {s sa sb sc' so : G.Sem} {ss : List G.Sem} {str ra rb rc : Bool}
variable {tg e2 : Expr} {elts : List Expr} {kk : Nat} {tpos : Pos} {t1 t2 : G.Sem}
def pnB (N : List PySem.Str) (sc : Scope) (i : Nat) (x : PySem.Str) : Bool := decide (N[i]? = some x) && kindB sc x .local
theorem En.nml (h : pnB N sc i x = true) : NmL X x i := by
  obtain ⟨h1, h2⟩ := He.ba h
  have q : X.env.scope.names.lookup x = some .local := by rw [E.M.eS]; exact kind_ok h2
  exact ⟨by rw [E.M.eN]; exact E.M.nd, by rw [E.M.eN]; exact of_decide_eq_true h1, .inl q, .inr q⟩
end
end G
namespace G
open PySem PySem.Spec PyProof.Rows
open L2 (V Hp HO upd SqL SqT Rd VK XK TE TT TA TI TS TG TGs Ends WX Cx PE PT PA PI PS PSs PG PGs Inv OpR CallR RelV Vals R2 PC PW Gl Room FunD Binds PK)
structure Eb (pt : G.PT) (Y : Wd) (Γ : Ctx) (k : Nat) (N : List PySem.Str) (X : Cx) (W : WX) (sc : Scope) (Ow0 : List Addr) (fr : Bool) : Prop extends En pt Y Γ k N X W sc where
  S : CxS X ⟨Y.T, Y.xf, W, Ow0, fr⟩ N sc (k + 1)
section
variable {pt : G.PT} {Y : Wd} {Γ : Ctx} {k : Nat} {N : List PySem.Str} {X : Cx} {W : WX} {sc scope : Scope} {Ow0 : List Addr}
variable {fr : Bool} (B : Eb pt Y Γ k N X W sc Ow0 fr)
variable {x y z : PySem.Str} {i j l : Nat} {pos pos' p p2 p3 apos cpos : Pos} {e a b c o tg : Expr} {es vs : List Expr} {s sa sb sc' so : G.Sem} {ss : List G.Sem} {str ra rb rc : Bool} {f g : StS} {st : Stmt} {sts sts2 : List Stmt}
abbrev Eb.w (B : Eb pt Y Γ k N X W sc Ow0 fr) : WS := ⟨Y.T, Y.xf, W, Ow0, fr⟩
theorem Eb.nml {x : PySem.Str} {i : Nat} (B : Eb pt Y Γ k N X W sc Ow0 fr) (h : locB N sc i x = true) : NmL X x i := by
  obtain ⟨h1, h2⟩ := He.ba h
  refine ⟨by rw [B.M.eN]; exact B.M.nd, by rw [B.M.eN]; exact of_decide_eq_true h1, ?_, .inl (B.S.fn x)⟩
  unfold L2.Loc
  rw [B.M.eS]
  rcases Bool.or_eq_true_iff.mp h2 with h | h
  · exact .inl (kind_ok h)
  · exact .inr (kind_ok h)
include B
theorem t_nm (h : locB N sc i x = true) : JT X B.w (.Name x p) (nmT i) := jt_nm (B.nml h)
end
end G
namespace G
open PySem PySem.Spec PyProof.Rows
open L2 (V Hp HO upd SqL SqT Rd VK XK TE TT TA TI TS TG TGs Ends WX Cx PE PT PA PI PS PSs PG PGs Inv OpR CallR RelV Vals R2 PC PW Gl Room FunD Binds PK FunD)
open L2N (Takes Zn)
structure EnH (pt : G.PT) (Y : Wd) (Γ : Ctx) (k : Nat) (N : List PySem.Str) (X : Cx) (sc : Scope) : Prop where
  F : FsH pt Y Γ k
  M : CxH X Y N sc (k + 1)
  on : pt.xon = true
section
variable {pt : G.PT} {Y : Wd} {Γ : Ctx} {k : Nat} {N : List PySem.Str} {X : Cx} {sc : Scope} {Ow0 : List Addr} {fr : Bool}
theorem EnH.c (E : EnH pt Y Γ k N X sc) : CxG X Y.T N sc (k + 1) := E.M.toCxG
theorem EnH.nml (E : EnH pt Y Γ k N X sc) {x : PySem.Str} {i : Nat} (h : locB N sc i x = true) : NmL X x i := by
  obtain ⟨h1, h2⟩ := He.ba h
  refine ⟨by rw [E.M.eN]; exact E.M.nd, by rw [E.M.eN]; exact of_decide_eq_true h1, ?_, .inl (E.M.fn x)⟩
  unfold L2.Loc
  rw [E.M.eS]
  rcases Bool.or_eq_true_iff.mp h2 with h | h
  · exact .inl (kind_ok h)
  · exact .inr (kind_ok h)
variable (E : EnH pt Y Γ k N X sc)
include E
variable {x y : PySem.Str} {i j : Nat} {pos p p2 py apos cpos : Pos} {e a b c o : Expr} {es : List Expr} {s sa sb sc' : G.Sem} {ss : List G.Sem} {str ra rb rc : Bool} {f g : StS} {st : Stmt} {sts sts2 : List Stmt}
end
end G
namespace G
open PySem PySem.Spec PyProof.Rows
open L2 (V Hp HO upd SqL SqT Rd VK XK Inv RelV Vals Gl Room Env0 Mod HOk FunD Binds)
end G
namespace G
open PySem PySem.Spec PyProof PyProof.Rows
end G
namespace G
open PySem PySem.Spec PyProof.Rows
open L2 (V Hp HO upd SqL SqT Rd VK XK TE TT TA TI TS TG TGs Ends WX Cx PE PT PA PI PS PSs PG PGs Inv OpR CallR RelV Vals R2 PC PW Gl)
end G
namespace G
open PySem PySem.Spec PyProof.Rows
open L2 (V Hp HO upd SqL SqT Rd VK XK TE TT TA TI TS TG TGs Ends WX Cx PE PT PA PI PS PSs PG PGs Inv OpR CallR RelV Vals R2 PC PW Gl)
end G
namespace G
open PySem PySem.Spec PyProof.Rows
open L2 (V Hp HO upd SqL SqT Rd VK XK TE TT TA TI TS TG TGs Ends WX Cx PE PT PA PI PS PSs PG PGs Inv OpR CallR RelV Vals R2 PC PW Gl Room FunD Binds PK)
end G
namespace G
open PySem PySem.Spec PyProof.Rows
open L2 (V Hp HO upd SqL SqT Rd VK XK TE TT TA TI TS TG TGs Ends WX Cx PE PT PA PI PS PSs PG PGs Inv OpR CallR RelV Vals R2 PC PW Gl Room FunD Binds PK)
end G
namespace G
open PySem PySem.Spec PyProof.Rows
open L2 (V Hp HO upd SqL SqT Rd VK XK TE TT TA TI TS TG TGs Ends WX Cx PE PT PA PI PS PSs PG PGs Inv OpR CallR RelV Vals R2 PC PW Gl Room FunD Binds PK)
end G
namespace G
open PySem PySem.Spec PyProof PyProof.Rows
end G
namespace G
open PySem PySem.Spec PyProof.Rows
open L2 (V Hp HO upd SqL SqT Rd VK XK TE TT TA TI TS TG TGs Ends WX Cx PE PT PA PI PS PSs PG PGs Inv OpR CallR RelV Vals R2 PC PW Gl Room)
end G
namespace G
open PySem PySem.Spec PyProof.Rows
open L2 (V Hp HO upd SqL SqT Rd VK XK TE TT TA TI TS TG TGs Ends WX Cx PE PT PA PI PS PSs PG PGs Inv OpR CallR RelV Vals R2 PC PW Gl)
end G
namespace G
open PySem PySem.Spec PyProof.Rows
open L2 (V Hp HO upd SqL SqT Rd VK XK TE TT TA TI TS TG TGs Ends WX Cx PE PT PA PI PS PSs PG PGs Inv OpR CallR RelV Vals R2 PC PW Gl)
end G
namespace G
end G
namespace G
open PySem PySem.Spec PyProof.Rows
open L2 (V Hp HO upd SqL SqT Rd VK XK TE TT TA TI TS TG TGs Ends WX Cx PE PT PA PI PS PSs PG PGs Inv OpR CallR RelV Vals R2 PC PW Gl)
end G
namespace G
open PySem PySem.Spec PyProof.Rows
open L2 (V Hp HO upd SqL SqT Rd VK XK TE TT TA TI TS TG TGs Ends WX Cx PE PT PA PI PS PSs PG PGs Inv OpR CallR RelV Vals R2 PC PW Gl Room FunD Binds PK)
end G
namespace G
open PySem PySem.Spec PyProof.Rows
open L2 (V Hp HO upd SqL SqT Rd VK XK TE TT TA TI TS TG TGs Ends WX Cx PE PT PA PI PS PSs PG PGs Inv OpR CallR RelV Vals R2 PC PW Gl FpOk PTs BlkOk EP tLc)
open L2H (PIH HotC)
section
variable {X : Cx} {T : Tb} {xf : Nat → List Nm} {W : WX} {N : List PySem.Str} {sc scope : Scope} {n : Nat} {a tg elt : Expr} {p pos : Pos} {x : PySem.Str} {i : Nat} {e : PySem.Obj}
theorem PIH.imp {tg e : Expr} {t t' : TI} (h : PIH X tg e t) (i : ∀ σ H Q, t' σ H Q → t σ H Q) : PIH X tg e t' := ⟨fun pins s σ H R I q => h.run pins s σ H R I (i σ H R q)⟩
end
end G
namespace L2
open PySem PySem.Spec PyProof.Rows
end L2
namespace G
open PySem PySem.Spec PyProof.Rows
open L2 (V Hp HO upd SqL SqT Rd VK XK TE TT TA TI TS TG TGs Ends WX Cx PE PT PA PI PS PSs PG PGs Inv OpR CallR RelV Vals R2 PC PW Gl Room FunD Binds PK)
end G
namespace G
open PySem PySem.Spec PyProof.Rows
open L2 (V Hp HO upd SqL SqT Rd VK XK TE TT TA TI TS TG TGs Ends WX Cx PE PT PA PI PS PSs PG PGs Inv OpR CallR RelV Vals R2 PC PW Gl Room)
end G
namespace G
open PySem PySem.Spec PyProof.Rows
end G
namespace G
open PySem PySem.Spec PyProof.Rows
open L2 (V Hp HO upd SqL SqT Rd VK XK TE TT TA TI TS TG TGs Ends WX Cx PE PT PA PI PS PSs PG PGs Inv OpR CallR RelV Vals R2 PC PW Gl It Turn FpOk)
section
variable {X : Cx} {T : Tb} {xf : Nat → List Nm} {W : WX} {N : List PySem.Str} {sc : Scope} {n : Nat} {e k a b tg : Expr} {p p2 pos pos' : Pos} {str : Bool} {s t sa sb : G.Sem}
theorem RW.raw {H : Hp} {ρ Ow : List Addr} {v : V} {xs : List D} (r : RW T H ρ Ow v (.exc 0 xs)) : ∃ a vs, v = .ref a ∧ Rd H a (.tup vs) ∧ vs.length ≤ LIM ∧ RVs T H ρ Ow vs xs := by
  rcases r with r | ⟨_, _, _, _, h, _⟩
  · cases r with
    | raw q1 n1 z rs => exact ⟨_, _, rfl, q1, z, rs⟩
  · cases h
end
end G
namespace G
open PySem PySem.Spec PyProof.Rows
open L2 (V Hp HO upd SqL SqT Rd VK XK TE TT TA TI TS TG TGs Ends WX Cx PE PT PA PI PS PSs PG PGs Inv OpR CallR RelV Vals R2 PC PW Gl Room FunD Binds PK)
end G
namespace G
open PySem PySem.Spec PyProof.Rows
open L2 (V Hp HO upd SqL SqT Rd VK XK TE TT TA TI TS TG TGs Ends WX Cx PE PT PA PI PS PSs PG PGs Inv OpR CallR RelV Vals R2 PC PW Gl It Turn FpOk)
end G
namespace G
open PySem PySem.Spec PyProof.Rows
open L2 (V Hp HO upd SqL SqT Rd VK XK TE TT TA TI TS TG TGs Ends WX Cx PE PT PA PI PS PSs PG PGs Inv OpR CallR RelV Vals R2 PC PW Gl Room FunD Binds PK)
end G
namespace G
open PySem PySem.Spec PyProof.Rows
open L2 (V Hp HO upd SqL SqT Rd VK XK TE TT TA TI TS TG TGs Ends WX Cx PE PT PA PI PS PSs PG PGs Inv OpR CallR RelV Vals R2 PC PW Gl It Turn FpOk)
end G
namespace G
open PySem PySem.Spec PyProof.Rows
open L2 (V Hp HO upd SqL SqT Rd VK XK TE TT TA TI TS TG TGs Ends WX Cx PE PT PA PI PS PSs PG PGs Inv OpR CallR RelV Vals R2 PC PW Gl Room FunD Binds PK)
end G
namespace G
end G
namespace G
end G
namespace G
def unf (Γ : Ctx) : Ctx := { Γ with cls := fun b => (Γ.cls b).map fun q => { q with frozen := false } }
def mkSE (Γ : Ctx) (c : Nat) (es : List Sem) : Sem := mkE (unf Γ) c es
def idSV (c i : Nat) (neg : Bool) (env : Env) (_ : Store) : Option Bool := match env.get i with
  | some (.obj b _) => if b = c then some (!neg) else none
  | _ => none
def idOV (c i j : Nat) (neg : Bool) (env : Env) (st : Store) : Option Bool := match env.get i, env.get j with
  | some (.obj b _), some (.loc l) => match st[l]? with
    | some (.ins b2 _) => if b = c ∧ b2 = c then some neg else none
    | _ => none
  | _, _ => none
def idE (g : Env → Store → Option Bool) : Sem := .of fun env st => .of ((g env st).map .bl) st
end G
namespace G
open PySem PySem.Spec PyProof.Rows
open L2 (V Hp HO upd SqL SqT Rd VK XK TE TT TA TI TS TG TGs Ends WX Cx PE PT PA PI PS PSs PG PGs Inv OpR CallR RelV Vals R2 PC PW Gl PET PAT PST PSsT SP thn)
section
variable {X : Cx} {w : WS} {T : Tb} {xf : Nat → List Nm} {W : WX} {N : List PySem.Str} {sc : Scope} {n k i : Nat} {e o a b : Expr} {es : List Expr} {p p2 pos apos cpos : Pos} {s sa sb : G.Sem} {ss : List G.Sem} {str ra rb : Bool} {x : PySem.Str}
theorem PET.imp {X : Cx} {e : Expr} {t t' : TE} (h : PET X e t) (i : ∀ σ H Q, t' σ H Q → t σ H Q) : PET X e t' := fun pins s σ H Q h0 I q => h pins s σ H Q h0 I (i σ H Q q)
end
end G
namespace G
open PySem PySem.Spec PyProof.Rows
open L2 (V Hp HO upd SqL SqT Rd VK XK TE TT TA TI TS TG TGs Ends WX Cx PE PT PA PI PS PSs PG PGs Inv OpR CallR RelV Vals R2 PC PW Gl Room FunD Binds PK)
end G
namespace G
open PySem PySem.Spec PyProof.Rows
open L2 (V Hp HO upd SqL SqT Rd VK XK TE TT TA TI TS TG TGs Ends WX Cx PE PT PA PI PS PSs PG PGs Inv OpR CallR RelV Vals R2 PC PW Gl Room FunD Binds PK)
end G
namespace G
end G
namespace G
open PySem PySem.Spec PyProof.Rows
open L2 (V Hp HO upd SqL SqT Rd VK XK TE TT TA TI TS TG TGs Ends WX Cx PE PT PA PI PS PSs PG PGs Inv OpR CallR RelV Vals R2 PC PW Gl Room)
end G
namespace G
open PySem PySem.Spec PyProof.Rows
open L2 (V Hp HO upd SqL SqT Rd VK XK TE TT TA TI TS TG TGs Ends WX Cx PE PT PA PI PS PSs PG PGs Inv OpR CallR RelV Vals R2 PC PW Gl Room FunD Binds PK)
end G
namespace G
def m_is_integer (Γ : Ctx) : StS :=
  seqS (retS (Sem.bop true [isiE Γ (vE 0) .int, Sem.no (isiE Γ (vE 0) .bool)])) (passS)
def m_is_within (Γ : Ctx) (p0 : Fd) : StS :=
  seqS (retS (Sem.bop true [callE p0 [vE 0], chE .le .le (vE 1) (vE 0) (vE 2)])) (passS)
def m_is_name (Γ : Ctx) : StS :=
  seqS (ifS (Sem.bop false [Sem.no (isiE Γ (vE 0) .str), Sem.no (chE .le .le (kE (.int 1)) (biE .len [vE 0]) (kE (.int 8)))]) (seqS (retS (kE (.bl false))) (passS)) (passS)) (seqS (retS (Sem.bop true [opE .mem (opE .idx (vE 0) (kE (.int 0))) (kE (.str [97, 98, 99, 100, 101, 102, 103, 104, 105, 106, 107, 108, 109, 110, 111, 112, 113, 114, 115, 116, 117, 118, 119, 120, 121, 122])), biE .all [lcE (vE 0) (Sem.bop false [opE .mem (vE 1) (kE (.str [97, 98, 99, 100, 101, 102, 103, 104, 105, 106, 107, 108, 109, 110, 111, 112, 113, 114, 115, 116, 117, 118, 119, 120, 121, 122])), opE .mem (vE 1) (kE (.str [48, 49, 50, 51, 52, 53, 54, 55, 56, 57]))]) [1] (.nm 1) []]])) (passS))
def m_check_points (Γ : Ctx) (p0 : Fd) (p1 : Nat) : StS :=
  seqS (ifS (Sem.no (callE p0 [vE 0, kE (.int 1), kE (.int 9)])) (seqS (raiseS Γ p1 [vE 0]) (passS)) (passS)) (passS)
def m_is_row (Γ : Ctx) (p0 : Fd) (p1 : Fd) : StS :=
  seqS (ifS (Sem.bop false [Sem.no (isiE Γ (vE 0) .tuple), opE .ne (biE .len [vE 0]) (kE (.int 3)), Sem.no (callE p0 [opE .idx (vE 0) (kE (.int 0))])]) (seqS (retS (kE (.bl false))) (passS)) (passS)) (seqS (retS (Sem.bop true [callE p1 [opE .idx (vE 0) (kE (.int 1)), kE (.int 1), kE (.int 1000000000000000000000000000000)], callE p1 [opE .idx (vE 0) (kE (.int 2)), kE (.int 0), kE (.int 1000000000000000000000000000000000)]])) (passS))
def m_wrong_row (Γ : Ctx) (p0 : Fd) : StS :=
  seqS (ownS 1 (lstE [])) (seqS (forS (.tp [.nm 2, .nm 3]) (enumE (vE 0)) (seqS (ifS (Sem.bop false [Sem.no (callE p0 [vE 3]), opE .mem (opE .idx (vE 3) (kE (.int 0))) (pkE 1), opE .ge (vE 2) (kE (.int 6))]) (seqS (retS (vE 2)) (passS)) (passS)) (seqS (appS 1 (opE .idx (vE 3) (kE (.int 0)))) (passS)))) (seqS (retS (kE .non)) (passS)))
def m_check_rows (Γ : Ctx) (p0 : Nat) (p1 : Fd) : StS :=
  seqS (ifS (Sem.bop false [Sem.no (isiE Γ (vE 0) .tuple), opE .eq (biE .len [vE 0]) (kE (.int 0))]) (seqS (raiseS Γ p0 [kE .non]) (passS)) (passS)) (seqS (nmS 1 (callE p1 [vE 0])) (seqS (ifS (opE .isnot (vE 1) (kE .non)) (seqS (raiseS Γ p0 [vE 1]) (passS)) (passS)) (passS)))
def m_List_points (Γ : Ctx) : StS :=
  seqS (retS (atE Γ 6 (vE 0))) (passS)
def m_List_rows (Γ : Ctx) : StS :=
  seqS (retS (atE Γ 7 (vE 0))) (passS)
def m_List_kinds (Γ : Ctx) : StS :=
  seqS (retS (biE .tuple [lcE (atE Γ 7 (vE 0)) (opE .idx (vE 1) (kE (.int 0))) [1] (.nm 1) []])) (passS)
def m_law (Γ : Ctx) (p0 : Fd) (p1 : Fd) : StS :=
  seqS (forS (.nm 1) (rngE [biE .max [kE (.int 2), biE .min [biE .len [vE 0], kE (.int 6)]]]) (seqS (ifS (Sem.no (callE p0 [callE p1 [vE 0, vE 1]])) (seqS (retS (kE (.bl false))) (passS)) (passS)) (passS))) (seqS (retS (kE (.bl true))) (passS))
def m__wall (Γ : Ctx) : StS :=
  seqS (whlS (kE (.bl true)) (seqS (passS) (passS))) (passS)
def m_is_left (Γ : Ctx) (p0 : Fd) : StS :=
  seqS (ifS (Sem.bop false [Sem.no (isiE Γ (vE 0) .tuple), opE .ne (biE .len [vE 0]) (kE (.int 3)), Sem.no (callE p0 [opE .idx (vE 0) (kE (.int 2)), kE (.int 1), kE (.int 9)])]) (seqS (retS (kE (.bl false))) (passS)) (passS)) (seqS (retS (Sem.bop true [opE .mem (opE .idx (vE 0) (kE (.int 0))) (vE 1), opE .mem (opE .idx (vE 0) (kE (.int 1))) (vE 1)])) (passS))
def m_wrong_left (Γ : Ctx) (p0 : Fd) : StS :=
  seqS (ownS 2 (lstE [])) (seqS (forS (.tp [.nm 3, .nm 4]) (enumE (vE 0)) (seqS (ifS (Sem.bop false [Sem.no (callE p0 [vE 4, vE 1]), opE .mem (tupE [opE .idx (vE 4) (kE (.int 0)), opE .idx (vE 4) (kE (.int 1))]) (pkE 2), opE .mem (tupE [opE .idx (vE 4) (kE (.int 1)), opE .idx (vE 4) (kE (.int 0))]) (pkE 2)]) (seqS (retS (vE 3)) (passS)) (passS)) (seqS (appS 2 (tupE [opE .idx (vE 4) (kE (.int 0)), opE .idx (vE 4) (kE (.int 1))])) (passS)))) (seqS (retS (kE .non)) (passS)))
def m_Season_init (Γ : Ctx) (p0 : Fd) (p1 : Fd) (p2 : Nat) (p3 : Fd) : StS :=
  seqS (exS (callE p0 [vE 1])) (seqS (exS (callE p1 [vE 2])) (seqS (nmS 4 (lcE (vE 2) (opE .idx (vE 6) (kE (.int 0))) [6] (.nm 6) [])) (seqS (ifS (Sem.no (isiE Γ (vE 3) .tuple)) (seqS (raiseS Γ p2 [kE .non]) (passS)) (passS)) (seqS (nmS 5 (callE p3 [vE 3, vE 4])) (seqS (ifS (opE .isnot (vE 5) (kE .non)) (seqS (raiseS Γ p2 [vE 5]) (passS)) (passS)) (seqS (fldS Γ 6 (vE 0) (vE 1)) (seqS (fldS Γ 7 (vE 0) (vE 2)) (seqS (fldS Γ 8 (vE 0) (vE 3)) (passS)))))))))
def m_Season_left (Γ : Ctx) : StS :=
  seqS (retS (atE Γ 8 (vE 0))) (passS)
def m_Season_meetings (Γ : Ctx) : StS :=
  seqS (nmS 3 (atE Γ 18 (vE 0))) (seqS (nmS 4 (lstE [tupE [opE .idx (vE 3) (vE 1), opE .idx (vE 3) (vE 2)], tupE [opE .idx (vE 3) (vE 2), opE .idx (vE 3) (vE 1)]])) (seqS (nmS 5 (lcE (atE Γ 8 (vE 0)) (vE 8) [6, 7, 8] (.tp [.nm 6, .nm 7, .nm 8]) [opE .mem (tupE [vE 6, vE 7]) (vE 4)])) (seqS (retS (Sem.ife (opE .ne (vE 5) (lstE [])) (opE .idx (vE 5) (kE (.int 0))) (kE (.int 0)))) (passS))))
def m_Season_within (Γ : Ctx) (p0 : Nat) : StS :=
  seqS (nmS 2 (kE (.int 0))) (seqS (forS (.tp [.nm 3, .nm 4]) (enumE (vE 1)) (seqS (augS 2 .add (opE .fdiv (opE .mul (opE .mul (meE Γ p0 34 (vE 0) [vE 3, vE 3]) (vE 4)) (opE .sub (vE 4) (kE (.int 1)))) (kE (.int 2)))) (seqS (augS 2 .add (biE .sum [lcE (rngE [vE 3]) (opE .mul (opE .mul (meE Γ p0 34 (vE 0) [vE 3, vE 5]) (vE 4)) (opE .idx (vE 1) (vE 5))) [5] (.nm 5) []])) (passS)))) (seqS (retS (opE .mul (atE Γ 6 (vE 0)) (vE 2))) (passS)))
def m_Season_others_of (Γ : Ctx) (p0 : Fd) : StS :=
  seqS (exS (callE p0 [kE (.int 0)])) (passS)
def m_Season_best_of (Γ : Ctx) (p0 : Fd) : StS :=
  seqS (exS (callE p0 [kE (.int 1)])) (passS)
def m_Season_is_first (Γ : Ctx) (p0 : Fd) : StS :=
  seqS (exS (callE p0 [kE (.int 2)])) (passS)
def m_Season_is_last (Γ : Ctx) (p0 : Fd) : StS :=
  seqS (exS (callE p0 [kE (.int 3)])) (passS)
def m_Season_row_of (Γ : Ctx) (p0 : Fd) : StS :=
  seqS (exS (callE p0 [kE (.int 4)])) (passS)
def m_Season_best (Γ : Ctx) (p0 : Fd) : StS :=
  seqS (exS (callE p0 [kE (.int 5)])) (passS)
def m_check_kind (Γ : Ctx) (p0 : Nat) : StS :=
  seqS (ifS (opE .nmem (vE 1) (vE 0)) (seqS (raiseS Γ p0 [vE 1]) (passS)) (passS)) (passS)
def m_Season_others_of_k57 (Γ : Ctx) : StS :=
  seqS (retS (lcE (enumE (atE Γ 7 (vE 0))) (opE .sub (opE .idx (vE 3) (kE (.int 1))) (biE .int [opE .eq (vE 2) (vE 1)])) [2, 3] (.tp [.nm 2, .nm 3]) [])) (passS)
def m_Season_best_of_k57 (Γ : Ctx) (p0 : Nat) : StS :=
  seqS (nmS 2 (biE .sum [lcE (enumE (meE Γ p0 36 (vE 0) [vE 1])) (opE .mul (meE Γ p0 34 (vE 0) [vE 1, vE 3]) (vE 4)) [3, 4] (.tp [.nm 3, .nm 4]) []])) (seqS (retS (opE .add (opE .idx (opE .idx (atE Γ 7 (vE 0)) (vE 1)) (kE (.int 2))) (opE .mul (atE Γ 6 (vE 0)) (vE 2)))) (passS))
def m_Season_row_of_k57 (Γ : Ctx) (p0 : Fd) : StS :=
  seqS (exS (callE p0 [atE Γ 18 (vE 0), vE 1])) (seqS (retS (tindexE (atE Γ 18 (vE 0)) (vE 1))) (passS))
def m_Season_best_k57 (Γ : Ctx) (p0 : Nat) : StS :=
  seqS (retS (meE Γ p0 37 (vE 0) [meE Γ p0 40 (vE 0) [vE 1]])) (passS)
def m_spring (Γ : Ctx) : StS :=
  seqS (nmS 2 (Sem.ife (opE .lt (vE 1) (biE .len [vE 0])) (biE .int [opE .idx (vE 0) (vE 1)]) (kE (.int 0)))) (seqS (nmS 3 (opE .add (kE (.int 5501)) (opE .mul (kE (.int 7919)) (vE 1)))) (seqS (forS (.nm 4) (slE (vE 0) [] [kE (.int 6)]) (seqS (nmS 3 (opE .mod (biE .int [opE .add (opE .add (opE .mul (vE 3) (kE (.int 60013))) (opE .mod (biE .int [vE 4]) (kE (.int 1999999973)))) (kE (.int 29))]) (kE (.int 2147483563)))) (passS))) (seqS (nmS 3 (opE .mod (biE .int [opE .add (opE .add (opE .mul (vE 3) (kE (.int 91019))) (opE .mod (biE .int [vE 2]) (kE (.int 2147483399)))) (kE (.int 11))]) (kE (.int 2147483563)))) (seqS (retS (newE [vE 3, Sem.ife (opE .ge (biE .abs [vE 2]) (opE .pow (kE (.int 10)) (kE (.int 18)))) (biE .abs [vE 2]) (kE (.int 0)), kE (.int 0)])) (passS)))))
def m_draw (Γ : Ctx) : StS :=
  seqS (ifS (opE .gt (opE .idx (vE 0) (kE (.int 1))) (kE (.int 0))) (seqS (unpS [subR (vE 0) (kE (.int 1)), nmT 2] (biE .divmod [opE .idx (vE 0) (kE (.int 1)), vE 1])) (seqS (retS (vE 2)) (passS))) (passS)) (seqS (tgS (subR (vE 0) (kE (.int 2))) (opE .add (opE .idx (vE 0) (kE (.int 2))) (kE (.int 1)))) (seqS (tgS (subR (vE 0) (kE (.int 0))) (opE .mod (biE .int [opE .add (opE .add (opE .mul (opE .idx (vE 0) (kE (.int 0))) (kE (.int 40021))) (opE .mul (opE .mul (opE .idx (vE 0) (kE (.int 2))) (opE .idx (vE 0) (kE (.int 2)))) (kE (.int 17)))) (kE (.int 1009))]) (kE (.int 2147483563)))) (seqS (retS (opE .mod (biE .int [opE .fdiv (opE .idx (vE 0) (kE (.int 0))) (kE (.int 97))]) (vE 1))) (passS))))
def m_great_k57 (Γ : Ctx) (p0 : Fd) : StS :=
  seqS (nmS 1 (kE (.int 0))) (seqS (forS (.nm 2) (rngE [kE (.int 5)]) (seqS (nmS 1 (opE .add (opE .mul (vE 1) (opE .pow (kE (.int 10)) (kE (.int 6)))) (callE p0 [vE 0, opE .pow (kE (.int 10)) (kE (.int 6))]))) (passS))) (seqS (retS (vE 1)) (passS)))
def m_number_k57 (Γ : Ctx) (p0 : Fd) (p1 : Fd) : StS :=
  seqS (nmS 1 (callE p0 [vE 0, kE (.int 5)])) (seqS (ifS (opE .lt (vE 1) (kE (.int 2))) (seqS (retS (opE .add (kE (.int 1)) (callE p0 [vE 0, kE (.int 4)]))) (passS)) (passS)) (seqS (ifS (opE .eq (vE 1) (kE (.int 2))) (seqS (retS (opE .add (kE (.int 1)) (callE p0 [vE 0, kE (.int 1000)]))) (passS)) (passS)) (seqS (retS (Sem.ife (opE .eq (vE 1) (kE (.int 3))) (opE .add (kE (.int 1)) (callE p1 [vE 0])) (opE .sub (opE .pow (kE (.int 10)) (kE (.int 30))) (callE p0 [vE 0, kE (.int 3)])))) (passS))))
def m_named (Γ : Ctx) (p0 : Fd) : StS :=
  seqS (parS [(false, 3), (false, 4)] [kE (.str [97, 98, 99, 100, 101, 102, 103, 104, 105, 106, 107, 108, 109, 110, 111, 112, 113, 114, 115, 116, 117, 118, 119, 120, 121, 122]), kE (.str [97, 98, 99, 100, 101, 102, 103, 104, 105, 106, 107, 108, 109, 110, 111, 112, 113, 114, 115, 116, 117, 118, 119, 120, 121, 122, 48, 49, 50, 51, 52, 53, 54, 55, 56, 57])]) (seqS (parS [(false, 5), (true, 6)] [lstE [kE (.str [112, 111, 105, 110, 116, 115]), kE (.str [112, 111, 115, 115, 105, 98, 108, 101]), kE (.str [110, 101, 118, 101, 114]), kE (.str [116, 97, 107, 101, 115]), kE (.str [97, 98, 111, 118, 101]), kE (.str [97]), kE (.str [97, 108, 108]), kE (.str [110, 111, 110, 101])], lstE []]) (seqS (forS (.nm 2) (rngE [vE 1]) (seqS (nmS 7 (opE .idx (vE 3) (callE p0 [vE 0, kE (.int 26)]))) (seqS (forS (.nm 8) (rngE [Sem.ife (opE .eq (callE p0 [vE 0, kE (.int 3)]) (kE (.int 0))) (callE p0 [vE 0, kE (.int 8)]) (callE p0 [vE 0, kE (.int 3)])]) (seqS (nmS 7 (opE .add (vE 7) (opE .idx (vE 4) (callE p0 [vE 0, kE (.int 36)])))) (passS))) (seqS (ifS (opE .eq (callE p0 [vE 0, kE (.int 6)]) (kE (.int 0))) (seqS (nmS 7 (opE .idx (vE 5) (callE p0 [vE 0, kE (.int 8)]))) (passS)) (passS)) (seqS (nmS 9 (opE .add (lstE [vE 7]) (lcE (rngE [vE 1]) (opE .add (kE (.str [113])) (biE .str [vE 10])) [10] (.nm 10) []))) (seqS (appS 6 (opE .idx (lcE (vE 9) (vE 11) [11] (.nm 11) [opE .nmem (vE 11) (pkE 6)]) (kE (.int 0)))) (passS))))))) (frzS 6 (seqS (retS (vE 6)) (passS)))))
def m_so_far (Γ : Ctx) (p0 : Fd) (p1 : Fd) : StS :=
  seqS (nmS 1 (callE p0 [vE 0, kE (.int 4)])) (seqS (ifS (opE .lt (vE 1) (kE (.int 2))) (seqS (retS (callE p0 [vE 0, kE (.int 12)])) (passS)) (passS)) (seqS (retS (Sem.ife (opE .eq (vE 1) (kE (.int 2))) (callE p0 [vE 0, opE .pow (kE (.int 10)) (kE (.int 6))]) (opE .add (opE .mul (kE (.int 500)) (callE p1 [vE 0])) (callE p0 [vE 0, kE (.int 501)])))) (passS)))
def m_left (Γ : Ctx) (p0 : Fd) : StS :=
  seqS (nmS 2 (lstE [])) (seqS (forS (.nm 3) (rngE [biE .len [vE 1]]) (seqS (forS (.nm 4) (rngE [opE .add (vE 3) (kE (.int 1))]) (seqS (ifS (opE .eq (callE p0 [vE 0, kE (.int 2)]) (kE (.int 0))) (seqS (nmS 5 (Sem.ife (opE .eq (callE p0 [vE 0, kE (.int 2)]) (kE (.int 0))) (tupE [opE .idx (vE 1) (vE 3), opE .idx (vE 1) (vE 4)]) (tupE [opE .idx (vE 1) (vE 4), opE .idx (vE 1) (vE 3)]))) (seqS (nmS 6 (callE p0 [vE 0, opE .add (biE .len [vE 2]) (kE (.int 1))])) (seqS (nmS 2 (opE .add (opE .add (slE (vE 2) [] [vE 6]) (lstE [opE .add (vE 5) (tupE [opE .add (kE (.int 1)) (callE p0 [vE 0, kE (.int 9)])])])) (slE (vE 2) [vE 6] []))) (passS)))) (passS)) (passS))) (passS))) (seqS (retS (biE .tuple [vE 2])) (passS)))
def m_season (Γ : Ctx) (p0 : Fd) (p1 : Fd) (p2 : Fd) (p3 : Fd) (p4 : Fd) : StS :=
  seqS (nmS 2 (callE p0 [vE 0, opE .add (kE (.int 1)) (callE p1 [vE 0, vE 1])])) (seqS (nmS 3 (biE .tuple [lcE (vE 2) (tupE [vE 4, callE p2 [vE 0], callE p3 [vE 0]]) [4] (.nm 4) []])) (seqS (retS (lstE [opE .add (kE (.int 1)) (callE p1 [vE 0, kE (.int 9)]), vE 3, callE p4 [vE 0, vE 2]])) (passS)))
def m_times (Γ : Ctx) : StS :=
  seqS (retS (biE .sum [lcE (vE 0) (opE .idx (vE 3) (kE (.int 2))) [3] (.nm 3) [Sem.bop false [opE .eq (slE (vE 3) [] [kE (.int 2)]) (tupE [vE 1, vE 2]), opE .eq (slE (vE 3) [] [kE (.int 2)]) (tupE [vE 2, vE 1])]]])) (passS)
def m_hopes (Γ : Ctx) (p0 : Fd) : StS :=
  seqS (retS (opE .mul (vE 0) (biE .sum [lcE (vE 1) (opE .mul (callE p0 [vE 2, vE 3, opE .idx (vE 4) (kE (.int 0))]) (opE .sub (opE .idx (vE 4) (kE (.int 1))) (biE .int [opE .eq (opE .idx (vE 4) (kE (.int 0))) (vE 3)]))) [4] (.nm 4) []]))) (passS)
def m_shown (Γ : Ctx) (p0 : Nat) : StS :=
  seqS (nmS 2 (lcE (vE 1) (meE Γ p0 41 (vE 0) [vE 3]) [3] (.nm 3) [])) (seqS (retS (biE .repr [lstE [atE Γ 16 (vE 0), atE Γ 17 (vE 0), atE Γ 20 (vE 0), atE Γ 18 (vE 0), vE 2]])) (passS))
def m_due_k53 (Γ : Ctx) (p0 : Fd) : StS :=
  seqS (nmS 3 (lcE (vE 1) (opE .idx (vE 5) (kE (.int 0))) [5] (.nm 5) [])) (seqS (nmS 4 (lcE (vE 1) (opE .add (opE .idx (vE 5) (kE (.int 2))) (callE p0 [vE 0, vE 1, vE 2, opE .idx (vE 5) (kE (.int 0))])) [5] (.nm 5) [])) (seqS (retS (biE .repr [lstE [vE 0, vE 1, vE 2, biE .tuple [vE 3], vE 4]])) (passS)))
def m_right_k53 (Γ : Ctx) (p0 : Fd) (p1 : Nat) (p2 : Fd) (p3 : Fd) (p4 : Fd) (p5 : Fd) : StS :=
  seqS (unpS [nmT 5, nmT 6, nmT 7] (callE p0 [vE 0, kE (.int 6)])) (seqS (parS [(false, 8), (false, 9)] [lcE (vE 6) (opE .idx (vE 12) (kE (.int 0))) [12] (.nm 12) [], biE .repr [lstE [vE 5, vE 6, vE 7]]]) (seqS (parS [(false, 10), (false, 11)] [mkE Γ p1 [vE 5, vE 6, vE 7], mkKE Γ p1 [2, 1, 0] [tupE [], vE 6, vE 5]]) (seqS (ifS (opE .eq (callE p2 [vE 0, kE (.int 2)]) (kE (.int 0))) (seqS (nmS 10 (mkKE Γ p1 [1, 2, 0] [vE 7, vE 5, vE 6])) (passS)) (passS)) (seqS (forS (.nm 1) (rngE [kE (.int 2)]) (seqS (ifS (opE .ne (callE p3 [vE 10, vE 8]) (callE p4 [vE 5, vE 6, vE 7])) (seqS (retS (kE (.bl false))) (passS)) (passS)) (seqS (ifS (opE .ne (callE p3 [vE 11, vE 8]) (callE p4 [vE 5, vE 6, tupE []])) (seqS (retS (kE (.bl false))) (passS)) (passS)) (passS)))) (seqS (nmS 2 (callE p2 [vE 0, biE .len [vE 6]])) (seqS (ifS (opE .ne (biE .repr [meKE Γ p1 41 (vE 10) [0] [opE .idx (vE 8) (vE 2)]]) (biE .repr [opE .add (opE .idx (opE .idx (vE 6) (vE 2)) (kE (.int 2))) (callE p5 [vE 5, vE 6, vE 7, opE .idx (vE 8) (vE 2)])])) (seqS (retS (kE (.bl false))) (passS)) (passS)) (seqS (nmS 3 (mkSE Γ p1 [vE 5, vE 6, vE 7])) (seqS (nmS 4 (lstE [idE (idSV p1 10 false), idE (idOV p1 10 3 false), idE (idOV p1 10 3 true), idE (idSV p1 10 true), boolNE p1 (vE 10)])) (seqS (retS (Sem.bop true [opE .eq (biE .repr [vE 4]) (kE (.str [91, 84, 114, 117, 101, 44, 32, 70, 97, 108, 115, 101, 44, 32, 84, 114, 117, 101, 44, 32, 70, 97, 108, 115, 101, 44, 32, 84, 114, 117, 101, 93])), opE .eq (biE .repr [lstE [vE 5, vE 6, vE 7]]) (vE 9)])) (passS))))))))))
end G
namespace K53
open PySem PySem.Spec PyProof.Rows G
abbrev prog : Program := PySem.Challenge.pw_scorelists_k53_seasons_made
def top (i : Nat) : Stmt := prog.main.body.getD i (.Pass ⟨0, 0, 0, 0⟩)
def sub (i j : Nat) : Stmt := match top i with
  | .ClassDef _ _ _ b _ _ _ _ _ _ _ => b.getD j (.Pass ⟨0, 0, 0, 0⟩)
  | _ => .Pass ⟨0, 0, 0, 0⟩
def d0 : Df := ⟨.glo "_wall", "_wall", "_wall", L2.defArgs (top 0), L2.defBody (top 0), L2.defScope (top 0), ["k"], ["k"], fun Γ => m__wall Γ, false, false, false⟩
def d1 : Df := ⟨.me "InvalidNumber" "__init__", "__init__", "InvalidNumber.__init__", L2.defArgs (sub 3 0), L2.defBody (sub 3 0), L2.defScope (sub 3 0), ["self", "given"], ["self", "given"], fun _ => badS, false, false, false⟩
def d2 : Df := ⟨.me "InvalidRows" "__init__", "__init__", "InvalidRows.__init__", L2.defArgs (sub 4 0), L2.defBody (sub 4 0), L2.defScope (sub 4 0), ["self", "index"], ["self", "index"], fun _ => badS, false, false, false⟩
def d3 : Df := ⟨.me "InvalidLeft" "__init__", "__init__", "InvalidLeft.__init__", L2.defArgs (sub 5 0), L2.defBody (sub 5 0), L2.defScope (sub 5 0), ["self", "index"], ["self", "index"], fun _ => badS, false, false, false⟩
def d4 : Df := ⟨.me "UnknownName" "__init__", "__init__", "UnknownName.__init__", L2.defArgs (sub 7 0), L2.defBody (sub 7 0), L2.defScope (sub 7 0), ["self", "given"], ["self", "given"], fun _ => badS, false, false, false⟩
def d5 : Df := ⟨.glo "is_integer", "is_integer", "is_integer", L2.defArgs (top 17), L2.defBody (top 17), L2.defScope (top 17), ["value"], ["value"], fun Γ => m_is_integer Γ, false, false, false⟩
def d6 : Df := ⟨.glo "is_within", "is_within", "is_within", L2.defArgs (top 18), L2.defBody (top 18), L2.defScope (top 18), ["value", "least", "most"], ["value", "least", "most"], fun Γ => m_is_within Γ (Γ.call 5), false, false, false⟩
def d7 : Df := ⟨.glo "is_name", "is_name", "is_name", L2.defArgs (top 19), L2.defBody (top 19), L2.defScope (top 19), ["value", "sign"], ["value"], fun Γ => m_is_name Γ, false, false, false⟩
def d8 : Df := ⟨.glo "check_points", "check_points", "check_points", L2.defArgs (top 20), L2.defBody (top 20), L2.defScope (top 20), ["value"], ["value"], fun Γ => m_check_points Γ (Γ.call 6) 0, false, false, false⟩
def d9 : Df := ⟨.glo "is_row", "is_row", "is_row", L2.defArgs (top 22), L2.defBody (top 22), L2.defScope (top 22), ["value"], ["value"], fun Γ => m_is_row Γ (Γ.call 7) (Γ.call 6), false, false, false⟩
def d10 : Df := ⟨.glo "wrong_row", "wrong_row", "wrong_row", L2.defArgs (top 23), L2.defBody (top 23), L2.defScope (top 23), ["rows", "names", "at", "row"], ["rows"], fun Γ => m_wrong_row Γ (Γ.call 9), false, false, false⟩
def d11 : Df := ⟨.glo "check_rows", "check_rows", "check_rows", L2.defArgs (top 24), L2.defBody (top 24), L2.defScope (top 24), ["rows", "wrong"], ["rows"], fun Γ => m_check_rows Γ 1 (Γ.call 10), false, false, false⟩
def d12 : Df := ⟨.glo "check_kind", "check_kind", "check_kind", L2.defArgs (top 25), L2.defBody (top 25), L2.defScope (top 25), ["kinds", "value"], ["kinds", "value"], fun Γ => m_check_kind Γ 3, false, false, false⟩
def d13 : Df := ⟨.glo "is_left", "is_left", "is_left", L2.defArgs (top 27), L2.defBody (top 27), L2.defScope (top 27), ["value", "kinds"], ["value", "kinds"], fun Γ => m_is_left Γ (Γ.call 6), false, false, false⟩
def d14 : Df := ⟨.glo "wrong_left", "wrong_left", "wrong_left", L2.defArgs (top 28), L2.defBody (top 28), L2.defScope (top 28), ["left", "kinds", "pairs", "at", "row"], ["left", "kinds"], fun Γ => m_wrong_left Γ (Γ.call 13), false, false, false⟩
def d15 : Df := ⟨.me "Season" "__init__", "__init__", "Season.__init__", L2.defArgs (sub 29 0), L2.defBody (sub 29 0), L2.defScope (sub 29 0), ["self", "points", "rows", "left", "names", "wrong", "row"], ["self", "points", "rows", "left"], fun Γ => m_Season_init Γ (Γ.call 8) (Γ.call 11) 2 (Γ.call 14), false, false, false⟩
def d16 : Df := ⟨.prop "Season" "points", "points", "Season.points", L2.defArgs (sub 29 1), L2.defBody (sub 29 1), L2.defScope (sub 29 1), ["self"], ["self"], fun Γ => m_List_points Γ, false, false, false⟩
def d17 : Df := ⟨.prop "Season" "rows", "rows", "Season.rows", L2.defArgs (sub 29 2), L2.defBody (sub 29 2), L2.defScope (sub 29 2), ["self"], ["self"], fun Γ => m_List_rows Γ, false, false, false⟩
def d18 : Df := ⟨.prop "Season" "left", "left", "Season.left", L2.defArgs (sub 29 3), L2.defBody (sub 29 3), L2.defScope (sub 29 3), ["self"], ["self"], fun Γ => m_Season_left Γ, false, false, false⟩
def d19 : Df := ⟨.prop "Season" "kinds", "kinds", "Season.kinds", L2.defArgs (sub 29 4), L2.defBody (sub 29 4), L2.defScope (sub 29 4), ["self", "row"], ["self"], fun Γ => m_List_kinds Γ, false, false, false⟩
def d20 : Df := ⟨.me "Season" "meetings", "meetings", "Season.meetings", L2.defArgs (sub 29 5), L2.defBody (sub 29 5), L2.defScope (sub 29 5), ["self", "one", "two", "kinds", "pairs", "found", "kind", "other", "times"], ["self", "one", "two"], fun Γ => m_Season_meetings Γ, false, false, false⟩
def d21 : Df := ⟨.me "Season" "within", "within", "Season.within", L2.defArgs (sub 29 6), L2.defBody (sub 29 6), L2.defScope (sub 29 6), ["self", "numbers", "found", "one", "number", "two"], ["self", "numbers"], fun Γ => m_Season_within Γ 0, false, false, false⟩
def d22 : Df := ⟨.me "Season" "others_of", "others_of", "Season.others_of", L2.defArgs (sub 29 7), L2.defBody (sub 29 7), L2.defScope (sub 29 7), ["self", "at", "place", "row"], ["self", "at"], fun Γ => m_Season_others_of_k57 Γ, false, false, false⟩
def d23 : Df := ⟨.me "Season" "best_of", "best_of", "Season.best_of", L2.defArgs (sub 29 8), L2.defBody (sub 29 8), L2.defScope (sub 29 8), ["self", "at", "left", "to", "number"], ["self", "at"], fun Γ => m_Season_best_of_k57 Γ 0, false, false, false⟩
def d24 : Df := ⟨.me "Season" "is_first", "is_first", "Season.is_first", L2.defArgs (sub 29 9), L2.defBody (sub 29 9), L2.defScope (sub 29 9), ["self", "at"], ["self", "at"], fun Γ => m_Season_others_of Γ (Γ.call 0), false, false, false⟩
def d25 : Df := ⟨.me "Season" "is_last", "is_last", "Season.is_last", L2.defArgs (sub 29 10), L2.defBody (sub 29 10), L2.defScope (sub 29 10), ["self", "at"], ["self", "at"], fun Γ => m_Season_best_of Γ (Γ.call 0), false, false, false⟩
def d26 : Df := ⟨.me "Season" "row_of", "row_of", "Season.row_of", L2.defArgs (sub 29 11), L2.defBody (sub 29 11), L2.defScope (sub 29 11), ["self", "kind"], ["self", "kind"], fun Γ => m_Season_row_of_k57 Γ (Γ.call 12), false, false, false⟩
def d27 : Df := ⟨.me "Season" "best", "best", "Season.best", L2.defArgs (sub 29 12), L2.defBody (sub 29 12), L2.defScope (sub 29 12), ["self", "kind"], ["self", "kind"], fun Γ => m_Season_best_k57 Γ 0, false, false, false⟩
def d28 : Df := ⟨.me "Season" "can_be_first", "can_be_first", "Season.can_be_first", L2.defArgs (sub 29 13), L2.defBody (sub 29 13), L2.defScope (sub 29 13), ["self", "kind"], ["self", "kind"], fun Γ => m_Season_is_first Γ (Γ.call 0), false, false, false⟩
def d29 : Df := ⟨.me "Season" "can_be_last", "can_be_last", "Season.can_be_last", L2.defArgs (sub 29 14), L2.defBody (sub 29 14), L2.defScope (sub 29 14), ["self", "kind"], ["self", "kind"], fun Γ => m_Season_is_last Γ (Γ.call 0), false, false, false⟩
def d30 : Df := ⟨.me "Season" "firsts", "firsts", "Season.firsts", L2.defArgs (sub 29 15), L2.defBody (sub 29 15), L2.defScope (sub 29 15), ["self"], ["self"], fun Γ => m_Season_row_of Γ (Γ.call 0), false, false, false⟩
def d31 : Df := ⟨.me "Season" "bar", "bar", "Season.bar", L2.defArgs (sub 29 16), L2.defBody (sub 29 16), L2.defScope (sub 29 16), ["self"], ["self"], fun Γ => m_Season_best Γ (Γ.call 0), false, false, false⟩
def d32 : Df := ⟨.glo "_law_spring", "_law_spring", "_law_spring", L2.defArgs (top 31), L2.defBody (top 31), L2.defScope (top 31), ["_law_script", "_law_k", "_law_cell", "_law_state", "_law_each"], ["_law_script", "_law_k"], fun Γ => m_spring Γ, false, false, false⟩
def d33 : Df := ⟨.glo "_law_draw", "_law_draw", "_law_draw", L2.defArgs (top 32), L2.defBody (top 32), L2.defScope (top 32), ["_law_flow", "_law_many", "_law_digit"], ["_law_flow", "_law_many"], fun Γ => m_draw Γ, false, false, false⟩
def d34 : Df := ⟨.glo "_law_great", "_law_great", "_law_great", L2.defArgs (top 33), L2.defBody (top 33), L2.defScope (top 33), ["_law_flow", "_law_found", "_law_turn"], ["_law_flow"], fun Γ => m_great_k57 Γ (Γ.call 33), false, false, false⟩
def d35 : Df := ⟨.glo "_law_number", "_law_number", "_law_number", L2.defArgs (top 34), L2.defBody (top 34), L2.defScope (top 34), ["_law_flow", "_law_way"], ["_law_flow"], fun Γ => m_number_k57 Γ (Γ.call 33) (Γ.call 34), false, false, false⟩
def d36 : Df := ⟨.glo "_law_so_far", "_law_so_far", "_law_so_far", L2.defArgs (top 35), L2.defBody (top 35), L2.defScope (top 35), ["_law_flow", "_law_way"], ["_law_flow"], fun Γ => m_so_far Γ (Γ.call 33) (Γ.call 34), false, false, false⟩
def d37 : Df := ⟨.glo "_law_named", "_law_named", "_law_named", L2.defArgs (top 36), L2.defBody (top 36), L2.defScope (top 36), ["_law_flow", "_law_many", "_law_turn", "_law_letters", "_law_signs", "_law_words", "_law_found", "_law_name", "_law_more", "_law_others", "_law_k", "_law_each"], ["_law_flow", "_law_many"], fun Γ => m_named Γ (Γ.call 33), false, false, false⟩
def d38 : Df := ⟨.glo "_law_left", "_law_left", "_law_left", L2.defArgs (top 37), L2.defBody (top 37), L2.defScope (top 37), ["_law_flow", "_law_names", "_law_found", "_law_i", "_law_j", "_law_pair", "_law_at"], ["_law_flow", "_law_names"], fun Γ => m_left Γ (Γ.call 33), false, false, false⟩
def d39 : Df := ⟨.glo "_law_times", "_law_times", "_law_times", L2.defArgs (top 38), L2.defBody (top 38), L2.defScope (top 38), ["_law_plan", "_law_one", "_law_two", "_law_row"], ["_law_plan", "_law_one", "_law_two"], fun Γ => m_times Γ, false, false, false⟩
def d40 : Df := ⟨.glo "_law_hopes", "_law_hopes", "_law_hopes", L2.defArgs (top 39), L2.defBody (top 39), L2.defScope (top 39), ["_law_stake", "_law_table", "_law_plan", "_law_name", "_law_row"], ["_law_stake", "_law_table", "_law_plan", "_law_name"], fun Γ => m_hopes Γ (Γ.call 39), false, false, false⟩
def d41 : Df := ⟨.glo "_law_season", "_law_season", "_law_season", L2.defArgs (top 40), L2.defBody (top 40), L2.defScope (top 40), ["_law_flow", "_law_most", "_law_names", "_law_table", "_law_name"], ["_law_flow", "_law_most"], fun Γ => m_season Γ (Γ.call 37) (Γ.call 33) (Γ.call 35) (Γ.call 36) (Γ.call 38), false, false, false⟩
def d42 : Df := ⟨.glo "_law_shown", "_law_shown", "_law_shown", L2.defArgs (top 41), L2.defBody (top 41), L2.defScope (top 41), ["_law_season_here", "_law_asked", "_law_bests", "_law_name"], ["_law_season_here", "_law_asked"], fun Γ => m_shown Γ 0, false, false, false⟩
def d43 : Df := ⟨.glo "_law_due", "_law_due", "_law_due", L2.defArgs (top 42), L2.defBody (top 42), L2.defScope (top 42), ["_law_stake", "_law_table", "_law_plan", "_law_names", "_law_bests", "_law_row"], ["_law_stake", "_law_table", "_law_plan"], fun Γ => m_due_k53 Γ (Γ.call 40), false, false, false⟩
def d44 : Df := ⟨.glo "_law_right", "_law_right", "_law_right", L2.defArgs (top 43), L2.defBody (top 43), L2.defScope (top 43), ["_law_flow", "_law_turn", "_law_at", "_law_twin", "_law_told", "_law_stake", "_law_table", "_law_plan", "_law_names", "_law_kept", "_law_season_here", "_law_bare", "_law_row"], ["_law_flow"], fun Γ => m_right_k53 Γ (Γ.call 41) 0 (Γ.call 33) (Γ.call 42) (Γ.call 43) (Γ.call 40), false, false, false⟩
def d45 : Df := ⟨.glo "law", "law", "law", L2.defArgs (top 44), L2.defBody (top 44), L2.defScope (top 44), ["_law_script", "_law_k"], ["_law_script"], fun Γ => m_law Γ (Γ.call 44) (Γ.call 32), false, false, false⟩
def clsT : List ClT := [⟨"Season", ⟨[6, 7, 8], 15, [(16, 16), (17, 17), (20, 18), (18, 19)], [(34, 20), (35, 21), (36, 22), (37, 23), (38, 24), (39, 25), (40, 26), (41, 27), (42, 28), (43, 29), (44, 30), (45, 31)], true⟩, []⟩]
def exsT : List XcT := [⟨"InvalidNumber", ⟨[61], 0, 100⟩, 1⟩, ⟨"InvalidRows", ⟨[62], 0, 100⟩, 2⟩, ⟨"InvalidLeft", ⟨[62], 0, 100⟩, 3⟩, ⟨"UnknownName", ⟨[61], 1, 101⟩, 4⟩]
def defsT : List Df := [d0, d1, d2, d3, d4, d5, d6, d7, d8, d9, d10, d11, d12, d13, d14, d15, d16, d17, d18, d19, d20, d21, d22, d23, d24, d25, d26, d27, d28, d29, d30, d31, d32, d33, d34, d35, d36, d37, d38, d39, d40, d41, d42, d43, d44, d45]
def pt : G.PT := ⟨defsT, clsT, exsT, (["__init__", "__len__", "__contains__", "__eq__", "__str__", "__bool__", "stake", "lines", "plan", "table", "split", "begins", "states", "before", "holder", "mark", "points", "rows", "kinds", "players", "left", "scores", "share", "rest", "arcs", "turned", "within_kind", "across", "between_players", "place_of"] : List PySem.Str) ++ (["from_row", "match", "against", "score", "meetings", "within", "others_of", "best_of", "is_first", "is_last", "row_of", "best", "can_be_first", "can_be_last", "firsts", "bar", "entries", "names", "wishes", "changes", "__setitem__", "__getitem__", "wish", "lift", "undo", "trial", "tried", "__enter__", "__exit__", "__iter__"] : List PySem.Str) ++ (["read", "given", "index", "lack"] : List PySem.Str), ["len", "int", "str", "repr", "abs", "bool", "min", "max", "sum", "sorted", "tuple", "list", "all", "any", "divmod", "range", "enumerate", "zip", "isinstance", "set", "dict", "reversed", "print"], [("MOST_POINTS", 9), ("MOST_KINDS", 6), ("MOST_PLAYERS", 1000000000000000000000000000000), ("MOST_SCORE", 1000000000000000000000000000000000), ("MOST_LEFT", 9), ("LONGEST_NAME", 8)], [("LETTERS", [97, 98, 99, 100, 101, 102, 103, 104, 105, 106, 107, 108, 109, 110, 111, 112, 113, 114, 115, 116, 117, 118, 119, 120, 121, 122]), ("DIGITS", [48, 49, 50, 51, 52, 53, 54, 55, 56, 57])], [.int, .bool, .str, .tuple, .own 0], [], false, [], ["WrongValue", "WrongName"]⟩
end K53
namespace K53
open PySem PySem.Spec PyProof.Rows G
abbrev RR : PySem.W.OpenRow := PySem.W.OpenLaw.row PySem.Challenge.rw_scorelists_k53_seasons_made
def ob (s : PySem.W.SharedT) : AlP := obsPG 5 pt (HandSHeadRun.getT s)
def loose : List PySem.Str := (["_wall", "WrongValue", "InvalidNumber", "InvalidRows", "InvalidLeft", "WrongName", "UnknownName", "MOST_POINTS", "MOST_KINDS", "MOST_PLAYERS", "MOST_SCORE", "MOST_LEFT", "LETTERS", "DIGITS", "LONGEST_NAME", "is_integer", "is_within", "is_name", "check_points", "is_row", "wrong_row", "check_rows", "check_kind", "is_left", "wrong_left", "Season", "_law_spring", "_law_draw", "_law_great", "_law_number"] : List PySem.Str) ++ (["_law_so_far", "_law_named", "_law_left", "_law_times", "_law_hopes", "_law_season", "_law_shown", "_law_due", "_law_right"] : List PySem.Str)
theorem run (w : World) : HandSHeadRun.RunEq RR (PySem.W.view RR.prog [44]) (hookP 5 pt) ob 8000 loose w := by
  intro os
  kernel_rfl
end K53
set_option autoImplicit false
set_option linter.all false
set_option Elab.async false
set_option maxRecDepth 100000
set_option maxHeartbeats 4000000
namespace G
def n_contains : Nm := 2
def n_str : Nm := 4
mutual
def ptSlots : Pt → List Nat
  | .nm i => [i]
  | .tp ps => ptsSlots ps
def ptsSlots : List Pt → List Nat
  | [] => []
  | p :: ps => ptSlots p ++ ptsSlots ps
end
def zipD (xs ys : List D) : List D := (xs.zip ys).map fun p => .exc 0 [p.1, p.2]
def zipV : D → D → Option (List D)
  | .lst xs, .lst ys => some (zipD xs ys)
  | .tup xs, .tup ys => some (zipD xs ys)
  | .lst xs, .tup ys => some (zipD xs ys)
  | .tup xs, .lst ys => some (zipD xs ys)
  | _, _ => none
def dunV (Γ : Ctx) (c : Nat) (m : Nm) (x : D) (st : Store) : O D := match objv st x with
  | some (b, _) => if b = c then (match (Γ.cls c).bind fun k => k.meths.lookup m with
    | some f => (Γ.call f [x] st).hush.bind fun r st => (match r with
      | .int i => if m = n_len ∧ 0 ≤ i ∧ i ≤ 1000 then .ok (.int i) st else .bad
      | .str s => if m = n_str then .ok (.str s) st else .bad
      | .bl b => if m = n_bool then .ok (.bl b) st else .bad
      | _ => .bad)
    | none => .bad) else .bad
  | none => .bad
def hasV (Γ : Ctx) (c : Nat) (neg : Bool) (x y : D) (st : Store) : O D := match objv st y with
  | some (b, _) => if b = c then (match (Γ.cls c).bind fun k => k.meths.lookup n_contains with
    | some f => (Γ.call f [y, x] st).hush.bind fun r st => (match r with
      | .bl b => .ok (.bl (b != neg)) st
      | _ => .bad)
    | none => .bad) else .bad
  | none => .bad
def neg1 : D → Option D
  | .int i => some (.int (-i))
  | _ => none
def compL2 (f : D → List D → Store → O (List D)) : List D → List D → Store → O (List D)
  | [], acc, st => .ok acc st
  | x :: r, acc, st => match f x acc st with
    | .ok acc' st' => compL2 f r acc' st'
    | _ => .bad
def fmtD : D → Option D
  | .str x => some (.str x)
  | .int i => if i.natAbs < 2 ^ 1900 then some (.str (intStr i)) else none
  | _ => none
def joinedV : List Sem → List Nat → Env → Store → O D
  | [], acc, _, st => .ok (.str acc) st
  | s :: ss, acc, env, st => (s.val env st).bind fun d st => match d with
    | .str y => if acc.length + y.length ≤ LIM then joinedV ss (acc ++ y) env st else .bad
    | _ => .bad
def turn2V (sI1 elt : Sem) (own1 : List Nat) (p1 : Pt) (ifs1 : List Sem) (own : List Nat) (p : Pt) (ifs : List Sem) (env : Env) (x : D) (acc : List D) (st : Store) : O (List D) := match setPt p x (wipe env own) with
  | none => .bad
  | some env => (testsV ifs env st).bind fun t st => if t then (sI1.items env st).bind fun ys st => compL (turnV own1 elt p1 ifs1 env) ys acc st else .ok acc st
def lc2V (sI sI1 elt : Sem) (own1 : List Nat) (p1 : Pt) (ifs1 : List Sem) (own : List Nat) (p : Pt) (ifs : List Sem) : Env → Store → O D := fun env st => (sI.items env st).bind fun items st => (compL2 (turn2V sI1 elt own1 p1 ifs1 own p ifs env) items [] st).bind fun ds st => .ok (.lst ds) st
def lc2E (sI sI1 elt : Sem) (own1 : List Nat) (p1 : Pt) (ifs1 : List Sem) (own : List Nat) (p : Pt) (ifs : List Sem) : Sem := .of (lc2V sI sI1 elt own1 p1 ifs1 own p ifs)
def osubR (i : Nat) (sb : Sem) (d : D) : StS := fun env st => match env[i]? with
  | some (.own xs) => (sb.val env st).run env fun k st => match k with
    | .int k => match ixN xs.length k with
      | some j => .nx (env.set i (.own (xs.set j d))) st
      | none => .bad
    | _ => .bad
  | _ => .bad
def brkS : StS := fun env st => .bk env st
def contS : StS := fun env st => .ct env st
def ret0S : StS := fun _ st => .rt .non st
def asgnS (fs : List (D → StS)) (ss : List Sem) : StS := fun env st => (args ss env st).run env fun ds st => setAll fs ds env st
def cmE (call : Fd) (c : Nat) (es : List Sem) : Sem := .of (many es fun ds st => call (.cls c :: ds) st)
def hasE (Γ : Ctx) (c : Nat) (neg : Bool) (a b : Sem) : Sem := .of (two a b (hasV Γ c neg))
def lenOE (Γ : Ctx) (c : Nat) (a : Sem) : Sem := .of (one a (dunV Γ c n_len))
def splitE (s : Sem) (c : Nat) : Sem := .of (one s fun d st => .of (mt .split st d [.str [c]]) st)
def joinE (x : List Nat) (s : Sem) : Sem := .of (one s fun d st => .of (mt .join st (.str x) [d]) st)
def fmtE (s : Sem) : Sem := .of (one s fun d st => .of (fmtD d) st)
def joinedE (ss : List Sem) : Sem := .of (joinedV ss [])
def negE (s : Sem) : Sem := .of (one s fun x st => .of (neg1 x) st)
def zipE (s t : Sem) : Sem := .walk fun env st => (s.val env st).bind fun x st => (t.val env st).bind fun y st => .of (zipV x y) st
def mkcE (Γ : Ctx) (i c : Nat) (es : List Sem) : Sem := .of fun env st => match env.get i with
  | some (.cls d) => if d = c then many es (mkObj Γ c) env st else .bad
  | _ => .bad
def callKE (c : Fd) (is : List Nat) (es : List Sem) : Sem := .of (many es fun ds st => c (pick .non is ds) st)
def consV (x y : D) (st : Store) : O D := match seqv st y with
  | some ys => if ys.length < LIM then .ok (.lst (x :: ys)) st else .bad
  | none => .bad
def consE (a b : Sem) : Sem := .of (two a b consV)
def strOE (Γ : Ctx) (c : Nat) (a : Sem) : Sem := .of (one a (dunV Γ c n_str))
def boolOE (Γ : Ctx) (c : Nat) (a : Sem) : Sem := .of (one a (dunV Γ c n_bool))
def upC (c : Nat) : Nat := if 97 ≤ c ∧ c ≤ 122 then c - 32 else c
def upD : D → Option D
  | .str x => if x.length ≤ 1000000 ∧ x.all (fun c => decide (c < 128)) = true then some (.str (x.map upC)) else none
  | _ => none
def upE (s : Sem) : Sem := .of (one s fun d st => .of (upD d) st)
def keyOk : D → Bool
  | .str _ => true
  | .int _ => true
  | _ => false
def dct1V (x y : D) (st : Store) : O D := if keyOk x then .ok (.dct [x] [y]) st else .bad
def dct1E (a b : Sem) : Sem := .of (two a b dct1V)
def dct0E : Sem := .of fun _ st => .ok (.dct [] []) st
def lsE (s : Sem) : Sem := .of fun env st => (s.val env st).bind fun d st => match d with
  | .lst xs => .ok (.lst xs) st
  | _ => .bad
def insS (i : Nat) (a b : Sem) : StS := fun env st => match env[i]? with
  | some (.own xs) => (a.val env st).run env fun k st => (b.val env st).run env fun d st => match k with
    | .int k => if 0 ≤ k ∧ k ≤ xs.length ∧ xs.length < LIM then .nx (env.set i (.own (xs.take k.toNat ++ d :: xs.drop k.toNat))) st else .bad
    | _ => .bad
  | _ => .bad
def dInt : Option D → Option Int
  | some (.int i) => some i
  | _ => none
def dStr : Option D → Option (List Nat)
  | some (.str i) => some i
  | _ => none
def sortK (f : D → Option D) (xs : List D) : Option (List D) :=
  if xs.all (fun x => (dInt (f x)).isSome) = true then some (xs.mergeSort fun a b => decide ((dInt (f a)).getD 0 ≤ (dInt (f b)).getD 0))
  else if xs.all (fun x => (dStr (f x)).isSome) = true then some (xs.mergeSort fun a b => decide ((dStr (f a)).getD [] ≤ (dStr (f b)).getD []))
  else none
def sortKE (kx : KX) (s : Sem) : Sem := .of fun env st => (s.val env st).bind fun d st => .of (((listv st d).bind fun xs => sortK (fun x => kx.val env x) xs).map .lst) st
def isLs : D → Bool
  | .lst _ => true
  | _ => false
def idxV (f : Mt) (s t : Sem) : Env → Store → O D := fun env st => (s.val env st).bind fun x st => if isLs x then (t.val env st).bind fun y st => .of (mt f st x [y]) st else .bad
def indexE (s t : Sem) : Sem := .of (idxV .index s t)
def countE (s t : Sem) : Sem := .of (idxV .count s t)
def lrngE (es : List Sem) : Sem := .of fun env st => (args es env st).bind fun ds st => (rngI ds st).bind fun xs st => .ok (.lst xs) st
def eqOV (Γ : Ctx) (c : Nat) (neg : Bool) (x y : D) (st : Store) : O D := match objv st x with
  | some (b, _) => if b = c then (match (Γ.cls c).bind fun k => k.meths.lookup n_eq with
    | some f => if isiV Γ st y (.own c) = some false ∨ (objv st y).map (·.1) = some c then (Γ.call f [x, y] st).hush.bind fun r st => (match r with
        | .bl b => .ok (.bl (b != neg)) st
        | _ => .bad) else .bad
    | none => .bad) else .bad
  | none => .bad
def eqOE (Γ : Ctx) (c : Nat) (neg : Bool) (s t : Sem) : Sem := .of (two s t (eqOV Γ c neg))
end G
namespace G
end G
namespace G
end G
namespace G
end G
namespace G
end G
namespace G
end G
namespace G
end G
namespace G
end G
namespace G
end G
namespace G
end G
namespace G
end G
namespace G
open PySem PySem.Spec PyProof.Rows
open L2 (V Hp HO upd SqL SqT Rd)
theorem Ext.newS {H : Hp} {ρ : List Addr} {p : Addr} {o : HO} (hp : H p = none) : Ext H ρ (upd H p o) (ρ ++ [p]) :=
  ⟨fun a u h n => ⟨by rw [L2.upd_ne (L2.ne_of_none h hp)]; exact h, by
    intro hm
    rcases List.mem_append.mp hm with hm | hm
    · exact n hm
    · rw [List.mem_singleton.mp hm, hp] at h; cases h⟩, ⟨[p], rfl⟩, fun a ob u h => by rw [L2.upd_ne (L2.ne_of_none h hp)]; exact h⟩
section
variable {T : Tb} {H H' : Hp} {ρ ρ' Ow Ow' : List Addr}
theorem RVs.append : ∀ {ds es : List D} {vs us : List V}, RVs T H ρ Ow vs ds → RVs T H ρ Ow us es → RVs T H ρ Ow (vs ++ us) (ds ++ es)
  | _, _, _, _, .nil, s => s
  | _, _, _, _, .cons r rs, s => .cons r (RVs.append rs s)
end
section
variable {T : Tb} {H H' H1 H2 : Hp} {ρ ρ' ρ1 ρ2 Ow Ow' Ow1 Ow2 : List Addr}
end
section
variable {T : Tb} {H H' : Hp} {ρ ρ' Ow Ow' : List Addr} {dx : Option Addr} {fl : List Nm} {fs : List D} {z : Option (Addr × Option Addr × Nat × List Nm)}
end
end G
namespace G
open PySem PySem.Spec PyProof.Rows
open L2 (V Hp HO upd SqL SqT Rd VK TE TT TA TI WX XK Cx PE PT PA PI)
section
variable {T : Tb} {H H' : Hp} {ρ ρ' Ow Ow' : List Addr}
theorem TabG.notList {P : Addr} {q : PySem.Str} (t : TabG H ρ P q) {vs : List V} : H P ≠ some (.lst vs) := by
  obtain ⟨ps, h1, _⟩ := t
  rw [h1]; exact fun z => by cases z
theorem StR.newOw {st : Store} {p : Addr} {vs : List V} (hp : H p = none) (r : StR T H ρ Ow st) : StR T (upd H p (.lst vs)) ρ (p :: Ow) st := by
  refine ⟨r.len, r.nd, fun a ha hm => ?_, fun a hm => ?_, fun l a ob h1 h2 => ?_, (r.new hp).tab⟩
  · rcases List.mem_cons.mp hm with e | hm
    · obtain ⟨o, q⟩ := r.mem ha
      rw [e, hp] at q; cases q
    · exact r.apart a ha hm
  · rcases List.mem_cons.mp hm with e | hm
    · exact ⟨vs, by rw [e, L2.upd_same]⟩
    · exact (r.new hp).lists a hm
  · have q := r.at_ l a ob h1 h2
    exact (q.new hp).ext (Ext.new hp) (L2.upd_ne fun e => q.there (by rw [e]; exact hp))
end
section
variable {w : Wo} {H H1 : Hp} {ρ ρ1 Ow : List Addr} {α β : Type}
theorem Post.eqn {Q : α → Store → Hp → List Addr → Prop} {o : O α} (h : Post w H ρ Ow Q o) : Post w H ρ Ow (fun a st H' ρ' => o = .ok a st ∧ Q a st H' ρ') o := by
  cases o with
  | ok a st => exact fun H' ρ' e s => ⟨rfl, h H' ρ' e s⟩
  | ex c fs st => exact h
  | bad => exact h
end
def tArg (T : Tb) (xf : Nat → List Nm) (W : WX) (f : Env → Store → O (List D)) : TA := fun σ H Q => At T xf W f (fun ds ρ Ow H' => ∀ vs, RVs T H' ρ Ow vs ds → Q vs H') σ H
theorem Ext.per {H H' : Hp} {ρ ρ' : List Addr} (e : Ext H ρ H' ρ') (str : Bool) (Ow : List Addr) : Per str H ρ Ow H' ρ' Ow := by
  cases str with
  | true => exact e.keeps Ow
  | false => exact ⟨e, fun _ _ h => h⟩
end G
namespace G
open PySem PySem.Spec PyProof.Rows
open L2 (V Hp HO upd SqL SqT Rd VK TE TT TA TI WX XK Cx PE PT PA PI Inv OpR CallR RelV Vals)
section
variable {X : Cx} {T : Tb} {xf : Nat → List Nm} {W : WX} {N : List PySem.Str} {sc : Scope} {n : Nat}
theorem je_v {i : Nat} {x : PySem.Str} {pos : Pos} (C : CxG X T N sc n) (h1 : N[i]? = some x) (h2 : L2.Vis sc x) (h3 : (x == ("__debug__" : PySem.Str)) = false) (h4 : (x == ("__classdict__" : PySem.Str)) = false) :
    JE X T xf W (.Name x pos) (Sem.of fun env st => .of (env.get i) st) true := by
  refine .of C (PE.imp (L2.pe_var (i := i) (by rw [C.eN]; exact h1) (by rw [C.eS]; exact h2) h3 h4) fun σ H Q q => ?_)
  obtain ⟨env, st, ρ, Ow, en, sr, p⟩ := q
  obtain ⟨d, e, q⟩ := Post.of sr p
  obtain ⟨v, hv, r⟩ := en.get e
  exact ⟨v, hv, q v r⟩
theorem je_pk {i : Nat} {x : PySem.Str} {pos : Pos} (C : CxG X T N sc n) (h1 : N[i]? = some x) (h2 : L2.Vis sc x) (h3 : (x == ("__debug__" : PySem.Str)) = false) (h4 : (x == ("__classdict__" : PySem.Str)) = false) :
    JE X T xf W (.Name x pos) (Sem.of fun env st => .of (env.pk i) st) false := by
  refine .of C (PE.imp (L2.pe_var (i := i) (by rw [C.eN]; exact h1) (by rw [C.eS]; exact h2) h3 h4) fun σ H Q q => ?_)
  obtain ⟨env, st, ρ, Ow, en, sr, p⟩ := q
  obtain ⟨d, e, q⟩ := Post.of sr p
  obtain ⟨v, hv, r⟩ := en.pk sr e
  exact ⟨v, hv, q v r⟩
def conD : Const → Option D
  | .none => some .non
  | .bool b => some (.bl b)
  | .int i => some (.int i)
  | .str s => if s.cps.toList.length ≤ LIM ∧ s.cps.toList.all okCode = true then some (.str s.cps.toList) else none
  | _ => none
theorem je_k {c : Const} {d : D} {j : Nat} {pos : Pos} (C : CxG X T N sc n) (h : conD c = some d) : JE X T xf W (.Constant c j pos) (Sem.of fun _ st => .ok d st) true := by
  have key : ∀ {v : V} {p : Pos}, PE X (.Constant c j p) (L2.tC v) → (∀ H ρ Ow, RV T H ρ Ow v d) → PE X (.Constant c j p) (tVal T xf W true fun _ st => .ok d st) := fun hp r => PE.imp hp fun σ H Q q => by
    obtain ⟨env, st, ρ, Ow, en, sr, p⟩ := q
    exact Post.ok sr p _ (r _ _ _)
  cases c with
  | none => cases h; exact .of C (key L2.pe_non fun _ _ _ => .non)
  | bool b => cases h; exact .of C (key L2.pe_bl fun _ _ _ => .bl b)
  | int i => cases h; exact .of C (key L2.pe_int fun _ _ _ => .int i)
  | str s =>
    have h' : (if s.cps.toList.length ≤ LIM ∧ s.cps.toList.all okCode = true then some (D.str s.cps.toList) else none) = some d := h
    split at h'
    · rename_i hl
      cases h'
      refine .of C (key L2.pe_str fun H ρ Ow => ?_)
      have := RV.str (T := T) (H := H) (ρ := ρ) (Ow := Ow) s.cps.toList hl.1 hl.2
      simpa using this
    · cases h'
  | _ => cases h
end
end G
namespace G
open PySem PySem.Spec PyProof.Rows
open L2 (V Hp HO upd SqL SqT Rd VK TE TT TA TI WX XK Cx PE PT PA PI Inv OpR CallR RelV Vals R2)
section
variable {X : Cx} {pins : List (Addr × PySem.Obj)} {σ : L2.St} {H : Hp}
def newT (xs : List V) (H : Hp) (Q : VK) : Prop := ∀ (p : Addr) (o : PySem.Obj), H p = none → o.dict = none → Q (.ref p) (upd H p (.frz o (.tup xs)))
theorem laidT {s : Shared} {Q : VK} {xs : List V} {its : List Value} (I : Inv X pins σ H s) (tk : Tok) (hz : xs.length ≤ sizeLine) (r : Vals xs its) (q : newT xs H Q) :
    L2.EP X pins σ Q (.ref s.heap.objs.size) { s with heap := s.heap.push { cls := .type "tuple", data := .seq its.toArray }, toks := tk } := by
  have hg : (s.heap.push { cls := .type "tuple", data := .seq its.toArray }).get? s.heap.objs.size = some { cls := .type "tuple", data := .seq its.toArray } := Heap.get?_push_size s.heap rfl
  have ok : L2.ObjOk X.prog X.w (upd H s.heap.objs.size (.frz { cls := .type "tuple", data := .seq its.toArray } (.tup xs))) (s.heap.push { cls := .type "tuple", data := .seq its.toArray }) s.heap.objs.size (.frz { cls := .type "tuple", data := .seq its.toArray } (.tup xs)) :=
    ⟨hg, hz, its, r, ⟨_, hg, rfl, _, rfl⟩⟩
  exact ⟨.ref s.heap.objs.size, _, I.laid (t' := tk) (fun b u h => Heap.get?_push_of_some _ h) (Nat.le_refl _) ok, rfl, q _ _ (I.hok.fresh (Nat.le_refl _)) rfl⟩
end
section
variable {X : Cx}
def tTupF (t : TA) : TE := fun σ H Q => t σ H fun xs H1 => xs.length ≤ sizeLine ∧ newT xs H1 Q
theorem pe_tupF {es : List Expr} {k : Nat} {pos : Pos} {t : TA} (h : PA X es t) : PE X (.Tuple es k pos) (tTupF t) :=
  ⟨fun pins s σ H Q I hq => wpAny_Tuple_spliced (L2.thn (h.run pos pins s σ H _ I hq) fun _ s1 ⟨_, _, I1, r, z, q⟩ => ⟨by rw [← r.length]; exact z, laidT I1 s1.toks z r q⟩)⟩
theorem call_tupleF : CallR X (.type "tuple") (fun xs H Q => ∃ p ys, xs = [.ref p] ∧ ((SqL X.K H p ys ∧ newT ys H Q) ∨ (SqT X.K H p ys ∧ Q (.ref p) H))) := by
  rintro pins s σ H xs us Q I r ⟨p, ys, rfl, h⟩
  match us, r with
  | [u], .cons ru .nil =>
    obtain rfl : u = .ref p := ru
    rcases h with ⟨hq, q⟩ | ⟨hq, q⟩
    · obtain ⟨its, rv, pl, hz⟩ := I.list hq
      have e1 := rv.length
      refine call_tuple_list pl.isList (fun h' kp => ?_) (by rw [List.size_toArray, ← e1]; exact hz)
      exact laidT (s := { s with heap := h' }) (I.kept (t' := s.toks) kp) s.toks hz rv q
    · obtain ⟨its, rv, pl, hz⟩ := I.tuple hq
      exact call_tuple_same pl ⟨.ref p, H, I, rfl, q⟩
theorem call_divmodF : CallR X (.builtin "divmod") (fun xs H Q => ∃ i j, xs = [.int i, .int j] ∧ L2.CDivP i j ∧ newT [.int (i / j), .int (i % j)] H Q) := by
  rintro pins s σ H xs us Q I r ⟨i, j, rfl, ⟨hj, hw⟩, q⟩
  match us, r with
  | [u1, u2], .cons ⟨t1, h1⟩ (.cons ⟨t2, h2⟩ .nil) =>
    subst h1 h2
    refine divmod_int (by omega) ?_ (.inl hw)
    rw [Int.fdiv_eq_ediv_of_nonneg i (Int.le_of_lt hj), Int.fmod_eq_emod_of_nonneg i (Int.le_of_lt hj)]
    exact laidT (xs := [.int (i / j), .int (i % j)]) (its := [.int (i / j) s.toks, .int (i % j) (s.toks + 1)]) I _ (show 2 ≤ sizeLine by rw [sizeLine_eq]; decide) (.cons ⟨_, rfl⟩ (.cons ⟨_, rfl⟩ .nil)) q
def rCatP (K : PySem.W.Frag) : R2 := fun x y H Q => ∃ a b xs ys, x = .ref a ∧ y = .ref b ∧ SqT K H a xs ∧ SqT K H b ys ∧ xs.length + ys.length ≤ sizeLine ∧
  (xs = [] → Q (.ref b) H) ∧ (ys = [] → Q (.ref a) H) ∧ newT (xs ++ ys) H Q
theorem op_catF : OpR X (binaryOp .Add) (rCatP X.K) := by
  rintro pins s σ H x y v u Q I rx ry ⟨a, b, xs, ys, rfl, rfl, ha, hb, hz, q0, q1, q2⟩
  obtain rfl : v = .ref a := rx
  obtain rfl : u = .ref b := ry
  obtain ⟨i1, r1, p1, _⟩ := I.tuple ha
  obtain ⟨i2, r2, p2, _⟩ := I.tuple hb
  by_cases hx : xs = []
  · subst hx
    cases r1
    exact L2.cat_tup0 p1 p2 ⟨.ref b, H, I, rfl, q0 rfl⟩
  · refine HT.cat_tup p1 p2 (fun z => hx (r1.nil_iff.mp z)) (fun z => ⟨.ref a, H, I, rfl, q1 (r2.nil_iff.mp z)⟩) (fun _ => ?_) ?_
    · exact laidT I s.toks (by rw [List.length_append]; exact hz) (r1.append r2) q2
    · rw [← r1.length, ← r2.length]; exact hz
def rSlF (K : PySem.W.Frag) : V → Option Int → Option Int → Hp → VK → Prop := fun x lo hi H Q => ∃ a xs, x = .ref a ∧ SqT K H a xs ∧
  (HT.sIx xs.length 0 lo = 0 ∧ HT.sIx xs.length xs.length hi = xs.length → Q (.ref a) H) ∧ newT (L2.cutV xs lo hi) H Q
theorem sl_tupF : L2.SlR X (rSlF X.K) := by
  rintro pins s σ H x v vl vu lo hi sl Q I rx hs pl pu ⟨a, xs, rfl, hx, q1, q2⟩
  by_cases hw : HT.sIx xs.length 0 lo = 0 ∧ HT.sIx xs.length xs.length hi = xs.length
  · exact L2.sl_tupA pins s σ H _ v vl vu lo hi sl Q I rx hs pl pu ⟨a, xs, rfl, hx, q1, fun n => absurd hw n⟩
  · obtain rfl : v = .ref a := rx
    obtain ⟨its, rv, ht, hz⟩ := I.tuple hx
    have e1 : its.toArray.size = xs.length := by rw [List.size_toArray]; exact rv.length.symm
    refine ⟨"tuple", _, PyProof.Rows.slot_tuple_getitem.lookup, ht.typeIs, HT.getItem_tuple_cut ht hs pl pu (by rw [e1]; exact hw) ?_ (by rw [e1]; exact hz)⟩
    rw [e1]
    exact laidT I s.toks (Nat.le_trans (L2.cutV_length xs lo hi) hz) ((rv.drop _).take _) q2
end
end G
namespace G
open PySem PySem.Spec PyProof.Rows
open L2 (V Hp HO upd SqL SqT Rd VK TE TT TA TI WX XK Cx PE PT PA PI Inv OpR CallR RelV Vals R2)
section
variable {T : Tb} {H H' : Hp} {ρ ρ' Ow Ow' : List Addr} {st : Store}
theorem RVs.rep {vs : List V} {ds : List D} (r : RVs T H ρ Ow vs ds) : ∀ n : Nat, RVs T H ρ Ow (List.replicate n vs).flatten (List.replicate n ds).flatten
  | 0 => .nil
  | n + 1 => by
    rw [List.replicate_succ, List.replicate_succ, List.flatten_cons, List.flatten_cons]
    exact r.append (RVs.rep r n)
theorem rv_lst {p : Addr} {vs : List V} {ds : List D} (hp : H p = none) (hr : p ∉ ρ) (ho : p ∉ Ow) (z : vs.length ≤ LIM) (r : RVs T H ρ Ow vs ds) : RV T (upd H p (.lst vs)) ρ Ow (.ref p) (.lst ds) :=
  .lst L2.upd_same hr ho z (r.ext (Ext.new hp))
theorem rv_tup {p : Addr} {o : PySem.Obj} {vs : List V} {ds : List D} (hp : H p = none) (ho : o.dict = none) (hr : p ∉ ρ) (z : vs.length ≤ LIM) (r : RVs T H ρ Ow vs ds) : RV T (upd H p (.frz o (.tup vs))) ρ Ow (.ref p) (.tup ds) :=
  .tup (.inl ⟨⟨o, L2.upd_same, ho⟩, hr⟩) z (r.ext (Ext.new hp))
theorem rv_raw {p : Addr} {vs : List V} {ds : List D} (hp : H p = none) (hr : p ∉ ρ) (z : vs.length ≤ LIM) (r : RVs T H ρ Ow vs ds) : RV T (upd H p (.tup vs)) ρ Ow (.ref p) (.exc 0 ds) :=
  .raw (.inl L2.upd_same) hr z (r.ext (Ext.new hp))
end
def rSem (T : Tb) (f : Store → D → D → Option D) : R2 := fun x y H Q => ∃ st ρ Ow dx dy dz, StR T H ρ Ow st ∧ RW T H ρ Ow x dx ∧ RW T H ρ Ow y dy ∧ f st dx dy = some dz ∧ ∀ v H', New1 H H' → RV T H' ρ Ow v dz → Q v H'
section
variable {X : Cx} {T : Tb}
theorem okMul_w {i j : Int} (h : okMul i j = true) : L2.CMulX i j := by
  unfold okMul BIG at h
  rw [Bool.and_eq_true, decide_eq_true_eq, decide_eq_true_eq] at h
  exact L2.mulx_ok (a := 4000) (b := 4000) h.1 h.2 (by clear h; decide)
theorem okDiv_w {i j : Int} (h : okDiv j = true) : L2.CDivW i j := by
  unfold okDiv DIV at h
  rw [Bool.and_eq_true, decide_eq_true_eq, decide_eq_true_eq] at h
  obtain ⟨h1, h2⟩ := h
  refine L2.wide_div (i := i) (b := 4000) h1 h2 ?_ ?_
  · exact Nat.succ_pos _
  · exact Nat.le_of_ble_eq_true (Eq.refl true)
theorem or_add (hK : X.K = T.K) : OpR X (binaryOp .Add) (rSem T (op2 .add)) := by
  intro pins s σ H x y v u Q I rx ry h
  obtain ⟨st, ρ, Ow, dx, dy, dz, sr, wx, wy, e, k⟩ := h
  have ux := wx.view sr
  have uy := wy.view sr
  simp only [op2] at e
  generalize G.view st dx = ex at ux e
  generalize G.view st dy = ey at uy e
  split at e
  · cases e
    have e1 := ux.int
    have e2 := uy.int
    subst e1 e2
    exact L2.op_add pins s σ H _ _ v u Q I rx ry ⟨_, _, rfl, rfl, k _ _ (.inl rfl) (.int _)⟩
  · split at e
    · rename_i hl
      cases e
      obtain ⟨e1, z1, c1⟩ := ux.str
      obtain ⟨e2, z2, c2⟩ := uy.str
      subst e1 e2
      refine L2.op_add_str pins s σ H _ _ v u Q I rx ry ⟨_, _, rfl, rfl, by rw [← lim_line]; simpa [Str.length] using hl, k _ _ (.inl rfl) ?_⟩
      have r : RV T H ρ Ow (.str ⟨(_ ++ _ : List Nat).toArray⟩) _ := .str _ (by rw [List.length_append]; exact hl) (by rw [List.all_append, c1, c2]; rfl)
      rw [← List.append_toArray] at r
      exact r
    · cases e
  · split at e
    · rename_i hl
      cases e
      obtain ⟨a, vs, rfl, q1, z1, r1⟩ := ux.tup
      obtain ⟨b, us, rfl, q2, z2, r2⟩ := uy.tup
      have hz : vs.length + us.length ≤ LIM := by rw [r1.length, r2.length]; exact hl
      refine op_catF pins s σ H _ _ v u Q I rx ry ⟨a, b, vs, us, rfl, rfl, by rw [hK]; exact q1.sq, by rw [hK]; exact q2.sq, by rw [← lim_line]; exact hz, fun h0 => ?_, fun h0 => ?_, fun p o hp ho => ?_⟩
      · subst h0
        cases r1
        exact k _ _ (.inl rfl) (.tup q2 z2 r2)
      · subst h0
        cases r2
        refine k _ _ (.inl rfl) ?_
        rw [List.append_nil]
        exact .tup q1 z1 r1
      · exact k _ _ (.inr ⟨p, _, hp, rfl⟩) (rv_tup hp ho (sr.fresh hp).1 (by rw [List.length_append]; exact hz) (r1.append r2))
    · cases e
  · split at e
    · rename_i hl
      cases e
      obtain ⟨a, vs, rfl, q1, z1, r1⟩ := ux.lst
      obtain ⟨b, us, rfl, q2, z2, r2⟩ := uy.lst
      have hz : vs.length + us.length ≤ LIM := by rw [r1.length, r2.length]; exact hl
      refine L2.op_cat pins s σ H _ _ v u Q I rx ry ⟨a, b, vs, us, rfl, rfl, q1, q2, by rw [← lim_line]; exact hz, fun p hp => ?_⟩
      exact k _ _ (.inr ⟨p, _, hp, rfl⟩) (rv_lst hp (sr.fresh hp).1 (sr.fresh hp).2 (by rw [List.length_append]; exact hz) (r1.append r2))
    · cases e
  · cases e
theorem ints2 {f : Int → Int → Option D} {dx dy dz : D} (e : (match dx, dy with
    | .int i, .int j => f i j
    | _, _ => none) = some dz) : ∃ i j, dx = .int i ∧ dy = .int j ∧ f i j = some dz := by
  split at e
  · exact ⟨_, _, rfl, rfl, e⟩
  · cases e
theorem or_sub : OpR X (binaryOp .Sub) (rSem T (op2 .sub)) := by
  intro pins s σ H x y v u Q I rx ry ⟨st, ρ, Ow, dx, dy, dz, sr, wx, wy, e, k⟩
  obtain ⟨i, j, rfl, rfl, e⟩ := ints2 e
  cases e
  have e1 := wx.int
  have e2 := wy.int
  subst e1 e2
  exact L2.op_sub pins s σ H _ _ v u Q I rx ry ⟨_, _, rfl, rfl, k _ _ (.inl rfl) (.int _)⟩
theorem or_mul (hK : X.K = T.K) : OpR X (binaryOp .Mult) (rSem T (op2 .mul)) := by
  intro pins s σ H x y v u Q I rx ry ⟨st, ρ, Ow, dx, dy, dz, sr, wx, wy, e, k⟩
  have ux := wx.view sr
  simp only [op2] at e
  generalize G.view st dx = ex at ux e
  split at e
  · split at e
    · rename_i hl
      cases e
      have e1 := ux.int
      have e2 := wy.int
      subst e1 e2
      exact L2.op_mulX pins s σ H _ _ v u Q I rx ry ⟨_, _, rfl, rfl, okMul_w hl, k _ _ (.inl rfl) (.int _)⟩
    · cases e
  · split at e
    · rename_i a j hl
      cases e
      obtain ⟨b, vs, rfl, q1, z1, r1⟩ := ux.lst
      have e2 := wy.int
      subst e2
      have hz : vs.length * j.toNat ≤ LIM := by rw [r1.length]; exact hl.2.2
      refine L2.op_rep pins s σ H _ _ v u Q I rx ry ⟨b, j, vs, rfl, rfl, q1, by omega, by omega, by rw [← lim_line]; exact hz, fun p hp => ?_⟩
      refine k _ _ (.inr ⟨p, _, hp, rfl⟩) (rv_lst hp (sr.fresh hp).1 (sr.fresh hp).2 ?_ (r1.rep _))
      rw [PyProof.Rows.lm_len_rep_flat, Nat.mul_comm]
      exact hz
    · cases e
  · cases e
theorem or_fdiv : OpR X (binaryOp .FloorDiv) (rSem T (op2 .fdiv)) := by
  intro pins s σ H x y v u Q I rx ry ⟨st, ρ, Ow, dx, dy, dz, sr, wx, wy, e, k⟩
  obtain ⟨i, j, rfl, rfl, e'⟩ := ints2 e
  clear e
  have e := e'
  clear e'
  split at e
  · rename_i hl
    cases e
    have e1 := wx.int
    have e2 := wy.int
    subst e1 e2
    exact L2.op_fdivW pins s σ H _ _ v u Q I rx ry ⟨_, _, rfl, rfl, okDiv_w hl, k _ _ (.inl rfl) (.int _)⟩
  · cases e
theorem or_mod : OpR X (binaryOp .Mod) (rSem T (op2 .mod)) := by
  intro pins s σ H x y v u Q I rx ry ⟨st, ρ, Ow, dx, dy, dz, sr, wx, wy, e, k⟩
  obtain ⟨i, j, rfl, rfl, e'⟩ := ints2 e
  clear e
  have e := e'
  clear e'
  split at e
  · rename_i hl
    cases e
    have e1 := wx.int
    have e2 := wy.int
    subst e1 e2
    exact L2.op_mod pins s σ H _ _ v u Q I rx ry ⟨_, _, rfl, rfl, (okDiv_w (i := i) hl).1, k _ _ (.inl rfl) (.int _)⟩
  · cases e
theorem or_pow : OpR X (binaryOp .Pow) (rSem T (op2 .pow)) := by
  intro pins s σ H x y v u Q I rx ry ⟨st, ρ, Ow, dx, dy, dz, sr, wx, wy, e, k⟩
  obtain ⟨i, j, rfl, rfl, e'⟩ := ints2 e
  clear e
  have e := e'
  clear e'
  split at e
  · rename_i hl
    cases e
    have e1 := wx.int
    have e2 := wy.int
    subst e1 e2
    exact L2.op_pow pins s σ H _ _ v u Q I rx ry ⟨_, _, rfl, rfl, ⟨hl.1, by omega, by have := hl.2.2; omega⟩, k _ _ (.inl rfl) (.int _)⟩
  · cases e
theorem or_lt : OpR X (compareOp .Lt) (rSem T (op2 .lt)) := by
  intro pins s σ H x y v u Q I rx ry ⟨st, ρ, Ow, dx, dy, dz, sr, wx, wy, e, k⟩
  obtain ⟨i, j, rfl, rfl, e⟩ := ints2 e
  cases e
  have e1 := wx.int
  have e2 := wy.int
  subst e1 e2
  exact L2.op_lt pins s σ H _ _ v u Q I rx ry ⟨_, _, rfl, rfl, k _ _ (.inl rfl) (.bl _)⟩
theorem or_le : OpR X (compareOp .LtE) (rSem T (op2 .le)) := by
  intro pins s σ H x y v u Q I rx ry ⟨st, ρ, Ow, dx, dy, dz, sr, wx, wy, e, k⟩
  obtain ⟨i, j, rfl, rfl, e⟩ := ints2 e
  cases e
  have e1 := wx.int
  have e2 := wy.int
  subst e1 e2
  exact L2.op_le pins s σ H _ _ v u Q I rx ry ⟨_, _, rfl, rfl, k _ _ (.inl rfl) (.bl _)⟩
theorem or_gt : OpR X (compareOp .Gt) (rSem T (op2 .gt)) := by
  intro pins s σ H x y v u Q I rx ry ⟨st, ρ, Ow, dx, dy, dz, sr, wx, wy, e, k⟩
  obtain ⟨i, j, rfl, rfl, e⟩ := ints2 e
  cases e
  have e1 := wx.int
  have e2 := wy.int
  subst e1 e2
  exact L2.op_gt pins s σ H _ _ v u Q I rx ry ⟨_, _, rfl, rfl, k _ _ (.inl rfl) (.bl _)⟩
theorem or_ge : OpR X (compareOp .GtE) (rSem T (op2 .ge)) := by
  intro pins s σ H x y v u Q I rx ry ⟨st, ρ, Ow, dx, dy, dz, sr, wx, wy, e, k⟩
  obtain ⟨i, j, rfl, rfl, e⟩ := ints2 e
  cases e
  have e1 := wx.int
  have e2 := wy.int
  subst e1 e2
  exact L2.op_ge pins s σ H _ _ v u Q I rx ry ⟨_, _, rfl, rfl, k _ _ (.inl rfl) (.bl _)⟩
theorem op_isB {X : Cx} : OpR X (compareOp .Is) (fun x y H Q => ∃ a b, x = .bl a ∧ y = .bl b ∧ Q (.bl (a == b)) H) := by
  intro pins s σ H x y v u Q I rx ry h
  obtain ⟨a, b, rfl, rfl, q⟩ := h
  cases rx
  cases ry
  show wpAny _ _ (do let r ← isSame (.bool a) (.bool b); pure (Value.bool r)) _ _ _
  rw [isSame_plain rfl]
  refine wpAny_pure (L2.fin_bl I q ?_)
  cases a <;> cases b <;> rfl
theorem op_notB {X : Cx} : OpR X (compareOp .IsNot) (fun x y H Q => ∃ a b, x = .bl a ∧ y = .bl b ∧ Q (.bl (a != b)) H) := by
  intro pins s σ H x y v u Q I rx ry h
  obtain ⟨a, b, rfl, rfl, q⟩ := h
  cases rx
  cases ry
  show wpAny _ _ (do let r ← isSame (.bool a) (.bool b); pure (Value.bool !r)) _ _ _
  rw [isSame_plain rfl]
  refine wpAny_pure (L2.fin_bl I q ?_)
  cases a <;> cases b <;> rfl
theorem or_is : OpR X (compareOp .Is) (rSem T (op2 .is)) := by
  intro pins s σ H x y v u Q I rx ry ⟨st, ρ, Ow, dx, dy, dz, sr, wx, wy, e, k⟩
  simp only [op2] at e
  split at e
  · cases e
    have e1 := wx.u.non
    have e2 := wy.u.non
    subst e1 e2
    exact L2.op_isN pins s σ H _ _ v u Q I rx ry ⟨rfl, k _ _ (.inl rfl) (.bl _)⟩
  · cases e
    have e1 := wx.u.bl
    have e2 := wy.u.bl
    subst e1 e2
    exact op_isB pins s σ H _ _ v u Q I rx ry ⟨_, _, rfl, rfl, k _ _ (.inl rfl) (.bl _)⟩
  · rename_i hn
    cases e
    have e2 := wy.u.non
    subst e2
    refine L2.op_isN pins s σ H _ _ v u Q I rx ry ⟨rfl, ?_⟩
    have e3 : decide (x = V.non) = false := decide_eq_false fun h => by
      subst h
      rcases wx with r | ⟨_, _, _, h, _⟩
      · cases r; exact hn rfl
      · cases h
    rw [e3]
    exact k _ _ (.inl rfl) (.bl _)
  · cases e
theorem or_isnot : OpR X (compareOp .IsNot) (rSem T (op2 .isnot)) := by
  intro pins s σ H x y v u Q I rx ry ⟨st, ρ, Ow, dx, dy, dz, sr, wx, wy, e, k⟩
  simp only [op2] at e
  split at e
  · cases e
    have e1 := wx.u.non
    have e2 := wy.u.non
    subst e1 e2
    exact L2.op_notN pins s σ H _ _ v u Q I rx ry ⟨rfl, k _ _ (.inl rfl) (.bl _)⟩
  · cases e
    have e1 := wx.u.bl
    have e2 := wy.u.bl
    subst e1 e2
    exact op_notB pins s σ H _ _ v u Q I rx ry ⟨_, _, rfl, rfl, k _ _ (.inl rfl) (.bl _)⟩
  · rename_i hn
    cases e
    have e2 := wy.u.non
    subst e2
    refine L2.op_notN pins s σ H _ _ v u Q I rx ry ⟨rfl, ?_⟩
    have e3 : decide (x = V.non) = false := decide_eq_false fun h => by
      subst h
      rcases wx with r | ⟨_, _, _, h, _⟩
      · cases r; exact hn rfl
      · cases h
    rw [e3]
    exact k _ _ (.inl rfl) (.bl _)
  · cases e
end
end G
namespace PySem.SeqAt
open AutoSeq1 (wpAny_loadPart')
open MeetsSeq
section
variable {A : Around} {s : Shared}
theorem dict_eq_declines_str (l : Addr) (es : Array DictEntry) (n : Nat) (dd : Option Addr) (sl : Array (Option Value)) (b : Str) (u : Tok) :
    Meets (Builtin.«dict.__eq__» ⟨[.ref l, .str b u], []⟩) (fun _ R s => s.heap.get? l = some { cls := .type "dict", dict := dd, data := .dict es n, slots := sl } ∧ R (.ok (.ret .notImplemented)) s) :=
  .of_wp fun prog w A R s h => by obtain ⟨hp, g, d, tk, os⟩ := s; obtain ⟨hl, h⟩ := h; have f1 := F.sub_str_dict; wp_walk using wpAny_loadPart' hl; exact ⟨_, rfl, h⟩
theorem str_eq_declines_dict (b : Str) (u : Tok) (l : Addr) (es : Array DictEntry) (n : Nat) (dd : Option Addr) (sl : Array (Option Value)) :
    Meets (Builtin.«str.__eq__» ⟨[.str b u, .ref l], []⟩) (fun _ R s => s.heap.get? l = some { cls := .type "dict", dict := dd, data := .dict es n, slots := sl } ∧ R (.ok (.ret .notImplemented)) s) :=
  .of_wp fun prog w A R s h => by obtain ⟨hp, g, d, tk, os⟩ := s; obtain ⟨hl, h⟩ := h; wp_walk using wpAny_loadPart' hl, wpAny_load hl; exact ⟨_, rfl, h⟩
theorem RcAt.str_dict {l : Addr} {es : Array DictEntry} {n : Nat} {dd : Option Addr} {sl : Array (Option Value)} (b : Str) (u : Tok) (ho : s.heap.get? l = some { cls := .type "dict", dict := dd, data := .dict es n, slots := sl }) (hu : A.units < cLine) : RcAt A s (.str b u) (.ref l) false := fun prog w E Q h => by
  exact rc_eq_decline_or (k := false) (typeIs_str s b u) ⟨_, ho, rfl⟩ (by decide) F.sub_dict_str F.slot_str_eq F.slot_dict_eq_refl
    (fun _ hq => call_meets F.slot_str_eq (typeIs_str s b u) F.entry_str_eq (F.args_str_eq_2 _ _) (str_eq_declines_dict b u l es n dd sl) ⟨ho, hq⟩)
    (fun _ hq => call_meets F.slot_dict_eq_refl ⟨_, ho, rfl⟩ F.entry_dict_eq (F.args_dict_eq_2 _ _) (dict_eq_declines_str l es n dd sl b u) ⟨ho, hq⟩)
    (fun _ hq => wpAny_of_eq (rfl : isSame (.str b u) (.ref l) = pure false) hq) (.inr hu) h
theorem dict_eq_declines_tuple (l b : Addr) (es : Array DictEntry) (items2 : Array Value) (n n2 : Nat) (dd dd2 : Option Addr) (sl sl2 : Array (Option Value)) :
    Meets (Builtin.«dict.__eq__» ⟨[.ref l, .ref b], []⟩) (fun _ R s => s.heap.get? l = some { cls := .type "dict", dict := dd, data := .dict es n, slots := sl } ∧ s.heap.get? b = some { cls := .type "tuple", dict := dd2, data := .seq items2 n2, slots := sl2 } ∧ R (.ok (.ret .notImplemented)) s) :=
  .of_wp fun prog w A R s h => by obtain ⟨hp, g, d, tk, os⟩ := s; obtain ⟨hl, hb, h⟩ := h; have f1 := F.sub_tuple_dict; wp_walk using wpAny_loadPart' hl, wpAny_loadPart' hb; exact ⟨_, rfl, h⟩
theorem tuple_eq_declines_dict (l b : Addr) (es : Array DictEntry) (items2 : Array Value) (n n2 : Nat) (dd dd2 : Option Addr) (sl sl2 : Array (Option Value)) :
    Meets (Builtin.«tuple.__eq__» ⟨[.ref b, .ref l], []⟩) (fun _ R s => s.heap.get? l = some { cls := .type "dict", dict := dd, data := .dict es n, slots := sl } ∧ s.heap.get? b = some { cls := .type "tuple", dict := dd2, data := .seq items2 n2, slots := sl2 } ∧ R (.ok (.ret .notImplemented)) s) :=
  .of_wp fun prog w A R s h => by obtain ⟨hp, g, d, tk, os⟩ := s; obtain ⟨hl, hb, h⟩ := h; have f1 := F.sub_dict_tuple; wp_walk using wpAny_loadPart' hl, wpAny_loadPart' hb; exact ⟨_, rfl, h⟩
theorem RcAt.dict_tuple {l b : Addr} {es : Array DictEntry} {items2 : Array Value} {n : Nat} {dd : Option Addr} {sl : Array (Option Value)} (ho : s.heap.get? l = some { cls := .type "dict", dict := dd, data := .dict es n, slots := sl }) (hb : s.heap.IsTuple b items2) (hu : A.units < cLine) : RcAt A s (.ref l) (.ref b) false := fun prog w E Q h => by
  obtain ⟨⟨cls2, dd2, data2, sl2⟩, ho2, hc2, n2, hd2⟩ := id hb
  simp only at hc2 hd2
  subst hc2 hd2
  have hne : l ≠ b := fun e => by
    subst e
    rw [ho] at ho2
    have z := congrArg PySem.Obj.cls (Option.some.inj ho2)
    exact absurd z (by simp)
  exact (rc_eq_decline_or (k := false) ⟨_, ho, rfl⟩ ⟨_, ho2, rfl⟩ (by decide) F.sub_tuple_dict F.slot_dict_eq F.slot_tuple_eq_refl
    (fun _ hq => call_meets F.slot_dict_eq ⟨_, ho, rfl⟩ F.entry_dict_eq (F.args_dict_eq_2 _ _) (dict_eq_declines_tuple l b es items2 n n2 dd dd2 sl sl2) ⟨ho, ho2, hq⟩)
    (fun _ hq => call_meets F.slot_tuple_eq_refl ⟨_, ho2, rfl⟩ F.entry_tuple_eq (F.args_tuple_eq_2 _ _) (tuple_eq_declines_dict l b es items2 n n2 dd dd2 sl sl2) ⟨ho, ho2, hq⟩)
    (fun _ hq => wpAny_isSame_ref_other hne ho ho2 (by simp) hq) (.inr hu) h)
theorem EqAt.str_dict {l : Addr} {es : Array DictEntry} {n : Nat} {dd : Option Addr} {sl : Array (Option Value)} (b : Str) (u : Tok) (ho : s.heap.get? l = some { cls := .type "dict", dict := dd, data := .dict es n, slots := sl }) (hu : A.units < cLine) : EqAt A s (.str b u) (.ref l) false := fun prog w E Q h => by
  unfold eqBool
  refine wpAny_holding ?_
  refine wpAny_ite_split (fun hab => absurd (eq_of_beq hab) nofun) (fun _ => ?_)
  exact wpAny_bind (RcAt.str_dict b u ho hu prog w E _ (wpAny_truthy_bool h))
end
end PySem.SeqAt
namespace G
open PySem PySem.Spec PyProof.Rows
open L2 (V Hp HO upd SqL SqT Rd VK TE TT TA TI WX XK Cx PE PT PA PI Inv OpR CallR RelV Vals R2)
theorem strOk_of {s : List Nat} (c : s.all okCode = true) : PyData.strOk ⟨s.toArray⟩ = true := by
  unfold PyData.strOk
  rw [List.all_toArray]
  exact c
theorem str_beq (x y : List Nat) : ((⟨x.toArray⟩ : PySem.Str) == ⟨y.toArray⟩) = (x == y) := by
  rw [Bool.eq_iff_iff]
  simp
section
variable {T : Tb} {H : Hp} {ρ Ow : List Addr}
mutual
theorem dp_of : ∀ (n : Nat) (d : D) (v : V), okEq n d = true → RV T H ρ Ow v d → L2.Dp T.K H v (toPy d) ∧ (toPy d).canLay0 = true ∧ (toPy d).depth ≤ n
  | n, .non, v, _, r => by cases r; exact ⟨.non, rfl, Nat.zero_le _⟩
  | n, .bl b, v, _, r => by cases r; exact ⟨.bl b, rfl, Nat.zero_le _⟩
  | n, .int i, v, _, r => by cases r; exact ⟨.int i, rfl, Nat.zero_le _⟩
  | n, .str s, v, _, r => by
    cases r with
    | str s h c => exact ⟨.str _, by simp only [toPy, PyData.canLay0]; exact strOk_of c, Nat.zero_le _⟩
  | 0, .tup xs, v, h, r => by simp [okEq] at h
  | n + 1, .tup xs, v, h, r => by
    cases r with
    | tup q z rs =>
      obtain ⟨h1, h2, h3⟩ := dps_of n xs _ (by simpa [okEq] using h) rs
      exact ⟨.tup q.sq h1, by simpa [toPy, PyData.canLay0] using h2, by simp [toPy, PyData.depth]; exact h3⟩
  | 0, .lst xs, v, h, r => by simp [okEq] at h
  | n + 1, .lst xs, v, h, r => by
    cases r with
    | lst q n1 n2 z rs =>
      obtain ⟨h1, h2, h3⟩ := dps_of n xs _ (by simpa [okEq] using h) rs
      exact ⟨.lst (.inl (.inl q)) h1, by simpa [toPy, PyData.canLay0] using h2, by simp [toPy, PyData.depth]; exact h3⟩
  | n, .dct _ _, v, h, r => by simp [okEq] at h
  | n, .loc _, v, h, r => by simp [okEq] at h
  | n, .obj _ _, v, h, r => by simp [okEq] at h
  | n, .exc _ _, v, h, r => by simp [okEq] at h
  | n, .cls _, v, h, r => by simp [okEq] at h
  | n, .fl _, v, h, r => by simp [okEq] at h
theorem dps_of : ∀ (n : Nat) (ds : List D) (vs : List V), okEqs n ds = true → RVs T H ρ Ow vs ds → L2.DpAll T.K H vs (toPys ds) ∧ PyData.canLayAll0 (toPys ds) = true ∧ PyData.depthAll (toPys ds) ≤ n
  | n, [], _, _, r => by cases r; exact ⟨.nil, rfl, Nat.zero_le _⟩
  | n, d :: ds, _, h, r => by
    cases r with
    | cons r rs =>
      have h' : okEq n d = true ∧ okEqs n ds = true := by simpa [okEqs] using h
      obtain ⟨h1, h2, h3⟩ := dp_of n d _ h'.1 r
      obtain ⟨g1, g2, g3⟩ := dps_of n ds _ h'.2 rs
      exact ⟨.cons h1 g1, by simp [toPys, PyData.canLayAll0, h2, g2], by simp [toPys, PyData.depthAll]; omega⟩
end
theorem du_of {n : Nat} {d : D} {v : V} (h : okEq n d = true) (r : RU T H ρ Ow v d) : L2.Dp T.K H v (toPy d) ∧ (toPy d).canLay0 = true ∧ (toPy d).depth ≤ n := by
  rcases r with r | ⟨a, vs, ds, rfl, rfl, h1, z, rs⟩
  · exact dp_of n d v h r
  · cases n with
    | zero => simp [okEq] at h
    | succ n =>
      obtain ⟨g1, g2, g3⟩ := dps_of n ds _ (by simpa [okEq] using h) rs
      exact ⟨.lst (.inl (.inl h1)) g1, by simpa [toPy, PyData.canLay0] using g2, by simp [toPy, PyData.depth]; exact g3⟩
theorem shaped_of {d : PyData} (h1 : d.canLay0 = true) (h2 : d.depth ≤ 64) : SeqAt.shaped d = true := by
  unfold SeqAt.shaped
  rw [h1, decide_eq_true h2]; rfl
mutual
theorem pyEq_eqv : ∀ (n m : Nat) (x y : D), okEq n x = true → okEq m y = true → pyEq x y = PyData.eqv (toPy x) (toPy y)
  | n, m, x, y, hx, hy => by
    cases x with
    | tup xs =>
      cases n with
      | zero => simp [okEq] at hx
      | succ n =>
        cases y with
        | tup ys =>
          cases m with
          | zero => simp [okEq] at hy
          | succ m =>
            have := pyEqs_eqv n m xs ys (by simpa [okEq] using hx) (by simpa [okEq] using hy)
            simpa [pyEq, toPy, PyData.eqv] using this
        | _ => first | (simp [pyEq, toPy, PyData.eqv]; done) | (simp [okEq] at hy)
    | lst xs =>
      cases n with
      | zero => simp [okEq] at hx
      | succ n =>
        cases y with
        | lst ys =>
          cases m with
          | zero => simp [okEq] at hy
          | succ m =>
            have := pyEqs_eqv n m xs ys (by simpa [okEq] using hx) (by simpa [okEq] using hy)
            simpa [pyEq, toPy, PyData.eqv] using this
        | _ => first | (simp [pyEq, toPy, PyData.eqv]; done) | (simp [okEq] at hy)
    | _ => first
      | (simp [okEq] at hx; done)
      | (cases y <;> first | (simp [okEq] at hy; done) | (simp [pyEq, toPy, PyData.eqv, b2i]; done) | (simp [pyEq, toPy, PyData.eqv, b2i, str_beq]; done))
theorem pyEqs_eqv : ∀ (n m : Nat) (xs ys : List D), okEqs n xs = true → okEqs m ys = true → pyEqs xs ys = PyData.eqvAll (toPys xs) (toPys ys)
  | n, m, [], [], _, _ => rfl
  | n, m, [], _ :: _, _, _ => rfl
  | n, m, _ :: _, [], _, _ => rfl
  | n, m, x :: xs, y :: ys, hx, hy => by
    have hx' : okEq n x = true ∧ okEqs n xs = true := by simpa [okEqs] using hx
    have hy' : okEq m y = true ∧ okEqs m ys = true := by simpa [okEqs] using hy
    have h1 := pyEq_eqv n m x y hx'.1 hy'.1
    have h2 := pyEqs_eqv n m xs ys hx'.2 hy'.2
    simp [pyEqs, toPys, PyData.eqvAll, h1, h2]
end
end
section
variable {X : Cx} {T : Tb}
theorem ok2 {a b : Bool} {d e : D} (h : (if (a && b) = true then some d else none) = some e) : a = true ∧ b = true ∧ d = e := by
  split at h
  · rename_i q
    rw [Bool.and_eq_true] at q
    exact ⟨q.1, q.2, Option.some.inj h⟩
  · cases h
theorem dct_at {pins : List (Addr × PySem.Obj)} {σ : L2.St} {H : Hp} {s : Shared} {a : Addr} {kvs : List (L2.Key × V)} (I : Inv X pins σ H s) (q : H a = some (.dK kvs)) :
    ∃ es n, s.heap.get? a = some { cls := .type "dict", dict := none, data := .dict es n, slots := #[] } := by
  obtain ⟨_, _, vs, _, o, es, ep, ho, ⟨c1, c2, c3⟩, hd, _⟩ := L2.dk_of I.hok q
  obtain ⟨oc, od, dt, sl⟩ := o
  simp only at c1 c2 c3 hd
  subst c1 c2 c3 hd
  exact ⟨es, ep, ho⟩
theorem or_eq (hK : X.K = T.K) (hu : X.A.units + 64 < cLine) : OpR X (compareOp .Eq) (rSem T (op2 .eq)) := by
  intro pins s σ H x y v u Q I rx ry ⟨st, ρ, Ow, dx, dy, dz, sr, wx, wy, e, k⟩
  have e : (if (okEq 64 (G.view st dx) && okEq 64 (G.view st dy)) = true then some (D.bl (pyEq (G.view st dx) (G.view st dy))) else (tupNil (G.view st dx) (G.view st dy)).map D.bl) = some dz := e
  split at e
  rotate_left
  · obtain ⟨b, e1, e2⟩ := Option.map_eq_some_iff.mp e
    have u1 := wx.view sr
    have u2 := wy.view sr
    generalize G.view st dx = ex at u1 e1
    generalize G.view st dy = ey at u2 e1
    unfold tupNil at e1
    split at e1
    · rename_i xs
      cases e1
      subst e2
      obtain ⟨a, vs, rfl, q1, z1, r1⟩ := u1.tup
      obtain ⟨a2, vs2, rfl, q2, z2, r2⟩ := u2.tup
      cases r2
      obtain rfl : v = .ref a := rx
      obtain rfl : u = .ref a2 := ry
      obtain ⟨i1, rv1, p1, _⟩ := I.tuple (by rw [hK]; exact q1.sq)
      obtain ⟨i2, rv2, p2, _⟩ := I.tuple (by rw [hK]; exact q2.sq)
      cases rv2
      refine SeqAt.eq_tupleAt (e := fun _ => true) (show s.heap.IsTuple a i1.toArray from p1) (show s.heap.IsTuple a2 ([] : List Value).toArray from p2) (by omega) (fun j _ h2 => absurd h2 (by simp)) ?_
      have : ((List.range (min i1.toArray.size ([] : List Value).toArray.size)).all (fun _ => true) && i1.toArray.size == ([] : List Value).toArray.size) = xs.isEmpty := by
        cases r1 <;> cases rv1 <;> simp
      rw [this]
      exact ⟨.bl _, H, I, rfl, k _ _ (.inl rfl) (.bl _)⟩
    · cases e1
      subst e2
      obtain ⟨ex, _, _⟩ := u1.str
      subst ex
      obtain ⟨t, rfl⟩ := rx
      rcases u2 with u2 | ⟨_, _, _, _, h, _⟩
      rotate_left
      · cases h
      cases u2 with
      | dct qd n1 n2 hk rd =>
        cases ry
        obtain ⟨es, m, ho⟩ := dct_at I qd
        exact SeqAt.RcAt.str_dict _ t ho (by omega) _ _ _ _ ⟨.bl _, H, I, rfl, k _ _ (.inl rfl) (.bl _)⟩
    · cases e1
      subst e2
      obtain ⟨a2, vs2, rfl, q2, z2, r2⟩ := u2.tup
      rcases u1 with u1 | ⟨_, _, _, _, h, _⟩
      rotate_left
      · cases h
      cases u1 with
      | dct qd n1 n2 hk rd =>
        cases rx
        obtain rfl : u = .ref a2 := ry
        obtain ⟨es, m, ho⟩ := dct_at I qd
        obtain ⟨i2, rv2, p2, _⟩ := I.tuple (by rw [hK]; exact q2.sq)
        exact SeqAt.RcAt.dict_tuple ho (show s.heap.IsTuple a2 i2.toArray from p2) (by omega) _ _ _ _ ⟨.bl _, H, I, rfl, k _ _ (.inl rfl) (.bl _)⟩
    · cases e1
      subst e2
      obtain ⟨a2, vs2, rfl, q2, z2, r2⟩ := u2.tup
      obtain ⟨a1, vs1, rfl, q1, z1, r1⟩ := u1.lst
      obtain rfl : v = .ref a1 := rx
      obtain rfl : u = .ref a2 := ry
      obtain ⟨i1, rv1, p1, _⟩ := I.list (.inl (.inl q1))
      obtain ⟨i2, rv2, p2, _⟩ := I.tuple (by rw [hK]; exact q2.sq)
      exact SeqAt.RcAt.list_tuple p1.isList (show s.heap.IsTuple a2 i2.toArray from p2) (by omega) _ _ _ _ ⟨.bl _, H, I, rfl, k _ _ (.inl rfl) (.bl _)⟩
    · cases e1
  rename_i hh
  rw [Bool.and_eq_true] at hh
  obtain ⟨h1, h2⟩ := hh
  cases e
  obtain ⟨p1, l1, z1⟩ := du_of h1 (wx.view sr)
  obtain ⟨p2, l2, z2⟩ := du_of h2 (wy.view sr)
  refine L2.op_eqD hu pins s σ H x y v u Q I rx ry ⟨_, _, by rw [hK]; exact p1, by rw [hK]; exact p2, shaped_of l1 z1, shaped_of l2 z2, ?_⟩
  rw [← pyEq_eqv _ _ _ _ h1 h2]
  exact k _ _ (.inl rfl) (.bl _)
theorem or_ne (hK : X.K = T.K) (hu : X.A.units + 64 < cLine) : OpR X (compareOp .NotEq) (rSem T (op2 .ne)) := by
  intro pins s σ H x y v u Q I rx ry ⟨st, ρ, Ow, dx, dy, dz, sr, wx, wy, e, k⟩
  obtain ⟨h1, h2, rfl⟩ := ok2 (show (if (okEq 64 (G.view st dx) && okEq 64 (G.view st dy)) = true then some (.bl (!pyEq (G.view st dx) (G.view st dy))) else none) = some dz from e)
  obtain ⟨p1, l1, z1⟩ := du_of h1 (wx.view sr)
  obtain ⟨p2, l2, z2⟩ := du_of h2 (wy.view sr)
  refine L2.op_neD hu pins s σ H x y v u Q I rx ry ⟨_, _, by rw [hK]; exact p1, by rw [hK]; exact p2, shaped_of l1 z1, shaped_of l2 z2, ?_⟩
  rw [← pyEq_eqv _ _ _ _ h1 h2]
  exact k _ _ (.inl rfl) (.bl _)
theorem any_toPys {n m : Nat} {x : D} (hx : okEq n x = true) : ∀ ys : List D, okEqs m ys = true → ((toPys ys).any fun z => PyData.eqv z (toPy x)) = ys.any fun z => pyEq z x
  | [], _ => rfl
  | y :: ys, h => by
    have h' : okEq m y = true ∧ okEqs m ys = true := by simpa [okEqs] using h
    simp only [toPys, List.any_cons]
    rw [any_toPys hx ys h'.2, pyEq_eqv _ _ _ _ h'.1 hx]
theorem seq_dp {H : Hp} {ρ Ow : List Addr} {st : Store} {n : Nat} {v : V} {d : D} {ds : List D} (s : StR T H ρ Ow st) (r : RW T H ρ Ow v d) (e : seqv st d = some ds) (h : okEqs n ds = true) :
    (L2.Dp T.K H v (.list (toPys ds)) ∨ L2.Dp T.K H v (.tuple (toPys ds))) ∧ PyData.canLayAll0 (toPys ds) = true ∧ PyData.depthAll (toPys ds) ≤ n := by
  obtain ⟨a, vs, rfl, q, z, rs⟩ := r.seq s e
  obtain ⟨g1, g2, g3⟩ := dps_of n ds vs h rs
  refine ⟨?_, g2, g3⟩
  rcases q with q | q
  · exact .inl (.lst q g1)
  · exact .inr (.tup q g1)
theorem mem_split {st : Store} {dx dy dz : D} {c0 : Bool} (f : Nat → List Nat → D) (g : List D → D)
    (e : (match dx, dy with
      | .str a, .str b => (match a with
        | [c] => some (f c b)
        | _ => none)
      | .dct _ _, y => (match seqv st y with
        | some ys => if ys.all isStr then some (.bl c0) else none
        | none => none)
      | _, _ => match seqv st dy with
        | some ys => if (okEq 64 (G.view st dx) && okEqs 64 ys) = true then some (g ys) else none
        | none => none) = some dz) (n0 : ∀ ks vs, dx ≠ .dct ks vs) :
    (∃ c b, dx = .str [c] ∧ dy = .str b ∧ f c b = dz) ∨ ∃ ys, seqv st dy = some ys ∧ okEq 64 (G.view st dx) = true ∧ okEqs 64 ys = true ∧ g ys = dz := by
  split at e
  · split at e
    · exact .inl ⟨_, _, rfl, rfl, Option.some.inj e⟩
    · cases e
  · exact (‹∀ ks vs, D.dct _ _ ≠ D.dct ks vs› _ _ rfl).elim
  · split at e
    · rename_i ys hy
      obtain ⟨h1, h2, h3⟩ := ok2 e
      exact .inr ⟨ys, hy, h1, h2, h3⟩
    · cases e
theorem strs_at {H : Hp} {s : Shared} {ρ Ow : List Addr} {A : Around} {a : Addr} {es : Array DictEntry} {m : Nat} (ho : s.heap.get? a = some { cls := .type "dict", dict := none, data := .dict es m, slots := #[] }) (hu : A.units < cLine) :
    ∀ {ys : List D} {vs : List V} {us : List Value}, ys.all isStr = true → RVs T H ρ Ow vs ys → Vals vs us → ∀ u ∈ us, SeqAt.EqAt A s u (.ref a) false := by
  intro ys
  induction ys with
  | nil =>
    intro vs us _ r rv u hu'
    cases r
    cases rv
    cases hu'
  | cons d ys ih =>
    intro vs us h r rv u hu'
    have h' : isStr d = true ∧ ys.all isStr = true := by
      rw [List.all_cons, Bool.and_eq_true] at h
      exact h
    cases r with
    | cons r rs =>
      cases rv with
      | cons r1 rv1 =>
        rcases List.mem_cons.mp hu' with e | hm
        · subst e
          cases d with
          | str x =>
            cases r with
            | str _ hx hc =>
              obtain ⟨t, rfl⟩ := r1
              exact SeqAt.EqAt.str_dict _ t ho hu
          | _ => cases h'.1
        · exact ih h'.2 rs rv1 u hm
theorem any_false {us : List Value} : us.toArray.any (fun _ => false) = false := by simp
theorem mem_dct (hK : X.K = T.K) (hu : X.A.units + 65 < cLine) {pins : List (Addr × PySem.Obj)} {σ : L2.St} {H : Hp} {s : Shared} {ρ Ow : List Addr} {st : Store} {x y : V} {v u : Value} {ks vs : List D} {dy : D} {ys : List D} {neg : Bool} {Q : VK}
    (I : Inv X pins σ H s) (rx : RelV x v) (ry : RelV y u) (sr : StR T H ρ Ow st) (wx : RW T H ρ Ow x (.dct ks vs)) (wy : RW T H ρ Ow y dy) (hy : seqv st dy = some ys) (hs : ys.all isStr = true) (q : Q (.bl neg) H) :
    wpAny (model X.prog X.w) X.A (compareOp (match neg with | true => .NotIn | false => .In) v u) (L2.EP X pins σ Q) X.xe s := by
  rcases wx with wx | ⟨_, _, _, _, h, _⟩
  rotate_left
  · cases h
  cases wx with
  | dct qd n1 n2 hk rd =>
    cases rx
    obtain ⟨es, m, ho⟩ := dct_at I qd
    obtain ⟨a, ws, rfl, qs, z, rr⟩ := wy.seq sr hy
    cases ry
    have hu1 : X.A.in1.units < cLine := by
      have : X.A.in1.units = X.A.units + 1 := rfl
      omega
    rcases qs with qs | qs
    · obtain ⟨its, rv, p, hz⟩ := I.list (by rw [hK]; exact qs)
      have he := strs_at (A := X.A.in1) ho hu1 hs rr rv
      cases neg with
      | true => exact SeqAt.notIn_listAt (fun _ => false) p.isList (fun y hy => he y (by simpa using hy)) (by rw [any_false]; exact ⟨.bl _, H, I, rfl, q⟩)
      | false => exact SeqAt.in_listAt (fun _ => false) p.isList (fun y hy => he y (by simpa using hy)) (by rw [any_false]; exact ⟨.bl _, H, I, rfl, q⟩)
    · obtain ⟨its, rv, p, hz⟩ := I.tuple (by rw [hK]; exact qs)
      have he := strs_at (A := X.A.in1) ho hu1 hs rr rv
      cases neg with
      | true => exact SeqAt.notIn_tupleAt (fun _ => false) (show s.heap.IsTuple a its.toArray from p) (fun y hy => he y (by simpa using hy)) (by rw [any_false]; exact ⟨.bl _, H, I, rfl, q⟩)
      | false => exact SeqAt.in_tupleAt (fun _ => false) (show s.heap.IsTuple a its.toArray from p) (fun y hy => he y (by simpa using hy)) (by rw [any_false]; exact ⟨.bl _, H, I, rfl, q⟩)
theorem str_or {st : Store} {dy : D} {c : D} {dz : D} (e : (match seqv st dy with
    | some ys => if ys.all isStr = true then some c else none
    | none => none) = some dz) : ∃ ys, seqv st dy = some ys ∧ ys.all isStr = true ∧ c = dz := by
  split at e
  · rename_i ys hy
    split at e
    · rename_i h
      exact ⟨ys, hy, h, Option.some.inj e⟩
    · cases e
  · cases e
theorem or_mem (hK : X.K = T.K) (hu : X.A.units + 65 < cLine) : OpR X (compareOp .In) (rSem T (op2 .mem)) := by
  intro pins s σ H x y v u Q I rx ry ⟨st, ρ, Ow, dx, dy, dz, sr, wx, wy, e, k⟩
  by_cases n0 : ∃ ks vs, dx = .dct ks vs
  · obtain ⟨ks, vs, rfl⟩ := n0
    obtain ⟨ys, hy, hs, rfl⟩ := str_or e
    exact mem_dct (neg := false) hK hu I rx ry sr wx wy hy hs (k _ _ (.inl rfl) (.bl _))
  rcases mem_split (fun c b => .bl (b.contains c)) (fun ys => .bl (ys.any fun z => pyEq z (G.view st dx))) (c0 := false) e (fun ks vs h => n0 ⟨ks, vs, h⟩) with ⟨a, b, rfl, rfl, rfl⟩ | ⟨ys, hy, h1, h2, rfl⟩
  · obtain ⟨e1, _, _⟩ := wx.u.str
    obtain ⟨e2, _, _⟩ := wy.u.str
    subst e1 e2
    refine L2.op_in_sign pins s σ H _ _ v u Q I rx ry ⟨a, _, rfl, rfl, ?_⟩
    have e3 : decide (a ∈ (⟨b.toArray⟩ : PySem.Str).cps.toList) = b.contains a := by
      rw [Bool.eq_iff_iff]; simp
    rw [e3]
    exact k _ _ (.inl rfl) (.bl _)
  · obtain ⟨p1, l1, z1⟩ := du_of h1 (wx.view sr)
    obtain ⟨p2, l2, z2⟩ := seq_dp sr wy hy h2
    obtain ⟨as, r1⟩ := L2.Dp.reads I _ x v (by rw [hK]; exact p1) rx
    have fin : Q (.bl ((toPys ys).any fun z => PyData.eqv z (toPy (G.view st dx)))) H := by
      rw [any_toPys h1 ys h2]
      exact k _ _ (.inl rfl) (.bl _)
    rcases p2 with p2 | p2
    · obtain ⟨bs, r2⟩ := L2.Dp.reads I _ y u (by rw [hK]; exact p2) ry
      exact SeqAt.in_list_reads r2 r1 l2 l1 (PyProof.Rows.room_in_shaped (shaped_of l1 z1) hu) ⟨.bl _, H, I, rfl, fin⟩
    · obtain ⟨bs, r2⟩ := L2.Dp.reads I _ y u (by rw [hK]; exact p2) ry
      exact SeqAt.in_tuple_reads r2 r1 l2 l1 (PyProof.Rows.room_in_shaped (shaped_of l1 z1) hu) ⟨.bl _, H, I, rfl, fin⟩
theorem or_nmem (hK : X.K = T.K) (hu : X.A.units + 65 < cLine) : OpR X (compareOp .NotIn) (rSem T (op2 .nmem)) := by
  intro pins s σ H x y v u Q I rx ry ⟨st, ρ, Ow, dx, dy, dz, sr, wx, wy, e, k⟩
  by_cases n0 : ∃ ks vs, dx = .dct ks vs
  · obtain ⟨ks, vs, rfl⟩ := n0
    obtain ⟨ys, hy, hs, rfl⟩ := str_or e
    exact mem_dct (neg := true) hK hu I rx ry sr wx wy hy hs (k _ _ (.inl rfl) (.bl _))
  rcases mem_split (fun c b => .bl (!b.contains c)) (fun ys => .bl (!ys.any fun z => pyEq z (G.view st dx))) (c0 := true) e (fun ks vs h => n0 ⟨ks, vs, h⟩) with ⟨a, b, rfl, rfl, rfl⟩ | ⟨ys, hy, h1, h2, rfl⟩
  · obtain ⟨e1, _, _⟩ := wx.u.str
    obtain ⟨e2, _, _⟩ := wy.u.str
    subst e1 e2
    refine L2.op_notIn_sign pins s σ H _ _ v u Q I rx ry ⟨a, _, rfl, rfl, ?_⟩
    have e3 : decide (a ∈ (⟨b.toArray⟩ : PySem.Str).cps.toList) = b.contains a := by
      rw [Bool.eq_iff_iff]; simp
    rw [e3]
    exact k _ _ (.inl rfl) (.bl _)
  · obtain ⟨p1, l1, z1⟩ := du_of h1 (wx.view sr)
    obtain ⟨p2, l2, z2⟩ := seq_dp sr wy hy h2
    obtain ⟨as, r1⟩ := L2.Dp.reads I _ x v (by rw [hK]; exact p1) rx
    have fin : Q (.bl (!(toPys ys).any fun z => PyData.eqv z (toPy (G.view st dx)))) H := by
      rw [any_toPys h1 ys h2]
      exact k _ _ (.inl rfl) (.bl _)
    rcases p2 with p2 | p2
    · obtain ⟨bs, r2⟩ := L2.Dp.reads I _ y u (by rw [hK]; exact p2) ry
      exact SeqAt.notIn_list_reads r2 r1 l2 l1 (PyProof.Rows.room_in_shaped (shaped_of l1 z1) hu) ⟨.bl _, H, I, rfl, fin⟩
    · obtain ⟨bs, r2⟩ := L2.Dp.reads I _ y u (by rw [hK]; exact p2) ry
      exact SeqAt.notIn_tuple_reads r2 r1 l2 l1 (PyProof.Rows.room_in_shaped (shaped_of l1 z1) hu) ⟨.bl _, H, I, rfl, fin⟩
theorem ixN_eq (n : Nat) (i : Int) : G.ixN n i = L2.ixN n i := rfl
theorem ir_idx (hK : X.K = T.K) : L2.IxR X (rSem T (op2 .idx)) := by
  intro value slice pins s σ H x y v u Q I rx ry ⟨st, ρ, Ow, dx, dy, dz, sr, wx, wy, e, k⟩ hs
  simp only [op2] at e
  split at e
  · rename_i i
    have e2 := wy.int
    subst e2
    split at e
    · rename_i a
      obtain ⟨e1, z1, c1⟩ := wx.u.str
      subst e1
      rw [Option.map_eq_some_iff] at e
      obtain ⟨c, hc, rfl⟩ := e
      refine L2.ix_str value slice pins s σ H _ _ v u Q I rx ry ⟨_, i, c, rfl, rfl, by rw [← lim_line]; simpa [Str.length] using z1, hc, ?_⟩ hs
      refine k (.str ⟨[c].toArray⟩) H (.inl rfl) (.str [c] ?_ ?_)
      · rw [lim_line, sizeLine_eq]; show 1 ≤ 16777216; decide
      · obtain ⟨j, _, hj⟩ := Option.bind_eq_some_iff.mp (show (G.ixN a.length i).bind (fun j => a[j]?) = some c from hc)
        have := List.all_eq_true.mp c1 c (List.mem_of_getElem? hj)
        simp [this]
    · rw [Option.bind_eq_some_iff] at e
      obtain ⟨xs, hx, e⟩ := e
      obtain ⟨a, vs, rfl, q, z, rs⟩ := wx.seq sr hx
      obtain ⟨j, hj, hd⟩ := Option.bind_eq_some_iff.mp (show (G.ixN xs.length i).bind (fun j => xs[j]?) = some dz from e)
      obtain ⟨w, hw, rw_⟩ := rs.get hd
      have at_ : L2.atI vs i = some w := by
        show (L2.ixN vs.length i).bind (fun j => vs[j]?) = some w
        rw [rs.length, ← ixN_eq, hj]
        exact hw
      refine L2.ix_seq value slice pins s σ H _ _ v u Q I rx ry ?_ hs
      rcases q with q | q
      · exact .inl ⟨a, vs, i, w, rfl, rfl, by rw [hK]; exact q, at_, k _ _ (.inl rfl) rw_⟩
      · exact .inr (.inl ⟨a, vs, i, w, rfl, rfl, by rw [hK]; exact q, at_, k _ _ (.inl rfl) rw_⟩)
  · cases e
end
end G
namespace G
open PySem PySem.Spec PyProof.Rows
open L2 (V Hp HO upd SqL SqT Rd VK TE TT TA TI WX XK Cx PE PT PA PI Inv OpR CallR RelV Vals R2 PC)
def plainE : Expr → Bool
  | .Starred .. => false
  | .Set .. => false
  | .Slice .. => false
  | _ => true
theorem plain_star {e : Expr} (h : plainE e = true) (es : List Expr) (env : PySem.Env) : starEach (e :: es) env = (false, eval e env) :: starEach es env := by
  cases e <;> first | rfl | cases h
theorem plain_marks {e : Expr} (h : plainE e = true) (op : CmpOp) : behindInMarks op e = false := by
  cases e <;> first | rfl | cases h
theorem plain_ix {e : Expr} (h : plainE e = true) : L2.PlainIx e := by
  intro o i
  cases e <;> first | rfl | cases h
theorem plain_fold {e : Expr} (h : plainE e = true) (env : PySem.Env) (x : Value) : foldedSetIterable e env x = pure x := by
  cases e <;> first | rfl | cases h
def binOf : Op2 → Option Operator
  | .add => some .Add
  | .sub => some .Sub
  | .mul => some .Mult
  | .fdiv => some .FloorDiv
  | .mod => some .Mod
  | .pow => some .Pow
  | _ => none
def cmpOf : Op2 → Option CmpOp
  | .eq => some .Eq
  | .ne => some .NotEq
  | .lt => some .Lt
  | .le => some .LtE
  | .gt => some .Gt
  | .ge => some .GtE
  | .is => some .Is
  | .isnot => some .IsNot
  | .mem => some .In
  | .nmem => some .NotIn
  | _ => none
section
variable {X : Cx} {T : Tb} {xf : Nat → List Nm} {W : WX} {N : List PySem.Str} {sc : Scope} {n : Nat}
theorem or_bin (C : CxG X T N sc n) {o : Op2} {op : Operator} (h : binOf o = some op) : OpR X (binaryOp op) (rSem T (op2 o)) := by
  cases o <;> cases h
  · exact or_add C.eK
  · exact or_sub
  · exact or_mul C.eK
  · exact or_fdiv
  · exact or_mod
  · exact or_pow
theorem or_cmp (C : CxG X T N sc n) {o : Op2} {op : CmpOp} (h : cmpOf o = some op) : OpR X (compareOp op) (rSem T (op2 o)) := by
  have hu := C.rm.un
  cases o <;> cases h
  · exact or_eq C.eK (by omega)
  · exact or_ne C.eK (by omega)
  · exact or_lt
  · exact or_le
  · exact or_gt
  · exact or_ge
  · exact or_is
  · exact or_isnot
  · exact or_mem C.eK (by omega)
  · exact or_nmem C.eK (by omega)
theorem sem_of {w : Wo} {H : Hp} {ρ Ow : List Addr} {st : Store} {f : Store → D → D → Option D} {dx dy : D} {x y : V} {Q : VK} (hw : w.T = T) (s : StR T H ρ Ow st) (rx : RW T H ρ Ow x dx) (ry : RW T H ρ Ow y dy)
    (p : Post w H ρ Ow (fun d _ H' ρ' => ∀ v, RV T H' ρ' Ow v d → Q v H') (O.of (f st dx dy) st)) : rSem T f x y H Q := by
  cases e : f st dx dy with
  | none => rw [e] at p; exact p.elim
  | some dz =>
    rw [e] at p
    exact ⟨st, ρ, Ow, dx, dy, dz, s, rx, ry, e, fun v H' nw r => p H' ρ (nw.ext ρ) (by rw [hw]; exact nw.st s) v r⟩
variable {a b c : Expr} {sa sb sc' : Sem} {ra rb rc : Bool} {pos : Pos}
theorem two_imp {r : R2} {f : D → D → Store → O D} (h : ∀ (σ : L2.St) (st : Store) (H : Hp) (ρ Ow : List Addr) (dx dy : D) (x y : V) (Q : VK), StR T H ρ Ow st → RX ra T H ρ Ow x dx → RX rb T H ρ Ow y dy →
      Post ⟨T, xf, W, σ⟩ H ρ Ow (fun d _ H' ρ' => ∀ v, RV T H' ρ' Ow v d → Q v H') (f dx dy st) → r x y H Q) :
    ∀ σ H Q, tVal T xf W true (two sa sb f) σ H Q → L2.tOp r (tVal T xf W ra sa.val) (tVal T xf W rb sb.val) σ H Q := by
  intro σ H Q ⟨env, st, ρ, Ow, en, sr, p⟩
  refine ⟨env, st, ρ, Ow, en, sr, (Post.bind p).mono fun d st1 H1 ρ1 e1 s1 q v r1 => ?_⟩
  refine ⟨env, st1, ρ1, Ow, en.ext e1 sr.disj, s1, (Post.bind q).mono fun d2 st2 H2 ρ2 e2 s2 q2 v2 r2 => ?_⟩
  exact h σ st2 H2 ρ2 Ow d d2 v v2 Q s2 (RX.ext e2 r1) r2 q2
theorem je_bin (C : CxG X T N sc n) {o : Op2} {op : Operator} (h : binOf o = some op) (ja : JE X T xf W a sa ra) (jb : JE X T xf W b sb rb) :
    JE X T xf W (.BinOp a op b pos) (Sem.of (two sa sb fun x y st => .of (op2 o st x y) st)) true :=
  .of C (PE.imp (L2.pe_op (or_bin C h) ja.val jb.val) (two_imp fun σ st H ρ Ow dx dy x y Q s rx ry p => sem_of rfl s rx.w ry.w p))
theorem je_ix (C : CxG X T N sc n) (hb : plainE b = true) (ja : JE X T xf W a sa ra) (jb : JE X T xf W b sb rb) :
    JE X T xf W (.Subscript a b pos) (Sem.of (two sa sb fun x y st => .of (op2 .idx st x y) st)) true :=
  .of C (PE.imp (L2.pe_ix (ir_idx C.eK) ja.val jb.val (plain_ix hb)) (two_imp fun σ st H ρ Ow dx dy x y Q s rx ry p => sem_of rfl s rx.w ry.w p))
theorem je_cmp (C : CxG X T N sc n) {op : CmpOp} {r : R2} {f : D → D → Store → O D} (hb : plainE b = true) (ho : OpR X (compareOp op) r)
    (h : ∀ (σ : L2.St) (st : Store) (H : Hp) (ρ Ow : List Addr) (dx dy : D) (x y : V) (Q : VK), StR T H ρ Ow st → RX ra T H ρ Ow x dx → RX rb T H ρ Ow y dy →
      Post ⟨T, xf, W, σ⟩ H ρ Ow (fun d _ H' ρ' => ∀ v, RV T H' ρ' Ow v d → Q v H') (f dx dy st) → r x y H Q)
    (hf : ∀ x y st, ∀ d st', f x y st = .ok d st' → ∃ k, d = .bl k) (ja : JE X T xf W a sa ra) (jb : JE X T xf W b sb rb) :
    JE X T xf W (.Compare a [op] [b] pos) (Sem.of (two sa sb f)) true := by
  refine ⟨PE.imp (L2.pe_cmpR ho ja.val jb.val (plain_marks hb op)) (two_imp h), ?_, fun tg => items_of C (PE.imp (L2.pe_cmpR ho ja.val jb.val (plain_marks hb op)) (two_imp h))⟩
  refine PT.imp (L2.pt_cmpR ho ja.val jb.val (plain_marks hb op)) fun σ H Q q => ?_
  obtain ⟨env, st, ρ, Ow, en, sr, p⟩ := q
  have p1 := Post.bind p
  refine two_imp (T := T) (xf := xf) (W := W) (ra := ra) (rb := rb) h σ H _ ⟨env, st, ρ, Ow, en, sr, ?_⟩
  have key : ∀ o : O D, (∀ d st', o = .ok d st' → ∃ k, d = .bl k) → Post ⟨T, xf, W, σ⟩ H ρ Ow (fun d st1 H1 ρ1 => Post ⟨T, xf, W, σ⟩ H1 ρ1 Ow (fun b _ H' _ => Q b H') (O.of (truth st1 d) st1)) o →
      Post ⟨T, xf, W, σ⟩ H ρ Ow (fun d _ H' ρ' => ∀ v, RX true T H' ρ' Ow v d → ∃ k, v = V.bl k ∧ Q k H') o := fun o hk p => by
    cases o with
    | ok d st1 =>
      obtain ⟨k, rfl⟩ := hk d st1 rfl
      intro H' ρ' e s v r
      cases r
      exact ⟨k, rfl, Post.ok s (p H' ρ' e s)⟩
    | ex c fs st1 => exact p
    | bad => exact p
  refine key _ (fun d st' hd => ?_) p1
  unfold two at hd
  cases h1 : sa.val env st with
  | ok x s1 =>
    rw [h1] at hd
    cases h2 : sb.val env s1 with
    | ok y s2 =>
      have hd' : (sb.val env s1).bind (fun y st => f x y st) = .ok d st' := hd
      rw [h2] at hd'
      exact hf x y s2 d st' hd'
    | ex _ _ _ =>
      have hd' : (sb.val env s1).bind (fun y st => f x y st) = .ok d st' := hd
      rw [h2] at hd'; cases hd'
    | bad =>
      have hd' : (sb.val env s1).bind (fun y st => f x y st) = .ok d st' := hd
      rw [h2] at hd'; cases hd'
  | ex _ _ _ => rw [h1] at hd; cases hd
  | bad => rw [h1] at hd; cases hd
end
end G
namespace G
open PySem PySem.Spec PyProof.Rows
open L2 (V Hp HO upd SqL SqT Rd VK TE TT TA TI WX XK Cx PE PT PA PI Inv OpR CallR RelV Vals R2 PC PW)
section
variable {X : Cx} {T : Tb} {xf : Nat → List Nm} {W : WX} {N : List PySem.Str} {sc : Scope} {n : Nat}
variable {a b c : Expr} {sa sb sc' : Sem} {ra rb rc : Bool} {pos : Pos}
theorem items_bad {tg e : Expr} {str : Bool} : PI X tg e (tIt T xf W str fun _ _ => .bad) := ⟨fun _ _ _ _ _ _ ⟨_, _, _, _, _, _, p⟩ => p.elim⟩
theorem je_no (C : CxG X T N sc n) (ja : JE X T xf W a sa ra) : JE X T xf W (.UnaryOp .Not a pos) (Sem.no sa) true := by
  refine ⟨PE.imp (L2.pe_notT ja.val) fun σ H Q q => ?_, PT.imp (L2.pt_not ja.test) fun σ H Q q => ?_, fun tg => items_bad⟩
  · obtain ⟨env, st, ρ, Ow, en, sr, p⟩ := q
    refine ⟨env, st, ρ, Ow, en, sr, (Post.bind p).mono fun d st1 H1 ρ1 e1 s1 q v r => ?_⟩
    obtain ⟨k, hk, q1⟩ := Post.of s1 (Post.bind q)
    exact ⟨k, by rw [C.eK]; exact truth_ok s1 r.w hk, Post.ok s1 q1 _ (.bl _)⟩
  · obtain ⟨env, st, ρ, Ow, en, sr, p⟩ := q
    exact ⟨env, st, ρ, Ow, en, sr, (Post.bind p).mono fun d st1 H1 ρ1 e1 s1 q => Post.ok s1 q⟩
theorem je_ife (C : CxG X T N sc n) (jc : JE X T xf W c sc' rc) (ja : JE X T xf W a sa ra) (jb : JE X T xf W b sb rb) : JE X T xf W (.IfExp c a b pos) (Sem.ife sc' sa sb) (ra && rb) := by
  have hv : PE X (.IfExp c a b pos) (tVal T xf W (ra && rb) (Sem.ife sc' sa sb).val) := by
    refine PE.imp (L2.pe_ifExp jc.test ja.val jb.val) fun σ H Q q => ?_
    obtain ⟨env, st, ρ, Ow, en, sr, p⟩ := q
    refine ⟨env, st, ρ, Ow, en, sr, (Post.bind p).mono fun t st1 H1 ρ1 e1 s1 q => ?_⟩
    cases t with
    | true =>
      refine ⟨env, st1, ρ1, Ow, en.ext e1 sr.disj, s1, Post.mono (show Post _ _ _ _ _ (sa.val env st1) from q) fun d st2 H2 ρ2 e2 s2 q2 v r => q2 v ?_⟩
      cases ra <;> cases rb <;> first | exact r | exact r.w
    | false =>
      refine ⟨env, st1, ρ1, Ow, en.ext e1 sr.disj, s1, Post.mono (show Post _ _ _ _ _ (sb.val env st1) from q) fun d st2 H2 ρ2 e2 s2 q2 v r => q2 v ?_⟩
      cases ra <;> cases rb <;> first | exact r | exact r.w
  refine ⟨hv, ⟨fun pins s σ H Q I q => ?_⟩, fun tg => ?_⟩
  · obtain ⟨env, st, ρ, Ow, en, sr, p⟩ := q
    show wpAny _ _ (do if ← isTrue c X.env (eval c X.env) then isTrue a X.env (eval a X.env) else isTrue b X.env (eval b X.env)) _ _ _
    refine wpAny_bind (L2.thn (jc.test.run pins s σ H (fun t H1 => if t = true then tTst T xf W sa.test σ H1 Q else tTst T xf W sb.test σ H1 Q) I ⟨env, st, ρ, Ow, en, sr, (Post.bind p).mono fun t st1 H1 ρ1 e1 s1 q => ?_⟩) fun t s1 ⟨H1, I1, q1⟩ => ?_)
    · cases t with
      | true => exact ⟨env, st1, ρ1, Ow, en.ext e1 sr.disj, s1, q⟩
      | false => exact ⟨env, st1, ρ1, Ow, en.ext e1 sr.disj, s1, q⟩
    · cases t with
      | true => exact ja.test.run pins s1 σ H1 Q I1 q1
      | false => exact jb.test.run pins s1 σ H1 Q I1 q1
  · exact items_of C hv
inductive JEs (X : Cx) (T : Tb) (xf : Nat → List Nm) (W : WX) : List Expr → List Sem → Prop
  | nil : JEs X T xf W [] []
  | cons {e : Expr} {s : Sem} {es : List Expr} {ss : List Sem} (h : plainE e = true) (j : JE X T xf W e s true) (js : JEs X T xf W es ss) : JEs X T xf W (e :: es) (s :: ss)
theorem pa_args : ∀ {es : List Expr} {ss : List Sem}, JEs X T xf W es ss → PA X es (tArg T xf W (args ss))
  | _, _, .nil => PA.imp L2.pa_nil fun σ H Q ⟨env, st, ρ, Ow, en, sr, p⟩ => Post.ok sr p [] .nil
  | _, _, .cons h j js => PA.imp (L2.pa_cons j.val (pa_args js) (plain_star h _ _)) fun σ H Q ⟨env, st, ρ, Ow, en, sr, p⟩ => by
    refine ⟨env, st, ρ, Ow, en, sr, (Post.bind p).mono fun d st1 H1 ρ1 e1 s1 q v r => ?_⟩
    refine ⟨env, st1, ρ1, Ow, en.ext e1 sr.disj, s1, (Post.bind q).mono fun ds st2 H2 ρ2 e2 s2 q2 vs rs => ?_⟩
    exact Post.ok s2 q2 _ (.cons (RV.ext e2 r) rs)
theorem args_len : ∀ {ss : List Sem} {env : Env} {st st' : Store} {ds : List D}, args ss env st = .ok ds st' → ds.length = ss.length
  | [], _, _, _, _, h => by cases h; rfl
  | s :: ss, env, st, st', ds, h => by
    have h1 : ((s.val env st).bind fun x st => (args ss env st).bind fun xs st => O.ok (x :: xs) st) = .ok ds st' := h
    cases e : s.val env st with
    | ok x s1 =>
      rw [e] at h1
      have h2 : ((args ss env s1).bind fun xs st => O.ok (x :: xs) st) = .ok ds st' := h1
      cases e2 : args ss env s1 with
      | ok xs s2 =>
        rw [e2] at h2
        cases h2
        simp [args_len e2]
      | ex _ _ _ => rw [e2] at h2; cases h2
      | bad => rw [e2] at h2; cases h2
    | ex _ _ _ => rw [e] at h1; cases h1
    | bad => rw [e] at h1; cases h1
theorem many_imp {str : Bool} {ss : List Sem} {f : List D → Store → O D} {r : List V → Hp → VK → Prop} (h : ∀ (σ : L2.St) (st : Store) (H : Hp) (ρ Ow : List Addr) (ds : List D) (vs : List V) (Q : VK), ds.length = ss.length → StR T H ρ Ow st → RVs T H ρ Ow vs ds →
      Post ⟨T, xf, W, σ⟩ H ρ Ow (fun d _ H' ρ' => ∀ v, RX str T H' ρ' Ow v d → Q v H') (f ds st) → r vs H Q) :
    ∀ σ H Q, tVal T xf W str (many ss f) σ H Q → tArg T xf W (args ss) σ H fun vs H1 => r vs H1 Q := by
  intro σ H Q ⟨env, st, ρ, Ow, en, sr, p⟩
  exact ⟨env, st, ρ, Ow, en, sr, (Post.bind p).eqn.mono fun ds st1 H1 ρ1 e1 s1 q vs rs => h σ st1 H1 ρ1 Ow ds vs Q (args_len q.1) s1 rs q.2⟩
theorem lim_len {k : Nat} (h : k ≤ LIM) : k ≤ sizeLine := by rw [← lim_line]; exact h
theorem lim_k {k : Nat} (h : k ≤ 1000) : k ≤ LIM := by rw [lim_line, sizeLine_eq]; omega
theorem je_tup {es : List Expr} {ss : List Sem} {k : Nat} (C : CxG X T N sc n) (hs : ss.length ≤ 1000) (js : JEs X T xf W es ss) :
    JE X T xf W (.Tuple es k pos) (Sem.of (many ss fun ds st => .ok (.tup ds) st)) true :=
  .of C (PE.imp (pe_tupF (pa_args js)) (many_imp fun σ st H ρ Ow ds vs Q hl s rs p => by
    have hz : vs.length ≤ LIM := lim_k (by rw [rs.length, hl]; exact hs)
    exact ⟨lim_len hz, fun q o hq ho => p _ ρ (Ext.new hq) (s.new hq) _ (rv_tup hq ho (s.fresh hq).1 hz rs)⟩))
theorem je_lst {es : List Expr} {ss : List Sem} (C : CxG X T N sc n) (hs : ss.length ≤ 1000) (js : JEs X T xf W es ss) :
    JE X T xf W (.List es pos) (Sem.of (many ss fun ds st => .ok (.lst ds) st)) true :=
  .of C (PE.imp (L2.pe_lst (pa_args js)) (many_imp fun σ st H ρ Ow ds vs Q hl s rs p => by
    have hz : vs.length ≤ LIM := lim_k (by rw [rs.length, hl]; exact hs)
    exact ⟨lim_len hz, fun q hq => p _ ρ (Ext.new hq) (s.new hq) _ (rv_lst hq (s.fresh hq).1 (s.fresh hq).2 hz rs)⟩))
theorem StR.push {H : Hp} {ρ Ow : List Addr} {st : Store} {p : Addr} {o : HO} {ob : Obj} (s : StR T H ρ Ow st) (hp : H p = none) (r : ObR T (upd H p o) (ρ ++ [p]) Ow st.length p ob) : StR T (upd H p o) (ρ ++ [p]) Ow (st ++ [ob]) := by
  refine ⟨by simp [s.len]; omega, ?_, fun a ha => ?_, (s.new hp).lists, fun l a ob' h1 h2 => ?_, fun i q h => ?_⟩
  · rw [List.nodup_append]
    refine ⟨s.nd, by simp, fun a ha b hb e => ?_⟩
    rw [List.mem_singleton.mp hb] at e
    exact (s.fresh hp).1 (e ▸ ha)
  · rcases List.mem_append.mp ha with ha | ha
    · exact s.apart a ha
    · rw [List.mem_singleton.mp ha]; exact (s.fresh hp).2
  · by_cases hl : l < st.length
    · rw [List.getElem?_append_left (by rw [s.len]; omega)] at h1
      rw [List.getElem?_append_left hl] at h2
      have q := s.at_ l a ob' h1 h2
      exact q.ext (Ext.newS hp) (L2.upd_ne fun e => q.there (by rw [e]; exact hp))
    · have hl2 : l = st.length := by
        have := (List.getElem?_eq_some_iff.mp h2).1
        simp at this
        omega
      subst hl2
      rw [← s.len, List.getElem?_concat_length] at h1
      rw [List.getElem?_concat_length] at h2
      cases h1; cases h2
      exact r
  · obtain ⟨h1, h2⟩ := s.tab i q h
    exact ⟨by rw [List.getElem?_append_left (List.getElem?_eq_some_iff.mp h1).1]; exact h1, h2.ext (Ext.newS hp) (L2.upd_ne fun e => h2.there (by rw [e]; exact hp))⟩
theorem je_new {es : List Expr} {ss : List Sem} (C : CxG X T N sc n) (js : JEs X T xf W es ss) :
    JE X T xf W (.List es pos) (Sem.of (many ss newV)) true :=
  .of C (PE.imp (L2.pe_lst (pa_args js)) (many_imp fun σ st H ρ Ow ds vs Q hl s rs p => by
    unfold newV at p
    split at p
    · rename_i hc
      have hz : vs.length ≤ LIM := by rw [rs.length]; exact hc.2
      refine ⟨lim_len hz, fun q hq => ?_⟩
      have e := Ext.newS (ρ := ρ) (o := .lst vs) hq
      exact p _ (ρ ++ [q]) e (s.push hq ⟨hc.1, vs, L2.upd_same, hz, rs.ext e⟩) _ (.loc (by rw [← s.len, List.getElem?_concat_length]))
    · exact p.elim))
end
end G
namespace G
open PySem PySem.Spec PyProof.Rows
open L2 (V Hp HO upd SqL SqT Rd VK TE TT TA TI WX XK Cx PE PT PA PI Inv OpR CallR RelV Vals R2 PC PW)
section
variable {X : Cx} {T : Tb} {xf : Nat → List Nm} {W : WX} {N : List PySem.Str} {sc : Scope} {n : Nat}
variable {a b c : Expr} {sa sb sc' : Sem} {ra rb rc : Bool} {pos : Pos}
theorem bop_val (and : Bool) : ∀ {es : List Expr} {ss : List Sem}, JEs X T xf W es ss → es ≠ [] → PE X (.BoolOp (if and then .And else .Or) es pos) (tVal T xf W true (bopV and ss))
  | _, _, .nil, h => absurd rfl h
  | _, _, .cons h j .nil, _ => L2.pe_one j.val
  | _, _, .cons h j (.cons h2 j2 js), _ => by
    have ih := bop_val and (.cons h2 j2 js) (by simp)
    cases and with
    | true =>
      refine PE.imp (L2.pe_and j.val ih) fun σ H Q ⟨env, st, ρ, Ow, en, sr, p⟩ => ?_
      refine ⟨env, st, ρ, Ow, en, sr, (Post.bind p).mono fun d st1 H1 ρ1 e1 s1 q v r => ?_⟩
      cases d with
      | bl b =>
        cases r
        refine ⟨b, rfl, ?_⟩
        cases b with
        | true => exact ⟨env, st1, ρ1, Ow, en.ext e1 sr.disj, s1, q⟩
        | false => exact Post.ok s1 q _ (.bl false)
      | _ => exact q.elim
    | false =>
      refine PE.imp (L2.pe_or j.val ih) fun σ H Q ⟨env, st, ρ, Ow, en, sr, p⟩ => ?_
      refine ⟨env, st, ρ, Ow, en, sr, (Post.bind p).mono fun d st1 H1 ρ1 e1 s1 q v r => ?_⟩
      cases d with
      | bl b =>
        cases r
        refine ⟨b, rfl, ?_⟩
        cases b with
        | true => exact Post.ok s1 q _ (.bl true)
        | false => exact ⟨env, st1, ρ1, Ow, en.ext e1 sr.disj, s1, q⟩
      | _ => exact q.elim
theorem bop_test (and : Bool) : ∀ {es : List Expr} {ss : List Sem}, JEs X T xf W es ss → es ≠ [] → PW X (.BoolOp (if and then .And else .Or) es pos) (tTst T xf W (bopT and ss))
  | _, _, .nil, h => absurd rfl h
  | _, _, .cons h j .nil, _ => by
    cases and with
    | true => exact L2.pw_and1 j.test
    | false => exact L2.pw_or1 j.test
  | _, _, .cons h j (.cons h2 j2 js), _ => by
    have ih := bop_test and (.cons h2 j2 js) (by simp)
    cases and with
    | true =>
      refine ⟨fun wh pins s σ H Q I ⟨env, st, ρ, Ow, en, sr, p⟩ => (L2.pw_and j.test ih).run wh pins s σ H Q I ?_⟩
      refine ⟨env, st, ρ, Ow, en, sr, (Post.bind p).mono fun b st1 H1 ρ1 e1 s1 q => ?_⟩
      cases b with
      | true => exact ⟨env, st1, ρ1, Ow, en.ext e1 sr.disj, s1, q⟩
      | false => exact Post.ok s1 q
    | false =>
      refine ⟨fun wh pins s σ H Q I ⟨env, st, ρ, Ow, en, sr, p⟩ => (L2.pw_or j.test ih).run wh pins s σ H Q I ?_⟩
      refine ⟨env, st, ρ, Ow, en, sr, (Post.bind p).mono fun b st1 H1 ρ1 e1 s1 q => ?_⟩
      cases b with
      | true => exact Post.ok s1 q
      | false => exact ⟨env, st1, ρ1, Ow, en.ext e1 sr.disj, s1, q⟩
theorem je_bop {es : List Expr} {ss : List Sem} (and : Bool) (js : JEs X T xf W es ss) (h : es ≠ []) : JE X T xf W (.BoolOp (if and then .And else .Or) es pos) (Sem.bop and ss) true :=
  ⟨bop_val and js h, (bop_test and js h).pt, fun tg => items_bad⟩
theorem cmp_bl {o : Op2} {op : CmpOp} (h : cmpOf o = some op) {st : Store} {x y d : D} (e : op2 o st x y = some d) : ∃ k, d = .bl k := by
  cases o <;> cases h
  · have e : (if (okEq 64 (G.view st x) && okEq 64 (G.view st y)) = true then some (D.bl (pyEq (G.view st x) (G.view st y))) else (tupNil (G.view st x) (G.view st y)).map D.bl) = some d := e
    split at e
    · cases e
      exact ⟨_, rfl⟩
    · obtain ⟨_, _, e2⟩ := Option.map_eq_some_iff.mp e
      exact ⟨_, e2.symm⟩
  · obtain ⟨_, _, rfl⟩ := ok2 (show (if (okEq 64 (G.view st x) && okEq 64 (G.view st y)) = true then some (D.bl (!pyEq (G.view st x) (G.view st y))) else none) = some d from e)
    exact ⟨_, rfl⟩
  · obtain ⟨i, j, _, _, e⟩ := ints2 e; cases e; exact ⟨_, rfl⟩
  · obtain ⟨i, j, _, _, e⟩ := ints2 e; cases e; exact ⟨_, rfl⟩
  · obtain ⟨i, j, _, _, e⟩ := ints2 e; cases e; exact ⟨_, rfl⟩
  · obtain ⟨i, j, _, _, e⟩ := ints2 e; cases e; exact ⟨_, rfl⟩
  · simp only [op2] at e; split at e <;> cases e <;> exact ⟨_, rfl⟩
  · simp only [op2] at e; split at e <;> cases e <;> exact ⟨_, rfl⟩
  · by_cases n0 : ∃ ks vs, x = .dct ks vs
    · obtain ⟨ks, vs, rfl⟩ := n0
      obtain ⟨_, _, _, rfl⟩ := str_or e
      exact ⟨_, rfl⟩
    · rcases mem_split (fun c b => .bl (b.contains c)) (fun ys => .bl (ys.any fun z => pyEq z (G.view st x))) (c0 := false) e (fun ks vs h => n0 ⟨ks, vs, h⟩) with ⟨_, _, _, _, rfl⟩ | ⟨_, _, _, _, rfl⟩ <;> exact ⟨_, rfl⟩
  · by_cases n0 : ∃ ks vs, x = .dct ks vs
    · obtain ⟨ks, vs, rfl⟩ := n0
      obtain ⟨_, _, _, rfl⟩ := str_or e
      exact ⟨_, rfl⟩
    · rcases mem_split (fun c b => .bl (!b.contains c)) (fun ys => .bl (!ys.any fun z => pyEq z (G.view st x))) (c0 := true) e (fun ks vs h => n0 ⟨ks, vs, h⟩) with ⟨_, _, _, _, rfl⟩ | ⟨_, _, _, _, rfl⟩ <;> exact ⟨_, rfl⟩
theorem je_cmp0 (C : CxG X T N sc n) {o : Op2} {op : CmpOp} (h : cmpOf o = some op) (hb : plainE b = true) (ja : JE X T xf W a sa ra) (jb : JE X T xf W b sb rb) :
    JE X T xf W (.Compare a [op] [b] pos) (Sem.of (two sa sb fun x y st => .of (op2 o st x y) st)) true :=
  je_cmp C hb (or_cmp C h) (fun σ st H ρ Ow dx dy x y Q s rx ry p => sem_of rfl s rx.w ry.w p) (fun x y st d st' e => by
    cases e2 : op2 o st x y with
    | none => rw [e2] at e; cases e
    | some z => rw [e2] at e; cases e; exact cmp_bl h e2) ja jb
theorem je_chain (C : CxG X T N sc n) {o p : Op2} {op pp : CmpOp} (h : cmpOf o = some op) (h' : cmpOf p = some pp) (hc : plainE c = true) (ja : JE X T xf W a sa ra) (jb : JE X T xf W b sb rb) (jc : JE X T xf W c sc' rc) :
    JE X T xf W (.Compare a [op, pp] [b, c] pos) (Sem.of (chain o p sa sb sc')) true := by
  have hm : lastMarks [op, pp] [b, c] = false := plain_marks hc pp
  have imp : ∀ σ H Q, tVal T xf W true (chain o p sa sb sc') σ H Q → L2.tChain (rSem T (op2 o)) (rSem T (op2 p)) (tVal T xf W ra sa.val) (tVal T xf W rb sb.val) (tVal T xf W rc sc'.val) σ H Q := by
    intro σ H Q ⟨env, st, ρ, Ow, en, sr, p0⟩
    refine ⟨env, st, ρ, Ow, en, sr, (Post.bind p0).mono fun d st1 H1 ρ1 e1 s1 q v r1 => ?_⟩
    refine ⟨env, st1, ρ1, Ow, en.ext e1 sr.disj, s1, (Post.bind q).mono fun d2 st2 H2 ρ2 e2 s2 q2 v2 r2 => ?_⟩
    have q3 := Post.bind q2
    cases ho : op2 o st2 d d2 with
    | none => rw [ho] at q3; exact q3.elim
    | some dz =>
      rw [ho] at q3
      obtain ⟨k, rfl⟩ := cmp_bl h ho
      refine ⟨st2, ρ2, Ow, d, d2, _, s2, r1.w.ext e2, r2.w, ho, fun v3 H3 nw r3 => ?_⟩
      cases r3
      have s3 := nw.st s2
      have q4 := q3 H3 ρ2 (nw.ext ρ2) s3
      refine ⟨k, rfl, ?_⟩
      cases k with
      | true =>
        refine L2.iteT ⟨env, st2, ρ2, Ow, (en.ext e1 sr.disj).ext (e2.trans (nw.ext ρ2)) s1.disj, s3, (Post.bind q4).mono fun d4 st4 H4 ρ4 e4 s4 q5 v4 r4 => ?_⟩
        exact sem_of rfl s4 (r2.w.ext ((nw.ext ρ2).trans e4)) r4.w q5
      | false => exact L2.iteF (Post.ok s3 q4 _ (.bl false))
  refine ⟨PE.imp (L2.pe_chain (or_cmp C h) (or_cmp C h') ja.val jb.val jc.val hm) imp, ?_, fun tg => items_of C (PE.imp (L2.pe_chain (or_cmp C h) (or_cmp C h') ja.val jb.val jc.val hm) imp)⟩
  refine PT.imp (L2.pt_chain (or_cmp C h) (or_cmp C h') ja.val jb.val jc.val hm) fun σ H Q q => ?_
  refine imp σ H _ ?_
  obtain ⟨env, st, ρ, Ow, en, sr, p0⟩ := q
  refine ⟨env, st, ρ, Ow, en, sr, (Post.bind p0).eqn.mono fun d st1 H1 ρ1 e1 s1 q v r => ?_⟩
  have hk : ∃ k, d = .bl k := by
    have e := q.1
    unfold chain at e
    cases h1 : sa.val env st with
    | ok x t1 =>
      rw [h1] at e
      have e : ((sb.val env t1).bind fun y st => (O.of (op2 o st x y) st).bind fun r st => match r with
        | .bl true => (sc'.val env st).bind fun z st => .of (op2 p st y z) st
        | .bl false => .ok (.bl false) st
        | _ => .bad) = .ok d st1 := e
      cases h2 : sb.val env t1 with
      | ok y t2 =>
        rw [h2] at e
        have e : ((O.of (op2 o t2 x y) t2).bind fun r st => match r with
          | .bl true => (sc'.val env st).bind fun z st => .of (op2 p st y z) st
          | .bl false => .ok (.bl false) st
          | _ => .bad) = .ok d st1 := e
        cases h3 : op2 o t2 x y with
        | none => rw [h3] at e; cases e
        | some r =>
          rw [h3] at e
          obtain ⟨k, rfl⟩ := cmp_bl h h3
          cases k with
          | false => cases e; exact ⟨_, rfl⟩
          | true =>
            have e : ((sc'.val env t2).bind fun z st => .of (op2 p st y z) st) = .ok d st1 := e
            cases h4 : sc'.val env t2 with
            | ok z t3 =>
              rw [h4] at e
              have e : O.of (op2 p t3 y z) t3 = .ok d st1 := e
              cases h5 : op2 p t3 y z with
              | none => rw [h5] at e; cases e
              | some w => rw [h5] at e; cases e; exact cmp_bl h' h5
            | ex _ _ _ => rw [h4] at e; cases e
            | bad => rw [h4] at e; cases e
      | ex _ _ _ => rw [h2] at e; cases e
      | bad => rw [h2] at e; cases e
    | ex _ _ _ => rw [h1] at e; cases e
    | bad => rw [h1] at e; cases e
  obtain ⟨k, rfl⟩ := hk
  cases r
  exact ⟨k, rfl, Post.ok s1 q.2⟩
end
end G
namespace G
open PySem PySem.Spec PyProof.Rows
open L2 (V Hp HO upd SqL SqT Rd VK TE TT TA TI WX XK Cx PE PT PA PI Inv OpR CallR RelV Vals R2 PC PW)
def rBi (T : Tb) (f : Store → List D → Option D) : List V → Hp → VK → Prop := fun vs H Q => ∃ st ρ Ow ds dz, StR T H ρ Ow st ∧ RWs T H ρ Ow vs ds ∧ f st ds = some dz ∧ ∀ v H', New1 H H' → RV T H' ρ Ow v dz → Q v H'
section
variable {T : Tb} {H : Hp} {ρ Ow : List Addr} {st : Store}
theorem RWs.one {vs : List V} {d : D} (r : RWs T H ρ Ow vs [d]) : ∃ v, vs = [v] ∧ RW T H ρ Ow v d := by
  cases r with
  | cons r rs => cases rs; exact ⟨_, rfl, r⟩
theorem RWs.two {vs : List V} {d e : D} (r : RWs T H ρ Ow vs [d, e]) : ∃ v w, vs = [v, w] ∧ RW T H ρ Ow v d ∧ RW T H ρ Ow w e := by
  cases r with
  | cons r rs => obtain ⟨w, rfl, r2⟩ := rs.one; exact ⟨_, _, rfl, r, r2⟩
theorem ints_vals : ∀ {xs : List D} {vs : List V} {is : List Int}, G.dInts xs = some is → RVs T H ρ Ow vs xs → vs = is.map V.int
  | [], _, _, h, .nil => by cases h; rfl
  | .int i :: r, _, is, h, .cons q rs => by
    have h' : (G.dInts r).map (i :: ·) = some is := h
    rw [Option.map_eq_some_iff] at h'
    obtain ⟨js, h1, rfl⟩ := h'
    cases q
    rw [ints_vals h1 rs]; rfl
theorem bls_vals : ∀ {xs : List D} {vs : List V} {bs : List Bool}, G.bls xs = some bs → RVs T H ρ Ow vs xs → vs = bs.map V.bl
  | [], _, _, h, .nil => by cases h; rfl
  | .bl i :: r, _, is, h, .cons q rs => by
    have h' : (G.bls r).map (i :: ·) = some is := h
    rw [Option.map_eq_some_iff] at h'
    obtain ⟨js, h1, rfl⟩ := h'
    cases q
    rw [bls_vals h1 rs]; rfl
theorem rvs_ints : ∀ is : List Int, RVs T H ρ Ow (is.map V.int) (is.map D.int)
  | [] => .nil
  | i :: r => .cons (.int i) (rvs_ints r)
end
theorem maxI_ok : ∀ {xs : List Int} {m : Int}, maxI xs = some m → m ∈ xs ∧ ∀ y ∈ xs, y ≤ m
  | [], _, h => by cases h
  | [x], m, h => by cases h; simp
  | x :: y :: r, m, h => by
    have h' : (maxI (y :: r)).map (fun m => if m < x then x else m) = some m := h
    rw [Option.map_eq_some_iff] at h'
    obtain ⟨k, hk, rfl⟩ := h'
    obtain ⟨h1, h2⟩ := maxI_ok hk
    split
    · refine ⟨by simp, fun z hz => ?_⟩
      rcases List.mem_cons.mp hz with rfl | hz
      · omega
      · have := h2 z hz; omega
    · refine ⟨List.mem_cons_of_mem _ h1, fun z hz => ?_⟩
      rcases List.mem_cons.mp hz with rfl | hz
      · omega
      · exact h2 z hz
theorem minI_ok : ∀ {xs : List Int} {m : Int}, minI xs = some m → m ∈ xs ∧ ∀ y ∈ xs, m ≤ y
  | [], _, h => by cases h
  | [x], m, h => by cases h; simp
  | x :: y :: r, m, h => by
    have h' : (minI (y :: r)).map (fun m => if x < m then x else m) = some m := h
    rw [Option.map_eq_some_iff] at h'
    obtain ⟨k, hk, rfl⟩ := h'
    obtain ⟨h1, h2⟩ := minI_ok hk
    split
    · refine ⟨by simp, fun z hz => ?_⟩
      rcases List.mem_cons.mp hz with rfl | hz
      · omega
      · have := h2 z hz; omega
    · refine ⟨List.mem_cons_of_mem _ h1, fun z hz => ?_⟩
      rcases List.mem_cons.mp hz with rfl | hz
      · omega
      · exact h2 z hz
theorem sorted_uniq {xs ys : List Int} (p : ys.Perm xs) (s : ys.Pairwise (· ≤ ·)) : ys = xs.mergeSort leI := by
  have h1 : (xs.mergeSort leI).Perm xs := List.mergeSort_perm xs leI
  have h2 : (xs.mergeSort leI).Pairwise (fun a b => leI a b = true) := List.pairwise_mergeSort (fun a b c h1 h2 => by simp [leI] at *; omega) (fun a b => by simp [leI]; omega) xs
  refine List.Perm.eq_of_pairwise (le := (· ≤ ·)) (fun a b _ _ h1 h2 => by omega) s ?_ (p.trans h1.symm)
  exact h2.imp fun h => by simpa [leI] using h
theorem intStr_eq (i : Int) : (PySem.Str.ofString (toString i)) = ⟨(intStr i).toArray⟩ := by
  rw [PySem.Str.ofString_eq_toList]
  congr 2
  cases i with
  | ofNat n => show (Nat.repr n).toList.map Char.toNat = _; simp [Nat.repr, intStr, natStr]
  | negSucc n => show ("-" ++ Nat.repr (n + 1)).toList.map Char.toNat = _; simp [Nat.repr, intStr, natStr]
section
variable {X : Cx} {T : Tb}
theorem cr_len (hK : X.K = T.K) : CallR X (.builtin "len") (rBi T (bi .len)) := by
  intro pins s σ H xs us Q I r ⟨st, ρ, Ow, ds, dz, sr, rs, e, k⟩
  refine L2.call_len pins s σ H xs us Q I r ?_
  match ds, rs, e with
  | [.str x], rs, e =>
    cases e
    obtain ⟨v, rfl, r1⟩ := rs.one
    obtain ⟨rfl, z, c⟩ := r1.u.str
    exact ⟨_, _, rfl, ⟨by rw [← lim_line]; simpa [Str.length] using z, rfl⟩, by simpa [Str.length] using k _ _ (.inl rfl) (.int _)⟩
  | [.tup x], rs, e => exact seq_len sr k (by rfl) e rs
  | [.lst x], rs, e => exact seq_len sr k (by rfl) e rs
  | [.fl x], rs, e => exact seq_len sr k (by rfl) e rs
  | [.loc x], rs, e => exact seq_len sr k (by rfl) e rs
  | [.non], rs, e => cases e
  | [.bl _], rs, e => cases e
  | [.int _], rs, e => cases e
  | [.dct _ _], rs, e => cases e
  | [.obj _ _], rs, e => cases e
  | [.exc _ _], rs, e => cases e
  | [.cls _], rs, e => cases e
  | [], rs, e => cases e
  | a :: b :: r, rs, e => cases a <;> cases e
where
  seq_len {st : Store} {H : Hp} {ρ Ow : List Addr} {xs : List V} {d dz : D} {Q : VK} (sr : StR T H ρ Ow st) (k : ∀ v H', New1 H H' → RV T H' ρ Ow v dz → Q v H') (hb : bi .len st [d] = (seqv st d).map fun xs => D.int xs.length) (e : bi .len st [d] = some dz) (rs : RWs T H ρ Ow xs [d]) :
      ∃ x n, xs = [x] ∧ L2.LenV X.K x H n ∧ Q (.int n) H := by
    rw [hb, Option.map_eq_some_iff] at e
    obtain ⟨ys, hy, rfl⟩ := e
    obtain ⟨v, rfl, r1⟩ := rs.one
    obtain ⟨a, vs, rfl, q, z, r2⟩ := r1.seq sr hy
    refine ⟨_, ys.length, rfl, ?_, k _ _ (.inl rfl) (.int _)⟩
    rcases q with q | q
    · exact .inl ⟨vs, by rw [hK]; exact q, r2.length.symm⟩
    · exact .inr ⟨vs, by rw [hK]; exact q, r2.length.symm⟩
end
end G
namespace G
open PySem PySem.Spec PyProof.Rows
open L2 (V Hp HO upd SqL SqT Rd VK XK TE TT TA TI TS Ends WX Cx PE PT PA PI PS PSs Inv OpR CallR RelV Vals R2 PC PW)
section
variable {T : Tb} {H H' H1 H2 : Hp} {ρ ρ' ρ1 ρ2 Ow Ow' Ow1 Ow2 Ow0 : List Addr} {σ : L2.St} {env : Env} {st st' : Store}
end
def tStm (w : WS) (f : StS) : TS := fun Z σ H => ∃ env st ρ Ow, Fr w.T w.Ow0 H ρ Ow σ env st ∧ PostR w H ρ Ow Z (f env st)
section
variable {w : WS} {H H' H1 : Hp} {ρ ρ' ρ1 Ow Ow' Ow1 : List Addr} {σ : L2.St} {env : Env} {st st' : Store} {Z : Ends}
end
theorem PostR.run0 {w : WS} {H : Hp} {ρ Ow : List Addr} {σ : L2.St} {env : Env} {st : Store} {Z : Ends} {α : Type} {o : O α} {f : α → Store → R} (fr : Fr w.T w.Ow0 H ρ Ow σ env st) (h : PostR w H ρ Ow Z (o.run env f)) :
    Post (w.o σ) H ρ Ow (fun a st1 H1 ρ1 => Fr w.T w.Ow0 H1 ρ1 Ow σ env st1 ∧ PostR w H ρ Ow Z (f a st1)) o := by
  cases o with
  | ok a st1 => exact fun H1 ρ1 e s => ⟨fr.ext e s, h⟩
  | ex c fs st1 => exact fun cls dx H1 ρ1 e s x => h cls dx σ H1 ρ1 Ow (fr.step e) (fr.ext e s) x
  | bad => exact h
def JS (X : Cx) (w : WS) (s : Stmt) (f : StS) : Prop := PS X s (tStm w f)
def JSs (X : Cx) (w : WS) (s : List Stmt) (f : StS) : Prop := PSs X s (tStm w f)
section
variable {X : Cx} {w : WS} {N : List PySem.Str} {sc : Scope} {n : Nat} {e a b c : Expr} {pos : Pos} {se sc' : Sem} {str : Bool}
theorem jss_bad {s : List Stmt} : JSs X w s fun _ _ => .bad := ⟨fun _ _ _ _ _ _ ⟨_, _, _, _, _, p⟩ => p.elim⟩
theorem js_pass : JS X w (.Pass pos) fun env st => .nx env st := PS.imp L2.ps_pass fun D σ H ⟨env, st, ρ, Ow, f, p⟩ => p σ H ρ Ow f.refl f
theorem run_val {f : D → Store → R} {σ : L2.St} {H : Hp} {Z : Ends} {Q : VK} (i : ∀ (env : Env) (st : Store) (d : D) (v : V) (H : Hp) (ρ Ow : List Addr), Fr w.T w.Ow0 H ρ Ow σ env st → RX str w.T H ρ Ow v d → PostR w H ρ Ow Z (f d st) → Q v H) {env : Env} {st : Store} {ρ Ow : List Addr}
    (fr : Fr w.T w.Ow0 H ρ Ow σ env st) (p : PostR w H ρ Ow Z ((se.val env st).run env f)) : tVal w.T w.xf w.W str se.val σ H Q :=
  ⟨env, st, ρ, Ow, fr.en, fr.sr, (PostR.run fr p).mono fun d st1 H1 ρ1 e1 s1 q v r => i env st1 d v H1 ρ1 Ow q.1 r q.2⟩
theorem js_ret (hw : w.fre = false) (j : JE X w.T w.xf w.W e se true) : JS X w (.Return (some e) pos) fun env st => (se.val env st).run env fun d st => .rt d st :=
  PS.imp (L2.ps_ret j.val) fun D σ H ⟨env, st, ρ, Ow, f, p⟩ => run_val (f := fun d st => .rt d st) (fun env st d v H ρ Ow f r p => p v H ρ Ow f.refl f.sr (RV.rt hw r)) f p
def noComp : Expr → Bool
  | .ListComp .. => false
  | .SetComp .. => false
  | .DictComp .. => false
  | _ => true
theorem noComp_swaps {e : Expr} (h : noComp e = true) (t : Option Expr) (l : Nat) (env : PySem.Env) : swapsWith e t l env = pure false := by
  cases e <;> first | rfl | cases h
theorem js_ex (h : noComp e = true) (j : JE X w.T w.xf w.W e se str) : JS X w (.Expr e pos) fun env st => (se.val env st).run env fun _ st => .nx env st :=
  PS.imp (L2.ps_expr j.val (noComp_swaps h _ _ _)) fun D σ H ⟨env, st, ρ, Ow, f, p⟩ => by
    exact ⟨env, st, ρ, Ow, f.en, f.sr, (PostR.run f p).mono fun d st1 H1 ρ1 e1 s1 q v r => q.2 σ H1 ρ1 Ow q.1.refl q.1⟩
theorem js_if {p q : List Stmt} {fa fb : StS} (jc : JE X w.T w.xf w.W c sc' str) (ja : JSs X w p fa) (jb : JSs X w q fb) : JS X w (.If c p q pos) fun env st => (sc'.test env st).run env fun t st => if t then fa env st else fb env st :=
  PS.imp (L2.ps_if jc.test ja jb) fun D σ H ⟨env, st, ρ, Ow, f, p⟩ => by
    refine ⟨env, st, ρ, Ow, f.en, f.sr, (PostR.run f p).mono fun t st1 H1 ρ1 e1 s1 q => ?_⟩
    cases t with
    | true => exact ⟨env, st1, ρ1, Ow, q.1, q.2⟩
    | false => exact ⟨env, st1, ρ1, Ow, q.1, q.2⟩
theorem jss_nil : JSs X w [] fun env st => .nx env st := PSs.imp L2.pss_nil fun Z σ H ⟨env, st, ρ, Ow, f, p⟩ => p σ H ρ Ow f.refl f
theorem jss_cons {s : Stmt} {ss : List Stmt} {f g : StS} (j : JS X w s f) (js : JSs X w ss g) : JSs X w (s :: ss) fun env st => seqR (f env st) g :=
  PSs.imp (L2.pss_cons j js) fun Z σ H ⟨env, st, ρ, Ow, fr, p⟩ => by
    refine ⟨env, st, ρ, Ow, fr, ?_⟩
    have p : PostR w H ρ Ow Z (seqR (f env st) g) := p
    cases e : f env st with
    | nx env1 st1 =>
      rw [e] at p
      exact fun σ' H' ρ' Ow' s f' => ⟨env1, st1, ρ', Ow', f', PostR.later s p⟩
    | bk env1 st1 => rw [e] at p; exact p
    | ct env1 st1 => rw [e] at p; exact p
    | rt d st1 => rw [e] at p; exact p
    | ex env1 c fs st1 => rw [e] at p; exact p
    | bad => rw [e] at p; exact p
end
end G
namespace G
open PySem PySem.Spec PyProof.Rows
open L2 (V Hp HO upd SqL SqT Rd VK XK TE TT TA TI TS TG TGs Ends WX Cx PE PT PA PI PS PSs PG PGs Inv OpR CallR RelV Vals R2 PC PW)
section
variable {T : Tb} {H H' H1 H2 : Hp} {ρ ρ' ρ1 ρ2 Ow Ow' Ow1 Ow2 Ow0 : List Addr} {σ : L2.St} {env : Env} {st st' : Store}
theorem Fr.setOwn (f : Fr T Ow0 H ρ Ow σ env st) {a : Addr} {vs : List V} {xs : List D} (i : Nat) (m : a ∈ Ow) (n : a ∉ Ow0) (h : H a = some (.lst vs)) (z : vs.length ≤ LIM) (rs : RVs T H ρ Ow vs xs)
    (ap : ∀ (j : Nat) (ys : List D), j ≠ i → env[j]? = some (.own ys) → σ[j]? ≠ some (some (.ref a))) : Fr T Ow0 H ρ Ow (σ.set i (some (.ref a))) (env.set i (.own xs)) st := by
  refine ⟨⟨by simp [f.en.len], fun j s h1 => ?_, fun j k xs' ys b h1 h2 h3 h4 => ?_⟩, f.sr, f.sub, fun j ys b h1 h2 => ?_⟩
  · by_cases hj : i = j
    · subst hj
      have hi : i < env.length := by
        have := (List.getElem?_eq_some_iff.mp h1).1
        simpa using this
      rw [List.getElem?_set_self hi] at h1
      cases h1
      rw [List.getElem?_set_self (by rw [← f.en.len]; exact hi)]
      exact ⟨m, vs, h, z, rs⟩
    · rw [List.getElem?_set_ne hj] at h1
      rw [List.getElem?_set_ne hj]
      exact f.en.at_ j s h1
  · by_cases e1 : i = j
    · by_cases e2 : i = k
      · rw [← e1, ← e2]
      · subst e1
        have hi : i < env.length := by
          have := (List.getElem?_eq_some_iff.mp h1).1
          simpa using this
        rw [List.getElem?_set_self (by rw [← f.en.len]; exact hi)] at h3
        cases h3
        rw [List.getElem?_set_ne e2] at h2 h4
        exact absurd h4 (ap k ys (Ne.symm e2) h2)
    · by_cases e2 : i = k
      · subst e2
        have hi : i < env.length := by
          have := (List.getElem?_eq_some_iff.mp h2).1
          simpa using this
        rw [List.getElem?_set_self (by rw [← f.en.len]; exact hi)] at h4
        cases h4
        rw [List.getElem?_set_ne e1] at h1 h3
        exact absurd h3 (ap j xs' (Ne.symm e1) h1)
      · rw [List.getElem?_set_ne e1] at h1 h3
        rw [List.getElem?_set_ne e2] at h2 h4
        exact f.en.apart j k xs' ys b h1 h2 h3 h4
  · by_cases hj : i = j
    · subst hj
      have hi : i < env.length := by
        have := (List.getElem?_eq_some_iff.mp h1).1
        simpa using this
      rw [List.getElem?_set_self (by rw [← f.en.len]; exact hi)] at h2
      cases h2
      exact n
    · rw [List.getElem?_set_ne hj] at h1 h2
      exact f.out j ys b h1 h2
theorem Keeps.upd {a : Addr} {o : HO} (m : a ∈ Ow) (hf : ∀ ob u, H a ≠ some (.frz ob u)) : Keeps H ρ Ow (upd H a o) ρ Ow := ⟨fun b u h n1 n2 => ⟨by rw [L2.upd_ne fun e => n2 (by rw [e]; exact m)]; exact h, n1, n2⟩, ⟨[], by simp⟩, fun b ob u h => by rw [L2.upd_ne fun e => hf ob u (by rw [← e]; exact h)]; exact h⟩
theorem Fr.updOwn (f : Fr T Ow0 H ρ Ow σ env st) {i : Nat} {xs ys : List D} {a : Addr} {us : List V} (e : env[i]? = some (.own xs)) (hσ : σ[i]? = some (some (.ref a))) (z : us.length ≤ LIM) (rs : RVs T H ρ Ow us ys) :
    Step Ow0 H ρ Ow (upd H a (.lst us)) ρ Ow ∧ Fr T Ow0 (upd H a (.lst us)) ρ Ow σ (env.set i (.own ys)) st := by
  obtain ⟨a', vs, h1, m, h2, z2, rs2⟩ := f.en.own e
  rw [hσ] at h1; cases h1
  have n0 := f.out i xs a e hσ
  have k : Keeps H ρ Ow (upd H a (.lst us)) ρ Ow := Keeps.upd m fun ob u z => by rw [h2] at z; cases z
  have hn : a ∉ ρ := f.sr.disj a m
  have keepρ : ∀ b ∈ ρ, upd H a (.lst us) b = H b := fun b hb => L2.upd_ne fun e => hn (by rw [← e]; exact hb)
  have hl : ∀ b ∈ Ow, ∃ vs, upd H a (.lst us) b = some (.lst vs) := fun b hb => by
    by_cases e : b = a
    · exact ⟨us, by rw [e, L2.upd_same]⟩
    · obtain ⟨vs, q⟩ := f.sr.lists b hb
      exact ⟨vs, by rw [L2.upd_ne e]; exact q⟩
  refine ⟨⟨k, fun b hb => ⟨L2.upd_ne fun e => n0 (by rw [← e]; exact hb), f.sub b hb⟩⟩, ?_⟩
  have hi : i < env.length := (List.getElem?_eq_some_iff.mp e).1
  refine ⟨⟨by simp [f.en.len], fun j s h => ?_, fun j k' xs' ys' b h1 h2 h3 h4 => ?_⟩, ⟨f.sr.len, f.sr.nd, f.sr.apart, hl, fun l b ob h1 h2 => (f.sr.at_ l b ob h1 h2).keeps k f.sr.lists (keepρ b (List.mem_of_getElem? h1)), fun i q h => ⟨(f.sr.tab i q h).1, (f.sr.tab i q h).2.keeps k f.sr.lists (keepρ _ (List.mem_of_getElem? (f.sr.tab i q h).1))⟩⟩, f.sub, fun j zs b h1 h2 => ?_⟩
  · by_cases hj : i = j
    · subst hj
      rw [List.getElem?_set_self hi] at h
      cases h
      rw [hσ]
      exact ⟨m, us, L2.upd_same, z, rs.keeps k f.sr.lists⟩
    · rw [List.getElem?_set_ne hj] at h
      have q := f.en.at_ j s h
      cases s with
      | em =>
        cases hs : σ[j]? with
        | none => trivial
        | some o => cases o <;> trivial
      | v d =>
        cases hs : σ[j]? with
        | none => rw [hs] at q; exact q.elim
        | some o =>
          rw [hs] at q
          cases o with
          | none => exact q.elim
          | some v =>
            have q' : RV T H ρ Ow v d := q
            exact q'.keeps k f.sr.lists
      | own zs =>
        obtain ⟨b, ws, g1, g2, g3, g4, g5⟩ := f.en.own h
        rw [g1]
        have ne : b ≠ a := fun eb => by
          subst eb
          exact hj (f.en.apart i j xs zs b e h hσ g1)
        exact ⟨g2, ws, by rw [L2.upd_ne ne]; exact g3, g4, g5.keeps k f.sr.lists⟩
      | xc c fs =>
        obtain ⟨b, dx, fl, g1, g2, g3⟩ := f.en.xc h
        rw [g1]
        exact ⟨dx, fl, g2, g3.keeps k f.sr.lists⟩
  · have old : ∀ (j : Nat) (zs : List D), (env.set i (.own ys))[j]? = some (.own zs) → ∃ zs', env[j]? = some (.own zs') := fun j zs h => by
      by_cases hj : i = j
      · subst hj; exact ⟨xs, e⟩
      · rw [List.getElem?_set_ne hj] at h; exact ⟨zs, h⟩
    obtain ⟨z1, q1⟩ := old j xs' h1
    obtain ⟨z2, q2⟩ := old k' ys' h2
    exact f.en.apart j k' z1 z2 b q1 q2 h3 h4
  · by_cases hj : i = j
    · subst hj
      rw [hσ] at h2; cases h2
      exact n0
    · rw [List.getElem?_set_ne hj] at h1
      exact f.out j zs b h1 h2
theorem Fr.updSt (f : Fr T Ow0 H ρ Ow σ env st) {l : Nat} {a : Addr} {o : HO} {ob : Obj} (ha : ρ[l + T.tabs.length]? = some a) (hf : ∀ ob u, H a ≠ some (.frz ob u)) (r : ObR T (upd H a o) ρ Ow l a ob) :
    Step Ow0 H ρ Ow (upd H a o) ρ Ow ∧ Fr T Ow0 (upd H a o) ρ Ow σ env (st.set l ob) := by
  have m : a ∈ ρ := List.mem_of_getElem? ha
  have e : Ext H ρ (upd H a o) ρ := Ext.set m hf
  refine ⟨f.step e, f.ext e ⟨by simp [f.sr.len], f.sr.nd, f.sr.apart, fun b hb => ?_, fun j b ob' h1 h2 => ?_, fun i q h => ?_⟩⟩
  · obtain ⟨vs, q⟩ := f.sr.lists b hb
    exact ⟨vs, by rw [L2.upd_ne fun e => f.sr.apart a m (by rw [← e]; exact hb)]; exact q⟩
  · by_cases hj : l = j
    · subst hj
      rw [ha] at h1; cases h1
      have hl : l < st.length := by
        have := (List.getElem?_eq_some_iff.mp h2).1
        simpa using this
      rw [List.getElem?_set_self hl] at h2
      cases h2
      exact r
    · rw [List.getElem?_set_ne hj] at h2
      have ne : b ≠ a := fun eb => by
        subst eb
        have p1 := List.getElem?_eq_some_iff.mp ha
        have p2 := List.getElem?_eq_some_iff.mp h1
        have := (List.getElem_inj f.sr.nd).mp (p1.2.trans p2.2.symm)
        omega
      exact (f.sr.at_ j b ob' h1 h2).ext e (L2.upd_ne ne)
  · obtain ⟨h1, h2⟩ := f.sr.tab i q h
    refine ⟨h1, h2.ext e (L2.upd_ne fun eb => ?_)⟩
    rw [eb] at h1
    have p1 := List.getElem?_eq_some_iff.mp ha
    have p2 := List.getElem?_eq_some_iff.mp h1
    have p3 := (List.getElem?_eq_some_iff.mp h).1
    have := (List.getElem_inj f.sr.nd).mp (p1.2.trans p2.2.symm)
    omega
end
end G
namespace G
open PySem PySem.Spec PyProof.Rows
open L2 (V Hp HO upd SqL SqT Rd VK XK TE TT TA TI TS TG TGs Ends WX Cx PE PT PA PI PS PSs PG PGs Inv OpR CallR RelV Vals R2 PC PW)
section
variable {T : Tb} {H H' H1 H2 : Hp} {ρ ρ' ρ1 ρ2 Ow Ow' Ow1 Ow2 Ow0 : List Addr} {σ : L2.St} {env : Env} {st st' : Store}
theorem EnR.newOw (en : EnR T H ρ Ow σ env) (sr : StR T H ρ Ow st) {p : Addr} {vs : List V} (hp : H p = none) : EnR T (upd H p (.lst vs)) ρ (p :: Ow) σ env := by
  have en' := en.ext (Ext.new (ρ := ρ) (o := .lst vs) hp) sr.disj
  refine ⟨en.len, fun i s h => ?_, en.apart⟩
  have q0 := en.at_ i s h
  have q := en'.at_ i s h
  cases s with
  | em => cases hs : σ[i]? with
    | none => trivial
    | some o => cases o <;> trivial
  | v d =>
    cases hs : σ[i]? with
    | none => rw [hs] at q; exact q.elim
    | some o =>
      rw [hs] at q q0
      cases o with
      | none => exact q.elim
      | some v =>
        have r0 : RV T H ρ Ow v d := q0
        exact (r0.new hp).ext (Ext.new hp)
  | own ds =>
    obtain ⟨a, ws, g1, g2, g3, g4, g5⟩ := en.own h
    rw [g1]
    exact ⟨List.mem_cons_of_mem _ g2, ws, by rw [L2.upd_ne (L2.ne_of_none g3 hp)]; exact g3, g4, (g5.new hp).ext (Ext.new hp)⟩
  | xc c fs =>
    obtain ⟨a, dx, fl, g1, g2, g3⟩ := en.xc h
    rw [g1]
    refine ⟨dx, fl, g2, (g3.ow fun a h _ n hm => ?_).ext (Ext.new hp)⟩
    rcases List.mem_cons.mp hm with e | hm
    · rw [e] at h; exact h hp
    · exact n hm
theorem Fr.newOw (f : Fr T Ow0 H ρ Ow σ env st) {p : Addr} {vs : List V} (hp : H p = none) :
    Step Ow0 H ρ Ow (upd H p (.lst vs)) ρ (p :: Ow) ∧ Fr T Ow0 (upd H p (.lst vs)) ρ (p :: Ow) σ env st ∧ p ∉ Ow0 := by
  have n0 : p ∉ Ow0 := fun h => (f.sr.fresh hp).2 (f.sub p h)
  refine ⟨⟨⟨fun a o h n1 n2 => ⟨by rw [L2.upd_ne (L2.ne_of_none h hp)]; exact h, n1, fun hm => ?_⟩, ⟨[], by simp⟩, fun a ob u h => by rw [L2.upd_ne (L2.ne_of_none h hp)]; exact h⟩, fun a ha => ⟨L2.upd_ne fun e => n0 (by rw [← e]; exact ha), List.mem_cons_of_mem _ (f.sub a ha)⟩⟩,
    ⟨f.en.newOw f.sr hp, f.sr.newOw hp, fun a ha => List.mem_cons_of_mem _ (f.sub a ha), f.out⟩, n0⟩
  rcases List.mem_cons.mp hm with e | hm
  · exact L2.ne_of_none h hp e
  · exact n2 hm
theorem Fr.slotNe (f : Fr T Ow0 H ρ Ow σ env st) {p : Addr} (hp : H p = none) (j : Nat) (ys : List D) (h : env[j]? = some (.own ys)) : σ[j]? ≠ some (some (.ref p)) := fun e => by
  obtain ⟨a, ws, g1, g2, g3, g4, g5⟩ := f.en.own h
  rw [e] at g1; cases g1
  rw [hp] at g3; cases g3
end
def tFre (T : Tb) (xf : Nat → List Nm) (W : WX) (f : Env → Store → O D) : TE := fun σ H Q => At T xf W f (fun d ρ Ow H' => ∃ xs, d = .lst xs ∧ ∀ p vs, H' p = none → RVs T H' ρ Ow vs xs → vs.length ≤ LIM → Q (.ref p) (upd H' p (.lst vs))) σ H
def JF (X : Cx) (T : Tb) (xf : Nat → List Nm) (W : WX) (e : Expr) (s : Sem) : Prop := PE X e (tFre T xf W s.val)
theorem PostR.only {w : WS} {H : Hp} {ρ Ow : List Addr} {Z : Ends} {r : R} (h : r.pl = true) (p : PostR w H ρ Ow Z r) : PostR w H ρ Ow (onlyNx Z.nx) r := by
  cases r with
  | nx env st => exact p
  | ex env c fs st => exact p
  | bad => exact p
  | rt d st => cases h
  | bk env st => cases h
  | ct env st => cases h
section
variable {X : Cx} {w : WS} {N : List PySem.Str} {sc : Scope} {n : Nat} {e a b c tg : Expr} {pos pos' : Pos} {se sa sb : Sem} {str : Bool} {x : PySem.Str} {i : Nat}
theorem swapped_none {tg e : Expr} {env : PySem.Env} (h : isTup tg = false ∨ isTup e = false) : swappedStores [tg] e env = pure none := by
  rcases h with h | h
  · cases tg <;> first | (cases e <;> rfl) | cases h
  · cases e <;> first | (cases tg <;> rfl) | cases h
theorem js_asg {f : D → StS} (hc : swapsWith e (some tg) pos.line X.env = pure false) (ht : isTup tg = false ∨ isTup e = false) (he : (assignEach [tg] X.env).map (·.2) = [assign tg X.env]) (j : JE X w.T w.xf w.W e se true) (t : JT X w tg f) :
    JS X w (.Assign [tg] e pos) fun env st => (se.val env st).run env fun d st => f d env st :=
  PS.imp (L2.ps_asg j.val t.run (show swapsWithSole [tg] e pos.line X.env = pure false from hc) (swapped_none ht) he) fun Z σ H ⟨env, st, ρ, Ow, fr, p⟩ =>
    ⟨env, st, ρ, Ow, fr.en, fr.sr, (PostR.run fr p).mono fun d st1 H1 ρ1 e1 s1 q v r => ⟨env, st1, ρ1, Ow, d, q.1, r, q.2.only (t.pl _ _ _)⟩⟩
theorem js_own (h : NmL X x i) (hc : swapsWith e (some (.Name x pos')) pos.line X.env = pure false) (j : JF X w.T w.xf w.W e se) :
    JS X w (.Assign [.Name x pos'] e pos) fun env st => (se.val env st).run env fun d st => ownR i d env st :=
  PS.imp (L2.ps_asg j (L2.pg_name h.nd h.at_ h.loc h.fn) (show swapsWithSole [.Name x pos'] e pos.line X.env = pure false from hc) (swapped_none (.inl rfl)) (by rfl)) fun Z σ H ⟨env, st, ρ, Ow, fr, p⟩ => by
    refine ⟨env, st, ρ, Ow, fr.en, fr.sr, (PostR.run fr p).mono fun d st1 H1 ρ1 e1 s1 q => ?_⟩
    obtain ⟨f1, q⟩ := q
    cases d with
    | lst xs =>
      refine ⟨xs, rfl, fun p vs hp rs z => ?_⟩
      obtain ⟨g1, g2, g3⟩ := f1.newOw (vs := vs) hp
      exact q _ _ _ _ g1 (g2.setOwn i (List.mem_cons_self) g3 L2.upd_same z ((rs.new hp).ext (Ext.new hp)) fun j ys _ h => f1.slotNe hp j ys h)
    | _ => exact q.elim
theorem jf_lst {es : List Expr} {ss : List Sem} {T : Tb} {xf : Nat → List Nm} {W : WX} (hs : ss.length ≤ 1000) (js : JEs X T xf W es ss) :
    JF X T xf W (.List es pos) (Sem.of (many ss fun ds st => .ok (.lst ds) st)) :=
  PE.imp (L2.pe_lst (pa_args js)) fun σ H Q ⟨env, st, ρ, Ow, en, sr, p⟩ => by
    refine ⟨env, st, ρ, Ow, en, sr, (Post.bind p).eqn.mono fun ds st1 H1 ρ1 e1 s1 q vs rs => ?_⟩
    have hz : vs.length ≤ LIM := lim_k (by rw [rs.length, args_len q.1]; exact hs)
    obtain ⟨xs, e2, q2⟩ := Post.ok s1 q.2
    cases e2
    exact ⟨lim_len hz, fun p hp => q2 p vs hp rs hz⟩
inductive JOs (X : Cx) (T : Tb) (xf : Nat → List Nm) (W : WX) : List Bool → List Expr → List Sem → Prop
  | nil : JOs X T xf W [] [] []
  | val {fl : List Bool} {e : Expr} {s : Sem} {es : List Expr} {ss : List Sem} (h : plainE e = true) (j : JE X T xf W e s true) (js : JOs X T xf W fl es ss) : JOs X T xf W (false :: fl) (e :: es) (s :: ss)
  | own {fl : List Bool} {e : Expr} {s : Sem} {es : List Expr} {ss : List Sem} (h : plainE e = true) (j : JF X T xf W e s) (sh : ∀ env st d st', s.val env st = .ok d st' → ∃ xs, d = .lst xs) (js : JOs X T xf W fl es ss) : JOs X T xf W (true :: fl) (e :: es) (s :: ss)
end
section
variable {T : Tb} {H H' H1 H2 : Hp} {ρ ρ' ρ1 ρ2 Ow Ow' Ow1 Ow2 Ow0 : List Addr} {σ : L2.St} {env : Env} {st st' : Store}
theorem Post.shed {α : Type} {w : Wo} {H : Hp} {ρ Ow Ow' : List Addr} {Q : α → Store → Hp → List Addr → Prop} {o : O α} (hs : ∀ a ∈ Ow, a ∈ Ow') (h : Post w H ρ Ow Q o) : Post w H ρ Ow' Q o := by
  have less : ∀ {H' : Hp} {ρ' : List Addr} {st : Store}, StR w.T H' ρ' Ow' st → StR w.T H' ρ' Ow st := fun s => s.ow (fun a _ _ n h => n (hs a h)) (fun a ha hm => s.apart a ha (hs a hm)) fun a hm => s.lists a (hs a hm)
  cases o with
  | ok a st => exact fun H' ρ' e s => h H' ρ' e (less s)
  | ex c fs st =>
    intro cls dx H' ρ' e s x
    refine h cls dx H' ρ' e (less s) ⟨x.1, ?_⟩
    obtain ⟨_, x⟩ := x
    cases hx : w.xf c with
    | nil =>
      rw [hx] at x
      cases fs with
      | nil => cases dx with
        | none => trivial
        | some _ => exact x.elim
      | cons _ _ => exact x.elim
    | cons f r =>
      rw [hx] at x
      cases r with
      | cons _ _ => cases fs <;> exact x.elim
      | nil =>
        cases fs with
        | nil => exact x.elim
        | cons d r =>
          cases r with
          | cons _ _ => cases dx <;> exact x.elim
          | nil =>
            cases dx with
            | none => exact x.elim
            | some p =>
              obtain ⟨v, h1, h2, h3, h4⟩ := x
              exact ⟨v, h1, h2, fun h => h3 (hs p h), h4.ow fun a _ _ n h => n (hs a h)⟩
  | bad => exact h
end
def tOrg (T : Tb) (xf : Nat → List Nm) (W : WX) (fl : List Bool) (f : Env → Store → O (List D)) : TA := fun σ H Q => ∃ env st ρ Ow, EnR T H ρ Ow σ env ∧ StR T H ρ Ow st ∧
  Post ⟨T, xf, W, σ⟩ H ρ Ow (fun ds st2 H2 ρ2 => ∀ vs news more, (∀ a ∈ news, a ∈ more) → VO T H2 ρ2 (more ++ Ow) news fl vs ds → news.Nodup → (∀ a ∈ more, H a = none) → StR T H2 ρ2 (more ++ Ow) st2 → EnR T H2 ρ2 (more ++ Ow) σ env → Q vs H2) (f env st)
section
variable {X : Cx} {T : Tb} {xf : Nat → List Nm} {W : WX}
theorem pa_org : ∀ {fl : List Bool} {es : List Expr} {ss : List Sem}, JOs X T xf W fl es ss → PA X es (tOrg T xf W fl (args ss))
  | _, _, _, .nil => PA.imp L2.pa_nil fun σ H Q ⟨env, st, ρ, Ow, en, sr, p⟩ => Post.ok sr p [] [] [] (fun a h => h) .nil .nil (fun a h => by cases h) sr en
  | _, _, _, .val h j js => PA.imp (L2.pa_cons j.val (pa_org js) (plain_star h _ _)) fun σ H Q ⟨env, st, ρ, Ow, en, sr, p⟩ => by
    refine ⟨env, st, ρ, Ow, en, sr, (Post.bind p).mono fun d st1 H1 ρ1 e1 s1 q v r => ?_⟩
    refine ⟨env, st1, ρ1, Ow, en.ext e1 sr.disj, s1, (Post.bind q).mono fun ds st2 H2 ρ2 e2 s2 q2 vs news more hm rs nd nw s3 n3 => ?_⟩
    refine Post.ok s2 q2 _ _ more hm (.val ?_ rs) nd (fun a ha => ?_) s3 n3
    · have r1 : RV T H1 ρ1 Ow v d := r
      have r2 : RV T H1 ρ1 (more ++ Ow) v d := r1.ow fun a h1 _ n h2 => (List.mem_append.mp h2).elim (fun h2 => h1 (nw a h2)) n
      exact r2.ext e2
    · cases hH : H a with
      | none => rfl
      | some o =>
        by_cases hρ : a ∈ ρ
        · have h1 : a ∈ ρ2 := by
            obtain ⟨m1, x1⟩ := e1.pre
            obtain ⟨m2, x2⟩ := e2.pre
            rw [x2, x1]; simp [hρ]
          exact absurd (List.mem_append_left Ow ha) (s3.apart a h1)
        · have := nw a ha
          rw [e1.there hH hρ] at this; cases this
  | _, _, _, .own h j sh js => PA.imp (L2.pa_cons j (pa_org js) (plain_star h _ _)) fun σ H Q ⟨env, st, ρ, Ow, en, sr, p⟩ => by
    refine ⟨env, st, ρ, Ow, en, sr, (Post.bind p).eqn.mono fun d st1 H1 ρ1 e1 s1 q => ?_⟩
    obtain ⟨eq, q⟩ := q
    obtain ⟨xs, rfl⟩ := sh _ _ _ _ eq
    refine ⟨xs, rfl, fun p us hp rus z => ?_⟩
    have en1 := en.ext e1 sr.disj
    have ep := Ext.new (ρ := ρ1) (o := HO.lst us) hp
    refine ⟨env, st1, ρ1, p :: Ow, en1.newOw s1 hp, s1.newOw hp, ((Post.bind q).later ep |>.shed (fun a ha => List.mem_cons_of_mem p ha)).mono fun ds st2 H2 ρ2 e2 s2 q2 vs news more hm rs nd nw s3 n3 => ?_⟩
    have mv : ∀ a, a ∈ more ++ p :: Ow → a ∈ (more ++ [p]) ++ Ow := fun a h => by simpa using h
    have mv' : (more ++ [p]) ++ Ow = more ++ p :: Ow := by simp
    have hpOw : p ∈ more ++ p :: Ow := by simp
    have hpn : p ∉ ρ2 := s3.disj p hpOw
    have hpH : H2 p = some (.lst us) := by
      have := e2.keep p _ (L2.upd_same) (fun h => by
        obtain ⟨o, q⟩ := s1.mem h
        rw [hp] at q; cases q)
      exact this.1
    have hnp : p ∉ news := fun h => by
      have := nw p (hm p h)
      rw [L2.upd_same] at this; cases this
    have s3' : StR T H2 ρ2 ((more ++ [p]) ++ Ow) st2 := by rw [mv']; exact s3
    have n3' : EnR T H2 ρ2 ((more ++ [p]) ++ Ow) σ env := by rw [mv']; exact n3
    have sOw : StR T H2 ρ2 Ow st2 := s3.ow (fun a _ _ n h => n (by simp [h])) (fun a ha hm' => s3.apart a ha (by simp [hm'])) fun a hm' => s3.lists a (by simp [hm'])
    refine Post.ok sOw q2 _ (p :: news) (more ++ [p]) (fun a ha => ?_) ?_ (List.nodup_cons.mpr ⟨hnp, nd⟩) (fun a ha => ?_) s3' n3'
    · rcases List.mem_cons.mp ha with e | ha
      · simp [e]
      · simp [hm a ha]
    · rw [mv']
      refine .own hpOw hpH z ?_ rs
      have r1 : RVs T (upd H1 p (.lst us)) ρ1 (p :: Ow) us xs := (rus.new hp).ext ep
      have r2 : RVs T (upd H1 p (.lst us)) ρ1 (more ++ p :: Ow) us xs := r1.ow fun a h1 _ n h2 => (List.mem_append.mp h2).elim (fun h2 => h1 (nw a h2)) n
      exact r2.ext e2
    · have sub : ∀ a, H1 a = none → a ∉ ρ2 → H a = none := fun a h1 h2 => by
        cases hH : H a with
        | none => rfl
        | some o =>
          by_cases hρ : a ∈ ρ
          · exfalso
            obtain ⟨m1, x1⟩ := e1.pre
            obtain ⟨m2, x2⟩ := e2.pre
            exact h2 (by rw [x2, x1]; simp [hρ])
          · rw [e1.there hH hρ] at h1; cases h1
      have hd : a ∉ ρ2 := s3'.disj a (List.mem_append_left _ ha)
      rcases List.mem_append.mp ha with ha | ha
      · have h1 := nw a ha
        have ne : a ≠ p := fun e => by rw [e, L2.upd_same] at h1; cases h1
        rw [L2.upd_ne ne] at h1
        exact sub a h1 hd
      · rw [List.mem_singleton.mp ha] at hd ⊢
        exact sub p hp hd
end
end G
namespace G
open PySem PySem.Spec PyProof.Rows
open L2 (V Hp HO upd SqL SqT Rd VK XK TE TT TA TI TS TG TGs Ends WX Cx PE PT PA PI PS PSs PG PGs Inv OpR CallR RelV Vals R2 PC PW)
def sigO : List (Bool × Nat) → List V → L2.St → L2.St
  | (_, i) :: ts, v :: vs, σ => sigO ts vs (σ.set i (some v))
  | _, _, σ => σ
section
variable {T : Tb} {H H' H1 H2 : Hp} {ρ ρ' ρ1 ρ2 Ow Ow' Ow1 Ow2 Ow0 : List Addr} {σ : L2.St} {env : Env} {st st' : Store}
theorem VO.put {news : List Addr} {fl : List Bool} {vs : List V} {ds : List D} (h : VO T H ρ Ow news fl vs ds) : ∀ {ts : List (Bool × Nat)} {σ : L2.St} {env : Env}, ts.map (·.1) = fl → Fr T Ow0 H ρ Ow σ env st → news.Nodup → (∀ a ∈ news, a ∉ Ow0) →
    (∀ a ∈ news, ∀ (j : Nat) (ys : List D), env[j]? = some (.own ys) → σ[j]? ≠ some (some (.ref a))) → ∃ env', putO ts ds env = some env' ∧ Fr T Ow0 H ρ Ow (sigO ts vs σ) env' st := by
  induction h with
  | nil =>
    intro ts σ env e f nd n0 ap
    cases ts with
    | nil => exact ⟨env, rfl, f⟩
    | cons _ _ => cases e
  | @val news fl v vs d ds r rs ih =>
    intro ts σ env e f nd n0 ap
    cases ts with
    | nil => cases e
    | cons t ts =>
      obtain ⟨b, i⟩ := t
      simp only [List.map_cons, List.cons.injEq] at e
      obtain ⟨rfl, e⟩ := e
      refine ih (ts := ts) e (f.set i r) nd n0 fun a ha j ys h => ?_
      by_cases hj : i = j
      · subst hj
        have hi : i < env.length := by
          have := (List.getElem?_eq_some_iff.mp h).1
          simpa using this
        rw [List.getElem?_set_self hi] at h; cases h
      · rw [List.getElem?_set_ne hj] at h ⊢
        exact ap a ha j ys h
  | @own news fl a us vs xs ds m h z r rs ih =>
    intro ts σ env e f nd n0 ap
    cases ts with
    | nil => cases e
    | cons t ts =>
      obtain ⟨b, i⟩ := t
      simp only [List.map_cons, List.cons.injEq] at e
      obtain ⟨rfl, e⟩ := e
      have nd' := List.nodup_cons.mp nd
      refine ih (ts := ts) e (f.setOwn i m (n0 a (List.mem_cons_self)) h z r fun j ys _ hj => ap a (List.mem_cons_self) j ys hj) nd'.2 (fun b hb => n0 b (List.mem_cons_of_mem _ hb)) fun b hb j ys hj => ?_
      by_cases hij : i = j
      · subst hij
        have hi : i < env.length := by
          have := (List.getElem?_eq_some_iff.mp hj).1
          simpa using this
        rw [List.getElem?_set_self (by rw [← f.en.len]; exact hi)]
        intro e2
        cases e2
        exact nd'.1 hb
      · rw [List.getElem?_set_ne hij] at hj ⊢
        exact ap b (List.mem_cons_of_mem _ hb) j ys hj
theorem VO.vlen {news : List Addr} {fl : List Bool} {vs : List V} {ds : List D} (h : VO T H ρ Ow news fl vs ds) : vs.length = fl.length := by
  induction h with
  | nil => rfl
  | val r rs ih => simp [ih]
  | own m h z r rs ih => simp [ih]
end
section
variable {X : Cx} {w : WS} {N : List PySem.Str} {sc : Scope} {n : Nat} {e a b c tg : Expr} {pos pos' : Pos} {se sa sb : Sem} {str : Bool} {x y z : PySem.Str} {i j l : Nat}
theorem org_imp {ts : List (Bool × Nat)} {ss : List Sem} {Z : Ends} {σ : L2.St} {H : Hp} {Q : List V → Hp → Prop} {env : Env} {st : Store} {ρ Ow : List Addr} (fr : Fr w.T w.Ow0 H ρ Ow σ env st)
    (p : PostR w H ρ Ow Z ((args ss env st).run env fun ds st => ofPut (putO ts ds env) st)) (i : ∀ vs H', vs.length = ts.length → (∀ H'', New H' H'' → Z.nx (sigO ts vs σ) H'') → Q vs H') :
    tOrg w.T w.xf w.W (ts.map (·.1)) (args ss) σ H Q := by
  refine ⟨env, st, ρ, Ow, fr.en, fr.sr, (PostR.run0 fr p).mono fun ds st2 H2 ρ2 e2 s2 q vs news more hm rs nd nw s3 n3 => ?_⟩
  obtain ⟨f2, q⟩ := q
  have notH : ∀ a ∈ more, ∀ vs, H a ≠ some (.lst vs) := fun a ha vs h => by rw [nw a ha] at h; cases h
  have mOw : ∀ a ∈ more, a ∉ Ow := fun a ha h => by
    obtain ⟨vs, q⟩ := fr.sr.lists a h
    exact notH a ha vs q
  have f3 : Fr w.T w.Ow0 H2 ρ2 (more ++ Ow) σ env st2 := ⟨n3, s3, fun a ha => List.mem_append_right _ (fr.sub a ha), fr.out⟩
  have stp : Step w.Ow0 H ρ Ow H2 ρ2 (more ++ Ow) := by
    refine ⟨⟨fun a o h n1 n2 => ⟨(e2.keep a o h n1).1, (e2.keep a o h n1).2, fun hm' => ?_⟩, e2.pre, e2.frz⟩, fun a ha => ?_⟩
    · rcases List.mem_append.mp hm' with hm' | hm'
      · rw [nw a hm'] at h; cases h
      · exact n2 hm'
    · have q := (fr.step e2).out a ha
      exact ⟨q.1, List.mem_append_right _ q.2⟩
  obtain ⟨env', e1, f4⟩ := rs.put (ts := ts) rfl f3 nd (fun a ha h => mOw a (hm a ha) (fr.sub a h)) fun a ha j ys hj e => by
    obtain ⟨b, us, g1, g2, g3, g4, g5⟩ := fr.en.own hj
    rw [e] at g1; cases g1
    exact notH a (hm a ha) us g3
  rw [e1] at q
  exact i vs H2 (by rw [rs.vlen]; simp) fun H'' nw => q _ _ _ _ (stp.trans (f4.step (nw.ext ρ2))) (f4.ext (nw.ext ρ2) (nw.st f4.sr))
theorem vs2 {α : Type} {vs : List α} (h : vs.length = 2) : ∃ a b, vs = [a, b] := by
  match vs, h with
  | [a, b], _ => exact ⟨a, b, rfl⟩
theorem js_par2 {px py pt : Pos} {kt k2 pt2} {oi oj : Bool} {ss : List Sem} (hc : X.calm = true) (hi : NmL X x i) (hj : NmL X y j) (hij : i ≠ j) (hx : X.env.scope.names.lookup x = some .local) (hy : X.env.scope.names.lookup y = some .local)
    (hw : swappedStores [.Tuple [.Name x px, .Name y py] kt pt] (.Tuple [a, b] k2 pt2) X.env = pure (some [x, y])) (js : JOs X w.T w.xf w.W [oi, oj] [a, b] ss) :
    JS X w (.Assign [.Tuple [.Name x px, .Name y py] kt pt] (.Tuple [a, b] k2 pt2) pos) fun env st => (args ss env st).run env fun ds st => ofPut (putO [(oi, i), (oj, j)] ds env) st :=
  PS.imp (L2.ps_par hc hi.nd hi.at_ hj.at_ hij hx hy (pa_org js) hw (by rfl)) fun Z σ H ⟨env, st, ρ, Ow, fr, p⟩ => by
    refine org_imp (ts := [(oi, i), (oj, j)]) fr p fun vs H' hl q => ?_
    obtain ⟨u, v, rfl⟩ := vs2 hl
    exact ⟨u, v, rfl, q _ (.inl rfl)⟩
inductive NmLs (X : Cx) : List Expr → List (Bool × Nat) → Prop
  | nil : NmLs X [] []
  | cons {x : PySem.Str} {p : Pos} {o : Bool} {i : Nat} {es : List Expr} {ts : List (Bool × Nat)} (h : NmL X x i) (hs : NmLs X es ts) : NmLs X (.Name x p :: es) ((o, i) :: ts)
def tNms (ts : List (Bool × Nat)) : TGs := fun vs σ H Q => vs.length = ts.length ∧ Q (sigO ts vs σ) H
theorem pgs_nms : ∀ {es : List Expr} {ts : List (Bool × Nat)}, NmLs X es ts → PGs X es (tNms ts)
  | _, _, .nil => PGs.imp L2.pgs_nil fun vs σ H Q ⟨h, q⟩ => by
    cases vs with
    | nil => exact ⟨rfl, q⟩
    | cons _ _ => cases h
  | _, _, .cons h hs => PGs.imp (L2.pgs_cons (L2.pg_name h.nd h.at_ h.loc h.fn) (pgs_nms hs) (by rfl)) fun vs σ H Q ⟨hl, q⟩ => by
    cases vs with
    | nil => cases hl
    | cons v vs => exact ⟨v, vs, rfl, by simpa using hl, q⟩
theorem nms_each : ∀ {es : List Expr} {ts : List (Bool × Nat)}, NmLs X es ts → (assignEach es X.env).length = ts.length ∧ (assignEach es X.env).findIdx? (·.1) = none
  | _, _, .nil => ⟨rfl, rfl⟩
  | _, _, .cons h hs => by
    obtain ⟨h1, h2⟩ := nms_each hs
    refine ⟨?_, ?_⟩
    · show (_ :: assignEach _ X.env).length = _
      simp [h1]
    · show (_ :: assignEach _ X.env).findIdx? _ = none
      rw [List.findIdx?_cons]
      simp [h2]
theorem js_parN {es vs : List Expr} {kt k2 : Nat} {pt pt2 : Pos} {ts : List (Bool × Nat)} {ss : List Sem} (hc : X.calm = true) (hw : swappedStores [.Tuple es kt pt] (.Tuple vs k2 pt2) X.env = pure none) (hs : ts.length ≤ 1000) (hn : NmLs X es ts) (js : JOs X w.T w.xf w.W (ts.map (·.1)) vs ss) :
    JS X w (.Assign [.Tuple es kt pt] (.Tuple vs k2 pt2) pos) fun env st => (args ss env st).run env fun ds st => ofPut (putO ts ds env) st :=
  PS.imp (L2.ps_asg (L2.pe_tup (pa_org js)) (L2.pg_tup (n := ts.length) hc (pgs_nms hn) (nms_each hn).1 (nms_each hn).2) (by rfl) hw (by rfl)) fun Z σ H ⟨env, st, ρ, Ow, fr, p⟩ => by
    refine org_imp fr p fun vs H' hl q => ⟨lim_len (lim_k (by rw [hl]; exact hs)), fun r hr => ⟨r, vs, rfl, .inl (.inl L2.upd_same), hl, hl, q _ (.inr ⟨r, vs, hr, rfl⟩)⟩⟩
end
end G
namespace G
open PySem PySem.Spec PyProof.Rows
open L2 (V Hp HO upd SqL SqT Rd VK XK TE TT TA TI TS TG TGs Ends WX Cx PE PT PA PI PS PSs PG PGs Inv OpR CallR RelV Vals R2 PC PW)
theorem each_cons {e : Expr} (h : plainT e = true) (es : List Expr) (env : PySem.Env) : assignEach (e :: es) env = (false, assign e env) :: assignEach es env := by
  cases e <;> first | rfl | cases h
theorem each_all {env : PySem.Env} : ∀ {es : List Expr}, es.all plainT = true → (assignEach es env).length = es.length ∧ (assignEach es env).findIdx? (·.1) = none
  | [], _ => ⟨rfl, rfl⟩
  | e :: es, h => by
    rw [List.all_cons, Bool.and_eq_true] at h
    obtain ⟨h1, h2⟩ := each_all (env := env) h.2
    rw [each_cons h.1]
    refine ⟨by simp [h1], ?_⟩
    rw [List.findIdx?_cons]
    simp [h2]
theorem assign_sub {o i : Expr} {pos : Pos} {env : PySem.Env} (h : plainE i = true) : ∀ v, assign (.Subscript o i pos) env v = (do
      let ov ← holding [v] (eval o env)
      let iv ← holding [v, ov] (eval i env)
      standAt pos
      holding [v, ov, iv] (setItem ov iv v)
      release [v, ov, iv] []) := by
  intro v
  cases i <;> first | rfl | cases h
def plainO : Expr → Bool
  | .Call (.Name _ _) [] [] _ => false
  | _ => true
theorem base_plain {o : Expr} (h : plainO o = true) (f : PySem.Str) (env : PySem.Env) (w : PySem.Sem Value) : attributeBase o f env w = w := by
  unfold attributeBase
  split
  · cases h
  · rfl
section
variable {X : Cx} {w : WS} {N : List PySem.Str} {sc : Scope} {n : Nat} {e a b c tg : Expr} {pos pos' : Pos} {se sa sb : Sem} {str : Bool} {x : PySem.Str} {i : Nat}
theorem pl_run {α : Type} {o : O α} {env : Env} {f : α → Store → R} (h : ∀ a st, (f a st).pl = true) : (o.run env f).pl = true := by
  cases o with
  | ok a st => exact h a st
  | ex c fs st => rfl
  | bad => rfl
theorem ltLocs_set {l : Nat} {d : D} (h : ltLoc l d = true) : ∀ {xs : List D} (j : Nat), ltLocs l xs = true → ltLocs l (xs.set j d) = true
  | [], _, _ => rfl
  | x :: xs, 0, q => by
    have q' : (ltLoc l x && ltLocs l xs) = true := q
    rw [Bool.and_eq_true] at q'
    show (ltLoc l d && ltLocs l xs) = true
    rw [h, q'.2]; rfl
  | x :: xs, j + 1, q => by
    have q' : (ltLoc l x && ltLocs l xs) = true := q
    rw [Bool.and_eq_true] at q'
    show (ltLoc l x && ltLocs l (xs.set j d)) = true
    rw [q'.1, ltLocs_set h j q'.2]; rfl
theorem subR_pl (sa sb : Sem) : ∀ d env st, (subR sa sb d env st).pl = true := by
  intro d env st
  unfold subR
  refine pl_run fun x st => pl_run fun k st => ?_
  split
  · split
    · split
      · split <;> rfl
      · rfl
    · rfl
  · rfl
theorem jt_sub (hb : plainE b = true) (ja : JE X w.T w.xf w.W a sa true) (j : JE X w.T w.xf w.W b sb true) : JT X w (.Subscript a b pos) (subR sa sb) := by
  refine ⟨PG.imp (L2.pg_sub ja.val j.val L2.set_list (assign_sub hb)) fun v σ H Q ⟨env, st, ρ, Ow, d, fr, r, p⟩ => ?_, subR_pl sa sb⟩
  refine ⟨env, st, ρ, Ow, fr.en, fr.sr, (PostR.run fr p).mono fun dx st1 H1 ρ1 e1 s1 q o ro => ?_⟩
  obtain ⟨f1, q⟩ := q
  refine ⟨env, st1, ρ1, Ow, f1.en, f1.sr, (PostR.run f1 q).mono fun dk st2 H2 ρ2 e2 s2 q2 y ry => ?_⟩
  obtain ⟨f2, q2⟩ := q2
  cases dx with
  | loc l =>
    cases dk with
    | int k =>
      have ro' : RV w.T H1 ρ1 Ow o (.loc l) := ro
      have ry' : RV w.T H2 ρ2 Ow y (.int k) := ry
      cases ry'
      have ro2 := ro'.ext e2
      cases ro2 with
      | loc ha =>
        rename_i pa
        have q2' : PostR w H2 ρ2 Ow (onlyNx Q) (match st2[l]? with
          | some (.lst xs) => match ixN xs.length k with
            | some j => if ltLoc l d then .nx env (st2.set l (.lst (xs.set j d))) else .bad
            | none => .bad
          | _ => .bad) := q2
        cases hst : st2[l]? with
        | none => rw [hst] at q2'; exact q2'.elim
        | some ob =>
          cases ob with
          | ins c fs => rw [hst] at q2'; exact q2'.elim
          | dic z ks => rw [hst] at q2'; exact q2'.elim
          | lst xs =>
            rw [hst] at q2'
            have q3 : PostR w H2 ρ2 Ow (onlyNx Q) (match ixN xs.length k with
              | some j => if ltLoc l d then .nx env (st2.set l (.lst (xs.set j d))) else .bad
              | none => .bad) := q2'
            cases hk : ixN xs.length k with
            | none => rw [hk] at q3; exact q3.elim
            | some jx =>
              rw [hk] at q3
              have q4 : PostR w H2 ρ2 Ow (onlyNx Q) (if ltLoc l d then .nx env (st2.set l (.lst (xs.set jx d))) else .bad) := q3
              split at q4
              · rename_i hl
                obtain ⟨lt, us, h1, z, rs⟩ := f2.sr.at_ l pa _ ha hst
                refine ⟨pa, us, k, jx, rfl, rfl, h1, by rw [← ixN_eq, rs.length]; exact hk, ?_⟩
                have rv : RV w.T H2 ρ2 Ow v d := (r.ext e1).ext e2
                have es : Ext H2 ρ2 (upd H2 pa (.lst (us.set jx v))) ρ2 := Ext.set (List.mem_of_getElem? ha) fun ob u z => by rw [h1] at z; cases z
                obtain ⟨stp, f3⟩ := f2.updSt (o := .lst (us.set jx v)) (ob := .lst (xs.set jx d)) ha (fun ob u z => by rw [h1] at z; cases z) ⟨ltLocs_set hl jx lt, us.set jx v, L2.upd_same, by rw [List.length_set]; exact z, RVs.set (rv.ext es) jx (rs.ext es)⟩
                exact q4 _ _ _ _ stp f3
              · exact q4.elim
    | _ => exact q2.elim
  | _ => cases dk <;> exact q2.elim
theorem JTs.plain {es : List Expr} {fs : List (D → StS)} (h : JTs X w es fs) : es.all plainT = true ∧ fs.length = es.length := by
  induction h with
  | nil => exact ⟨rfl, rfl⟩
  | cons h t ts ih => exact ⟨by rw [List.all_cons, h, ih.1]; rfl, by simp [ih.2]⟩
def tTgts (w : WS) (fs : List (D → StS)) : TGs := fun vs σ H Q => ∃ env st ρ Ow ds, Fr w.T w.Ow0 H ρ Ow σ env st ∧ RVs w.T H ρ Ow vs ds ∧ PostR w H ρ Ow (onlyNx Q) (setAll fs ds env st)
theorem jts_run {es : List Expr} {fs : List (D → StS)} (h : JTs X w es fs) : PGs X es (tTgts w fs) := by
  induction h with
  | nil =>
    refine PGs.imp L2.pgs_nil fun vs σ H Q ⟨env, st, ρ, Ow, ds, fr, rs, p⟩ => ?_
    cases rs with
    | nil => exact ⟨rfl, p σ H ρ Ow fr.refl fr⟩
    | cons _ _ => exact p.elim
  | @cons e f es fs h t ts ih =>
    refine PGs.imp (L2.pgs_cons t.run ih (by rw [each_cons h]; rfl)) fun vs σ H Q ⟨env, st, ρ, Ow, ds, fr, rs, p⟩ => ?_
    cases rs with
    | nil => exact p.elim
    | @cons v vs d ds r rs =>
      refine ⟨v, vs, rfl, env, st, ρ, Ow, d, fr, r, ?_⟩
      have p' : PostR w H ρ Ow (onlyNx Q) (seqR (f d env st) (setAll fs ds)) := p
      cases e : f d env st with
      | nx env1 st1 =>
        rw [e] at p'
        exact fun σ' H' ρ' Ow' s f' => ⟨env1, st1, ρ', Ow', ds, f', rs.keeps s.kp fr.sr.lists, PostR.later s p'⟩
      | ex env1 c fs1 st1 => rw [e] at p'; exact p'
      | bad => rw [e] at p'; exact p'
      | bk _ _ => have q := t.pl d env st; rw [e] at q; cases q
      | ct _ _ => have q := t.pl d env st; rw [e] at q; cases q
      | rt _ _ => have q := t.pl d env st; rw [e] at q; cases q
theorem js_unp {es : List Expr} {k : Nat} {pt : Pos} {fs : List (D → StS)} (C : CxC X w.T N sc n) (hc : noComp e = true) (ht : isTup e = false) (j : JE X w.T w.xf w.W e se true) (t : JTs X w es fs) :
    JS X w (.Assign [.Tuple es k pt] e pos) fun env st => (se.val env st).run env fun d st => match d with
      | .tup ds => if ds.length = fs.length then setAll fs ds env st else .bad
      | .lst ds => if ds.length = fs.length then setAll fs ds env st else .bad
      | _ => .bad := by
  obtain ⟨h1, h2⟩ := each_all (env := X.env) t.plain.1
  have g1 := L2.pg_tup (n := fs.length) (pos := pt) (k := k) C.calm (jts_run t) (by rw [h1, t.plain.2]) h2
  have g2 := L2.pg_lst (n := fs.length) (pos := pt) (k := k) C.calm (jts_run t) (by rw [h1, t.plain.2]) h2
  have g : PG X (.Tuple es k pt) (fun v σ H Q => L2.gTup X.K fs.length _ v σ H Q ∨ L2.gLst X.K fs.length _ v σ H Q) :=
    ⟨fun pins s σ H v u Q I r t => t.elim (g1.run pins s σ H v u Q I r) (g2.run pins s σ H v u Q I r)⟩
  refine PS.imp (L2.ps_asg j.val g (show swapsWithSole [.Tuple es k pt] e pos.line X.env = pure false from by unfold swapsWithSole; exact noComp_swaps hc _ _ _) (swapped_none (.inr ht)) (by rfl)) fun Z σ H ⟨env, st, ρ, Ow, fr, p⟩ => ?_
  refine ⟨env, st, ρ, Ow, fr.en, fr.sr, (PostR.run fr p).mono fun d st1 H1 ρ1 e1 s1 q v r => ?_⟩
  obtain ⟨f1, q⟩ := q
  cases d with
  | tup ds =>
    have r' : RV w.T H1 ρ1 Ow v (.tup ds) := r
    cases r' with
    | @tup a vs _ q2 z rs =>
      have q' : PostR w H1 ρ1 Ow Z (if ds.length = fs.length then setAll fs ds env st1 else .bad) := q
      split at q'
      · rename_i hl
        exact .inl ⟨a, vs, rfl, by rw [C.eK]; exact q2.sq, by rw [rs.length]; exact hl, env, st1, ρ1, Ow, ds, f1, rs, q'.only (t.pl _ _ _)⟩
      · exact q'.elim
  | lst ds =>
    have r' : RV w.T H1 ρ1 Ow v (.lst ds) := r
    cases r' with
    | @lst a vs _ q2 n1 n2 z rs =>
      have q' : PostR w H1 ρ1 Ow Z (if ds.length = fs.length then setAll fs ds env st1 else .bad) := q
      split at q'
      · rename_i hl
        exact .inr ⟨a, vs, rfl, .inl (.inl q2), by rw [rs.length]; exact hl, env, st1, ρ1, Ow, ds, f1, rs, q'.only (t.pl _ _ _)⟩
      · exact q'.elim
  | _ => exact q.elim
end
end G
namespace G
open PySem PySem.Spec PyProof.Rows
open L2 (V Hp HO upd SqL SqT Rd VK XK TE TT TA TI TS TG TGs Ends WX Cx PE PT PA PI PS PSs PG PGs Inv OpR CallR RelV Vals R2 PC PW)
section
variable {X : Cx} {w : WS} {N : List PySem.Str} {sc : Scope} {n : Nat} {e a b c tg : Expr} {pos pos' : Pos} {se sa sb sc' : Sem} {str : Bool} {x : PySem.Str} {i : Nat}
def tPt (T : Tb) (Ow0 : List Addr) (p : Pt) : TG := fun v σ H Q => ∃ env st ρ Ow d env', Fr T Ow0 H ρ Ow σ env st ∧ RV T H ρ Ow v d ∧ setPt p d env = some env' ∧ ∀ σ', Fr T Ow0 H ρ Ow σ' env' st → Off (ptSlots p) σ σ' → Q σ' H
def tPts (T : Tb) (Ow0 : List Addr) (ps : List Pt) : TGs := fun vs σ H Q => ∃ env st ρ Ow ds env', Fr T Ow0 H ρ Ow σ env st ∧ RVs T H ρ Ow vs ds ∧ setPts ps ds env = some env' ∧ ∀ σ', Fr T Ow0 H ρ Ow σ' env' st → Off (ptsSlots ps) σ σ' → Q σ' H
theorem setPts_len : ∀ {ps : List Pt} {ds : List D} {env env' : Env}, setPts ps ds env = some env' → ds.length = ps.length
  | [], [], _, _, _ => rfl
  | [], _ :: _, _, _, h => by simp [setPts] at h
  | _ :: _, [], _, _, h => by simp [setPts] at h
  | p :: ps, d :: ds, env, env', h => by
    simp only [setPts] at h
    obtain ⟨e1, h1, h2⟩ := Option.bind_eq_some_iff.mp h
    simp [setPts_len h2]
variable {T : Tb} {Ow0 : List Addr}
theorem pt_nm (h : NmL X x i) : PG X (.Name x pos) (tPt T Ow0 (.nm i)) :=
  PG.imp (L2.pg_name h.nd h.at_ h.loc h.fn) fun v σ H Q ⟨env, st, ρ, Ow, d, env', f, r, e, q⟩ => by
    have e' : some (env.set i (.v d)) = some env' := by simpa [setPt] using e
    cases e'
    exact q _ (f.set i r) ⟨by simp, fun j hj => List.getElem?_set_ne fun e => hj (by simp [ptSlots, e])⟩
theorem pts_nil : PGs X [] (tPts T Ow0 []) := PGs.imp L2.pgs_nil fun vs σ H Q ⟨env, st, ρ, Ow, ds, env', f, rs, e, q⟩ => by
  cases rs with
  | nil =>
    have e' : some env = some env' := by simpa [setPts] using e
    cases e'
    exact ⟨rfl, q σ f ⟨rfl, fun _ _ => rfl⟩⟩
  | cons _ _ => simp [setPts] at e
theorem pts_cons {es : List Expr} {p : Pt} {ps : List Pt} (h : plainT e = true) (t : PG X e (tPt T Ow0 p)) (ts : PGs X es (tPts T Ow0 ps)) : PGs X (e :: es) (tPts T Ow0 (p :: ps)) :=
  PGs.imp (L2.pgs_cons t ts (by rw [each_cons h]; rfl)) fun vs σ H Q ⟨env, st, ρ, Ow, ds, env', f, rs, e, q⟩ => by
    cases rs with
    | nil => simp [setPts] at e
    | @cons v vs d ds r rs =>
      simp only [setPts] at e
      obtain ⟨e1, h1, h2⟩ := Option.bind_eq_some_iff.mp e
      exact ⟨v, vs, rfl, env, st, ρ, Ow, d, e1, f, r, h1, fun σ' f' o1 => ⟨e1, st, ρ, Ow, ds, env', f', rs, h2, fun σ2 f2 o2 => q σ2 f2 (o1.trans o2)⟩⟩
theorem pt_tp {es : List Expr} {k : Nat} {ps : List Pt} (hc : X.calm = true) (hK : X.K = T.K) (hp : es.all plainT = true) (hl : es.length = ps.length) (ts : PGs X es (tPts T Ow0 ps)) : PG X (.Tuple es k pos) (tPt T Ow0 (.tp ps)) := by
  obtain ⟨h1, h2⟩ := each_all (env := X.env) hp
  have g1 := L2.pg_tup (n := ps.length) (pos := pos) (k := k) hc ts (by rw [h1, hl]) h2
  have g2 := L2.pg_lst (n := ps.length) (pos := pos) (k := k) hc ts (by rw [h1, hl]) h2
  have g : PG X (.Tuple es k pos) fun v σ H Q => L2.gTup X.K ps.length (tPts T Ow0 ps) v σ H Q ∨ L2.gLst X.K ps.length (tPts T Ow0 ps) v σ H Q :=
    ⟨fun pins s σ H v u Q I r t => t.elim (g1.run pins s σ H v u Q I r) (g2.run pins s σ H v u Q I r)⟩
  refine PG.imp g fun v σ H Q ⟨env, st, ρ, Ow, d, env', f, r, e, q⟩ => ?_
  cases d with
  | tup ds =>
    have e' : setPts ps ds env = some env' := by simpa [setPt] using e
    cases r with
    | @tup a vs _ q2 z rs => exact .inl ⟨a, vs, rfl, by rw [hK]; exact q2.sq, by rw [rs.length]; exact setPts_len e', env, st, ρ, Ow, ds, env', f, rs, e', q⟩
  | lst ds =>
    have e' : setPts ps ds env = some env' := by simpa [setPt] using e
    cases r with
    | @lst a vs _ q2 n1 n2 z rs => exact .inr ⟨a, vs, rfl, .inl (.inl q2), by rw [rs.length]; exact setPts_len e', env, st, ρ, Ow, ds, env', f, rs, e', q⟩
  | exc c ds =>
    have e' : setPts ps ds env = some env' := by simpa [setPt] using e
    cases r with
    | @raw a vs _ q2 n z rs => exact .inl ⟨a, vs, rfl, .inl q2, by rw [rs.length]; exact setPts_len e', env, st, ρ, Ow, ds, env', f, rs, e', q⟩
  | _ => simp [setPt] at e
theorem js_for {iter : Expr} {body : List Stmt} {p : Pt} {f : StS} (C : CxS X w N sc n) (hf : plainE iter = true) (j : PI X tg iter (tIt w.T w.xf w.W true se.items)) (t : PG X tg (tPt w.T w.Ow0 p)) (jb : JSs X w body f) :
    JS X w (.For tg iter body [] pos) fun env st => (se.items env st).run env fun xs st => forL f p xs env st :=
  PS.imp (L2.ps_for C.own C.calm j t jb (fun x => plain_fold hf _ _)) fun Z σ H ⟨env, st, ρ, Ow, fr, po⟩ => by
    refine ⟨env, st, ρ, Ow, fr.en, fr.sr, (PostR.run fr po).mono fun ds st1 H1 ρ1 e1 s1 q J wk => ?_⟩
    obtain ⟨f1, q⟩ := q
    refine ⟨fun i m σ' H' => i ≤ ds.length ∧ m = ds.length - i ∧ ∃ env st ρ' Ow', Keeps H1 ρ1 Ow H' ρ' Ow' ∧ Fr w.T w.Ow0 H' ρ' Ow' σ' env st ∧ PostR w H' ρ' Ow' Z (forL f p (ds.drop i) env st), ⟨ds.length, Nat.zero_le _, rfl, env, st1, ρ1, Ow, Keeps.refl _ _ _, f1, q⟩, ?_⟩
    rintro i m σ2 H2 ⟨hi, rfl, env2, st2, ρ2, Ow2, k2, f2, p2⟩
    by_cases hl : i = ds.length
    · subst hl
      rw [List.drop_length] at p2
      exact .inl ⟨wk.stop H2 ρ2 Ow2 k2, p2 _ _ _ _ f2.refl f2⟩
    · have hlt : i < ds.length := by omega
      obtain ⟨d, hd⟩ : ∃ d, ds[i]? = some d := ⟨ds[i], List.getElem?_eq_getElem hlt⟩
      obtain ⟨go, yl⟩ := wk.step i d H2 ρ2 Ow2 st2 hd k2 f2.sr
      have hdr : ds.drop i = d :: ds.drop (i + 1) := by
        rw [List.drop_eq_getElem_cons hlt]
        have := (List.getElem?_eq_some_iff.mp hd).2
        rw [this]
      rw [hdr] at p2
      refine .inr ⟨go, fun σ' H' => ∃ env st ρ' Ow', Keeps H1 ρ1 Ow H' ρ' Ow' ∧ Fr w.T w.Ow0 H' ρ' Ow' σ' env st ∧ PostR w H' ρ' Ow' Z (forL f p (ds.drop (i + 1)) env st), fun σ' H' h => ⟨ds.length - (i + 1), by omega, by omega, rfl, h⟩, fun y H3 hy => ?_⟩
      obtain ⟨nw, ry⟩ := yl y H3 hy
      have f3 := f2.ext (nw.ext ρ2) (nw.st f2.sr)
      have stp3 := f2.step (nw.ext ρ2)
      have p3 : PostR w H2 ρ2 Ow2 Z (match setPt p d env2 with
        | none => .bad
        | some env => match f env st2 with
          | .nx env st => forL f p (ds.drop (i + 1)) env st
          | .ct env st => forL f p (ds.drop (i + 1)) env st
          | .bk env st => .nx env st
          | o => o) := p2
      cases hs : setPt p d env2 with
      | none => rw [hs] at p3; exact p3.elim
      | some env3 =>
        rw [hs] at p3
        refine ⟨env2, st2, ρ2, Ow2, d, env3, f3, ry, hs, fun σ3 f4 _ => ⟨env3, st2, ρ2, Ow2, f4, ?_⟩⟩
        have p4 : PostR w H2 ρ2 Ow2 Z (match f env3 st2 with
          | .nx env st => forL f p (ds.drop (i + 1)) env st
          | .ct env st => forL f p (ds.drop (i + 1)) env st
          | .bk env st => .nx env st
          | o => o) := p3
        have k3 : Keeps H1 ρ1 Ow H3 ρ2 Ow2 := k2.trans stp3.kp
        cases hr : f env3 st2 with
        | nx env4 st4 =>
          rw [hr] at p4
          exact fun σ5 H5 ρ5 Ow5 s5 f5 => ⟨env4, st4, ρ5, Ow5, k3.trans s5.kp, f5, PostR.later (stp3.trans s5) p4⟩
        | ct env4 st4 =>
          rw [hr] at p4
          exact fun σ5 H5 ρ5 Ow5 s5 f5 => ⟨env4, st4, ρ5, Ow5, k3.trans s5.kp, f5, PostR.later (stp3.trans s5) p4⟩
        | bk env4 st4 =>
          rw [hr] at p4
          exact fun σ5 H5 ρ5 Ow5 s5 f5 => p4 σ5 H5 ρ5 Ow5 (stp3.trans s5) f5
        | rt d4 st4 =>
          rw [hr] at p4
          exact fun v H5 ρ5 Ow5 s5 => p4 v H5 ρ5 Ow5 (stp3.trans s5)
        | ex env4 c4 fs4 st4 =>
          rw [hr] at p4
          exact fun cls dx σ5 H5 ρ5 Ow5 s5 => p4 cls dx σ5 H5 ρ5 Ow5 (stp3.trans s5)
        | bad => rw [hr] at p4; exact p4
theorem js_while {body : List Stmt} {f : StS} (C : CxS X w N sc n) (jc : JE X w.T w.xf w.W c sc' str) (jb : JSs X w body f) : JS X w (.While c body [] pos) (whileL sc'.test f 2000) :=
  PS.imp (L2.ps_while C.own jc.test jb) fun Z σ H ⟨env, st, ρ, Ow, fr, po⟩ => by
    refine ⟨fun m σ' H' => ∃ env st ρ' Ow', Fr w.T w.Ow0 H' ρ' Ow' σ' env st ∧ PostR w H' ρ' Ow' Z (whileL sc'.test f m env st), ⟨2000, env, st, ρ, Ow, fr, po⟩, ?_⟩
    rintro m σ2 H2 ⟨env2, st2, ρ2, Ow2, f2, p2⟩
    cases m with
    | zero => exact p2.elim
    | succ m =>
      have p3 : PostR w H2 ρ2 Ow2 Z ((sc'.test env2 st2).run env2 fun b st => if b then (match f env2 st with
        | .nx env st => whileL sc'.test f m env st
        | .ct env st => whileL sc'.test f m env st
        | .bk env st => .nx env st
        | o => o) else .nx env2 st) := p2
      refine ⟨env2, st2, ρ2, Ow2, f2.en, f2.sr, (PostR.run f2 p3).mono fun b st3 H3 ρ3 e3 s3 q => ?_⟩
      obtain ⟨f3, q⟩ := q
      cases b with
      | false => exact q _ _ _ _ f3.refl f3
      | true =>
        have p4 : PostR w H3 ρ3 Ow2 Z (match f env2 st3 with
          | .nx env st => whileL sc'.test f m env st
          | .ct env st => whileL sc'.test f m env st
          | .bk env st => .nx env st
          | o => o) := q
        show ∃ N : L2.St → Hp → Prop, _
        refine ⟨fun σ' H' => ∃ env st ρ' Ow', Fr w.T w.Ow0 H' ρ' Ow' σ' env st ∧ PostR w H' ρ' Ow' Z (whileL sc'.test f m env st), fun σ' H' h => ⟨m, Nat.lt_succ_self m, h⟩, env2, st3, ρ3, Ow2, f3, ?_⟩
        cases hr : f env2 st3 with
        | nx env4 st4 =>
          rw [hr] at p4
          exact fun σ5 H5 ρ5 Ow5 s5 f5 => ⟨env4, st4, ρ5, Ow5, f5, PostR.later s5 p4⟩
        | ct env4 st4 =>
          rw [hr] at p4
          exact fun σ5 H5 ρ5 Ow5 s5 f5 => ⟨env4, st4, ρ5, Ow5, f5, PostR.later s5 p4⟩
        | bk env4 st4 => rw [hr] at p4; exact p4
        | rt d4 st4 => rw [hr] at p4; exact p4
        | ex env4 c4 fs4 st4 => rw [hr] at p4; exact p4
        | bad => rw [hr] at p4; exact p4
theorem js_app {apos cpos : Pos} (he : plainE e = true) (hl : (apos.endLine == cpos.line) = true) (hx : PE X (.Name x pos') (L2.tVar i)) (j : JE X w.T w.xf w.W e se true) :
    JS X w (.Expr (.Call (.Attribute (.Name x pos') "append" apos) [e] [] cpos) pos) (appR i se) :=
  PS.imp (L2.ps_expr (L2.pe_bm PySem.F.plainAttrs_list PySem.F.slot_list_append PySem.F.type_list_append L2.mt_append hx (L2.pa_cons j.val L2.pa_nil (plain_star he _ _)) (base_plain rfl _ _ _)
      (by rw [plain_star he]; rfl) hl (plain_star he _ _) (by rfl)) (by rfl)) fun Z σ H ⟨env, st, ρ, Ow, fr, p⟩ => by
    unfold appR at p
    split at p
    · rename_i xs hs
      obtain ⟨p0, us, h1, m, h2, z, rs⟩ := fr.en.own hs
      refine ⟨_, h1, isList h2, env, st, ρ, Ow, fr.en, fr.sr, (PostR.run fr p).mono fun d st1 H1 ρ1 e1 s1 q y ry => ?_⟩
      obtain ⟨f1, q⟩ := q
      have q' : PostR w H1 ρ1 Ow Z (if xs.length < LIM then .nx (env.set i (.own (xs ++ [d]))) st1 else .bad) := q
      split at q'
      · rename_i hlt
        obtain ⟨p1, us1, g1, m1, g2, z1, rs1⟩ := f1.en.own hs
        rw [h1] at g1; cases g1
        refine ⟨p0, us1, y, rfl, rfl, g2, by rw [← lim_line, rs1.length]; exact hlt, ?_⟩
        obtain ⟨stp, f2⟩ := f1.updOwn (us := us1 ++ [y]) (ys := xs ++ [d]) hs h1 (by rw [List.length_append, rs1.length]; exact hlt) (rs1.append (.cons ry .nil))
        exact q' _ _ _ _ stp f2
      · exact q'.elim
    · exact p.elim
theorem js_aug1 {o : Op2} {op : Operator} (h : NmL X x i) (g : Int → Int → Int) (hg : ∀ x y env st, aug1 o i x (.int y) env st = .nx (env.set i (.v (.int (g x y)))) st) (hp : L2.PIp X op (L2.ipI g)) (j : JE X w.T w.xf w.W e se str) :
    JS X w (.AugAssign (.Name x pos') op e pos) (augR i o se) :=
  PS.imp (L2.ps_aug h.nd h.at_ h.loc j.val hp h.fn) fun Z σ H ⟨env, st, ρ, Ow, fr, p⟩ => by
    unfold augR at p
    split at p
    · rename_i x0 he
      obtain ⟨v, hv, r⟩ := fr.en.get he
      cases r
      refine ⟨_, hv, env, st, ρ, Ow, fr.en, fr.sr, (PostR.run fr p).mono fun d st1 H1 ρ1 e1 s1 q y ry => ?_⟩
      obtain ⟨f1, q⟩ := q
      cases d with
      | int y0 =>
        have e2 := ry.w.u.int
        subst e2
        rw [hg] at q
        exact ⟨x0, y0, rfl, rfl, q _ _ _ _ f1.refl (f1.set i (.int _))⟩
      | _ => cases o <;> exact q.elim
    · exact p.elim
theorem js_aug {o : Op2} {op : Operator} (h : NmL X x i) (ho : (o = .add ∧ op = .Add) ∨ (o = .sub ∧ op = .Sub)) (j : JE X w.T w.xf w.W e se str) : JS X w (.AugAssign (.Name x pos') op e pos) (augR i o se) := by
  rcases ho with ⟨rfl, rfl⟩ | ⟨rfl, rfl⟩
  · exact js_aug1 h (fun a b => a + b) (fun _ _ _ _ => rfl) L2.ip_add j
  · exact js_aug1 h (fun a b => a - b) (fun _ _ _ _ => rfl) L2.ip_sub j
end
end G
namespace G
open PySem PySem.Spec PyProof.Rows
open L2 (V Hp HO upd SqL SqT Rd VK XK TE TT TA TI TS TG TGs Ends WX Cx PE PT PA PI PS PSs PG PGs Inv OpR CallR RelV Vals R2 PC PW)
end G
namespace G
open PySem PySem.Spec PyProof.Rows
open L2 (V Hp HO upd SqL SqT Rd VK XK TE TT TA TI TS TG TGs Ends WX Cx PE PT PA PI PS PSs PG PGs Inv OpR CallR RelV Vals R2 PC PW Sp Room Env0 CR FnScope cxOf Binds Gl)
theorem FnX.g {Y : Wd} {j : Nat} {f : Addr} {fd : FuncData} {ps : List PySem.Str} {c : Fd} (F : FnX false Y j f fd ps c) : FnG Y j f fd ps c := ⟨F.run⟩
section
variable {Y : Wd} {N ps : List PySem.Str} {qual : PySem.Str} {scope : Scope} {f : Addr} {cdv : Value} {k : Nat}
theorem start_en {T : Tb} {H : Hp} {ρ Ow : List Addr} {vs : List V} {ds : List D} {st : Store} {m : Nat} (hm : N.length = m) (hl : vs.length ≤ m) (sr : StR T H ρ Ow st) (rs : RVs T H ρ Ow vs ds) :
    Fr T Ow H ρ Ow (L2.start N vs) (ds.map Sl.v ++ List.replicate (m - ds.length) .em) st := by
  have e1 := rs.length
  have none_own : ∀ (i : Nat) (xs : List D), (ds.map Sl.v ++ List.replicate (m - ds.length) .em)[i]? ≠ some (.own xs) := fun i xs h => by
    by_cases hi : i < (ds.map Sl.v).length
    · rw [List.getElem?_append_left hi, List.getElem?_map] at h
      cases e : ds[i]? with
      | none => rw [e] at h; cases h
      | some d => rw [e] at h; cases h
    · rw [List.getElem?_append_right (by omega), List.getElem?_replicate] at h
      split at h <;> cases h
  refine ⟨⟨?_, fun i s h => ?_, fun i j xs ys a h1 h2 _ _ => absurd h1 (none_own i xs)⟩, sr, fun a ha => ha, fun i xs a h1 _ => absurd h1 (none_own i xs)⟩
  · unfold L2.start
    simp only [List.length_append, List.length_map, List.length_replicate]
    omega
  · by_cases hi : i < (ds.map Sl.v).length
    · rw [List.getElem?_append_left hi, List.getElem?_map] at h
      cases e : ds[i]? with
      | none => rw [e] at h; cases h
      | some d =>
        rw [e] at h
        cases h
        obtain ⟨v, hv, r⟩ := rs.get e
        have hi2 : i < (vs.map some).length := by
          have := (List.getElem?_eq_some_iff.mp hv).1
          simpa using this
        unfold L2.start
        rw [List.getElem?_append_left hi2, List.getElem?_map, hv]
        exact r
    · rw [List.getElem?_append_right (by omega), List.getElem?_replicate] at h
      split at h
      · cases h
        cases (L2.start N vs)[i]? with
        | none => trivial
        | some o => cases o <;> trivial
      · cases h
def er (H : Hp) (a : Addr) : Hp := fun b => if b = a then none else H b
theorem er_ne {H : Hp} {a b : Addr} (h : b ≠ a) : er H a b = H b := by unfold er; rw [if_neg h]
theorem er_same {H : Hp} {a : Addr} : er H a a = none := by unfold er; rw [if_pos rfl]
theorem er_upd {H : Hp} {a : Addr} {o : HO} (h : H a = some o) : upd (er H a) a o = H := by
  funext b
  by_cases e : b = a
  · rw [e, L2.upd_same, h]
  · rw [L2.upd_ne e, er_ne e]
section
variable {T : Tb} {H : Hp} {ρ Ow : List Addr} {a : Addr} {us : List V}
theorem _root_.L2.Rd.er {b : Addr} {vs : List V} (h : H a = some (.lst us)) (q : Rd H b (.tup vs)) : Rd (G.er H a) b (.tup vs) := by
  have ne : b ≠ a := fun e => by
    subst e
    rcases q with q | ⟨o, q⟩ <;> rw [h] at q <;> cases q
  rcases q with q | ⟨o, q⟩
  · exact .inl (by rw [er_ne ne]; exact q)
  · exact .inr ⟨o, by rw [er_ne ne]; exact q⟩
theorem StT.er {K : PySem.W.Frag} (h : H a = some (.lst us)) {b : Addr} {vs : List V} (q : StT K H ρ b vs) : StT K (er H a) ρ b vs := by
  rcases q with ⟨⟨o, q, hd⟩, n⟩ | q
  · have ne : b ≠ a := fun e => by rw [e, h] at q; cases q
    exact .inl ⟨⟨o, by rw [er_ne ne]; exact q, hd⟩, n⟩
  · exact .inr q
theorem StL.er {K : PySem.W.Frag} (h : H a = some (.lst us)) {b : Addr} {vs : List V} (q : StL K H ρ b vs) : StL K (er H a) ρ b vs := by
  rcases q with ⟨⟨o, q⟩, n⟩ | q
  · have ne : b ≠ a := fun e => by rw [e, h] at q; cases q
    exact .inl ⟨⟨o, by rw [er_ne ne]; exact q⟩, n⟩
  · exact .inr q
mutual
theorem RV.er (h : H a = some (.lst us)) (m : a ∈ Ow) : ∀ {d : D} {v : V}, RV T H ρ Ow v d → RV T (er H a) ρ Ow v d
  | _, _, .non => .non
  | _, _, .bl b => .bl b
  | _, _, .int i => .int i
  | _, _, .str s h c => .str s h c
  | _, _, .tup q z r => .tup (q.er h) z (RVs.er h m r)
  | _, _, .lst q n1 n2 z r => .lst (by rw [er_ne fun e => n2 (by rw [e]; exact m)]; exact q) n1 n2 z (RVs.er h m r)
  | _, _, .fl q z r => .fl (q.er h) z (RVs.er h m r)
  | _, _, .loc h => .loc h
  | _, _, .obj q n1 n2 z r => .obj (by rw [er_ne fun e => n2 (by rw [e]; exact m)]; exact q) n1 n2 z (RVs.er h m r)
  | _, _, .dct q n1 n2 hk r => .dct (by rw [er_ne fun e => n2 (by rw [e]; exact m)]; exact q) n1 n2 hk (RVs.er h m r)
  | _, _, .cls c => .cls c
  | _, _, .raw q n z r => .raw (q.er h) n z (RVs.er h m r)
theorem RVs.er (h : H a = some (.lst us)) (m : a ∈ Ow) : ∀ {ds : List D} {vs : List V}, RVs T H ρ Ow vs ds → RVs T (er H a) ρ Ow vs ds
  | _, _, .nil => .nil
  | _, _, .cons r rs => .cons (RV.er h m r) (RVs.er h m rs)
end
theorem TabG.er {P : Addr} {q : PySem.Str} (h : H a = some (.lst us)) (t : TabG H ρ P q) : TabG (G.er H a) ρ P q := by
  have n := t.notList (vs := us)
  obtain ⟨ps, h1, h2, h3⟩ := t
  refine ⟨ps, by rw [er_ne fun e => n (by rw [e]; exact h)]; exact h1, h2, fun pos cv hc => ?_⟩
  obtain ⟨c, e1, e2, e3⟩ := h3 pos cv hc
  exact ⟨c, e1, by rw [er_ne fun e => by rw [e, h] at e2; exact codeO_list e2.symm]; exact e2, e3⟩
theorem StR.er {st : Store} (h : H a = some (.lst us)) (m : a ∈ Ow) {Ow0 : List Addr} (sub : ∀ b ∈ Ow0, b ∈ Ow) (n : a ∉ Ow0) (s : StR T H ρ Ow st) : StR T (er H a) ρ Ow0 st := by
  have wk : ∀ b, (G.er H a) b ≠ none → b ∉ ρ → b ∉ Ow → b ∉ Ow0 := fun b _ _ hb h2 => hb (sub b h2)
  refine ⟨s.len, s.nd, fun b hb h2 => s.apart b hb (sub b h2), fun b hb => ?_, fun l b ob h1 h2 => ?_, fun i q hq => ⟨(s.tab i q hq).1, (s.tab i q hq).2.er h⟩⟩
  · obtain ⟨vs, q⟩ := s.lists b (sub b hb)
    exact ⟨vs, by rw [er_ne fun e => n (by rw [← e]; exact hb)]; exact q⟩
  · have q := s.at_ l b ob h1 h2
    have ne : b ≠ a := fun e => s.apart b (List.mem_of_getElem? h1) (by rw [e]; exact m)
    cases ob with
    | lst ds =>
      obtain ⟨p, vs, g, z, r⟩ := q
      exact ⟨p, vs, by rw [er_ne ne]; exact g, z, (r.er h m).ow wk⟩
    | ins c fs =>
      obtain ⟨p, dx, vs, g, z, z2, r⟩ := q
      exact ⟨p, dx, vs, by rw [er_ne ne]; exact g, z, z2, (r.er h m).ow wk⟩
    | dic z ks =>
      obtain ⟨kk, e1, e2, g⟩ := q
      exact ⟨kk, e1, e2, g.at (er_ne ne)⟩
end
theorem body_want {fr : Bool} {T : Tb} {xf : Nat → List Nm} {H : Hp} {ρ Ow : List Addr} {E : XK} {Q : VK} {r : R} {o : O D} (sr : ∀ a ∈ Ow, a ∉ ρ) (ho : o = (match r with
    | .rt d st => .ok d st
    | .nx _ st => .ok .non st
    | .ex _ c fs st => .ex c fs st
    | _ => .bad)) (p : Post ⟨T, xf, fun cls dx _ H' => E cls dx H', []⟩ H ρ Ow (fun d _ H' ρ' => Give fr T Q d H' ρ' Ow) o) :
    PostR ⟨T, xf, fun cls dx _ H' => E cls dx H', Ow, fr⟩ H ρ Ow { nx := fun _ H' => Q .non H', rt := Q } r := by
  have ext : ∀ {H' : Hp} {ρ' Ow' : List Addr} {st' : Store}, Step Ow H ρ Ow H' ρ' Ow' → StR T H' ρ' Ow' st' → Ext H ρ H' ρ' ∧ StR T H' ρ' Ow st' := fun {H' ρ' Ow' st'} s z => by
    refine ⟨⟨fun a u h n => ?_, s.kp.pre, s.kp.frz⟩, z.ow (fun a _ _ n h => n (s.out a h).2) (fun a ha h => z.apart a ha (s.out a h).2) fun a h => z.lists a (s.out a h).2⟩
    by_cases ha : a ∈ Ow
    · exact ⟨by rw [(s.out a ha).1]; exact h, z.disj a (s.out a ha).2⟩
    · exact ⟨(s.kp.keep a u h n ha).1, (s.kp.keep a u h n ha).2.1⟩
  subst ho
  cases r with
  | rt d st =>
    intro v H' ρ' Ow' s z r
    obtain ⟨e, z'⟩ := ext s z
    cases fr with
    | false => 
      have r : RV T H' ρ' Ow' v d := r
      exact p H' ρ' e z' v (r.ow fun a _ _ n h => n (s.out a h).2)
    | true =>
      obtain ⟨a, vs, xs, rfl, rfl, ha, ha0, h, zz, rs⟩ := r
      have hN : H a = none := by
        cases hH : H a with
        | none => rfl
        | some o =>
          by_cases hρ : a ∈ ρ
          · obtain ⟨more, x⟩ := s.kp.pre
            exact absurd ha (z.apart a (by rw [x]; exact List.mem_append_left _ hρ))
          · exact absurd ha (s.kp.keep a o hH hρ ha0).2.2
      have e' : Ext H ρ (er H' a) ρ' := ⟨fun b u hb nb => ⟨by rw [er_ne fun eb => by rw [eb, hN] at hb; cases hb]; exact (e.keep b u hb nb).1, (e.keep b u hb nb).2⟩, e.pre, fun b ob u hb => by rw [er_ne fun eb => by rw [eb, hN] at hb; cases hb]; exact e.frz b ob u hb⟩
      have q := p (er H' a) ρ' e' (z.er h ha (fun b hb => (s.out b hb).2) ha0)
      obtain ⟨xs', ex, q⟩ := q
      cases ex
      have := q a vs er_same ((rs.er h ha).ow fun b _ _ n h2 => n (s.out b h2).2) zz
      rw [er_upd h] at this
      exact this
  | nx env st =>
    intro σ' H' ρ' Ow' s fr'
    obtain ⟨e, z'⟩ := ext s fr'.sr
    have q := p H' ρ' e z'
    cases fr with
    | false => exact q .non .non
    | true =>
      obtain ⟨xs', ex, _⟩ := q
      cases ex
  | ex env c fs st =>
    intro cls dx σ' H' ρ' Ow' s fr' x
    obtain ⟨e, z'⟩ := ext s fr'.sr
    have p' : Post ⟨T, xf, fun cls dx _ H' => E cls dx H', []⟩ H ρ Ow' (fun d _ H' ρ' => Give fr T Q d H' ρ' Ow) (.ex c fs st) := p.shed fun a ha => (s.out a ha).2
    exact p' cls dx H' ρ' e fr'.sr x
  | bk _ _ => exact p.elim
  | ct _ _ => exact p.elim
  | bad => exact p.elim
theorem fnX_of (fr : Bool) {name : PySem.Str} {params : Arguments} {body : List Stmt} {dV kV doc pm ct oc : Value} {an od : Option Addr} {osl : Array (Option Value)} {g : StS} {c : Fd} {m : Nat}
    (lk : Y.K.lookup f = some ⟨oc, od, .func (PySem.W.fnOf name qual params body scope dV kV doc pm an cdv ct), osl⟩) (hcd : PySem.W.codeIn Y.K cdv qual = true) (S : FnScope N ps scope) (hm : N.length = m) (eK : Y.K = Y.T.K) (hx0 : Y.T.hx = none)
    (hc : ∀ ds st, ds.length = ps.length → c ds st = (match g (ds.map Sl.v ++ List.replicate (m - ds.length) .em) st with
      | .rt d st => .ok d st
      | .nx _ st => .ok .non st
      | .ex _ c fs st => .ex c fs st
      | _ => .bad))
    (hbody : ∀ (X : Cx) (W : WX) (Ow0 : List Addr), CxS X ⟨Y.T, Y.xf, W, Ow0, fr⟩ N scope k → X.prog = Y.P → X.w = Y.w → X.K = Y.K → X.mg = Y.mg → X.base = Y.base → X.env.qual = qual ++ ".<locals>." → X.env.code = cdv → X.stack = X.env :: X.outer → X.env.frame = some X.env.locals → JSs X ⟨Y.T, Y.xf, W, Ow0, fr⟩ body g) :
    FnX fr Y (k + 1) f (PySem.W.fnOf name qual params body scope dV kV doc pm an cdv ct) ps c := by
  refine ⟨fun A outer s H args us vs Q E hr hgd e0 hb r hl ⟨st, ρ, Ow, ds, sr, rs, p⟩ => ?_⟩
  have same : ∀ b o, Y.base.get? b = some o → s.heap.get? b = some o := fun b o e => (e0.bs b o e).1
  have KX : Y.K.In s.heap := e0.mod.kin.keeps same
  have inNames : ∀ y ∈ ps.zip us, scope.names.lookup y.1 = some .local ∨ (scope.names.lookup y.1 = some .cell ∧ ((cellsFrom (s.heap.objs.size + 1) scope.names []).lookup y.1).isSome = true) := by
    rintro ⟨x, v⟩ hy
    cases S.par x (List.of_mem_zip hy).1 with
    | inl q => exact .inl q
    | inr q => exact .inr ⟨q, PySem.W.cellsFrom_some _ _ _ (.inl q)⟩
  have hpl : ps.length ≤ m := by
    have q := congrArg List.length S.pre
    rw [List.length_take, hm] at q
    omega
  refine codeAny_call_function hr.depth (KX _ _ lk) rfl S.co S.gen rfl (PySem.W.codeRec_of KX hcd) (hb _ _ _ _ (wpAny_newFunctionEnv_cells S.kind inNames fun env he s1 x => ?_))
  subst he
  refine ⟨(e0.mod.nolimit.keeps same).keeps x.toInCall.keep, codeAny_func ?_⟩
  -- the body's context
  generalize hX : cxOf (L2N.CX Y.P Y.w) Y.P Y.w Y.K Y.mg Y.base N qual scope f cdv A outer s H E = X
  have I : Inv X [] (L2.start N vs) H s1 := by rw [← hX]; exact L2.inv_start S hr.hd e0 hl r x
  have CX0 : CxS X ⟨Y.T, Y.xf, fun cls dx _ H' => E cls dx H', Ow, fr⟩ N scope k := by
    subst hX
    exact ⟨⟨⟨eK, rfl, S.nd, rfl, L2H.roomH_of (hr.deeper _), hgd⟩, rfl, hr.deeper _, hx0⟩, fun _ => rfl, L2.passes_of rfl, L2N.takes_of rfl rfl rfl rfl⟩
  have J := hbody X _ Ow CX0 (by rw [← hX]; rfl) (by rw [← hX]; rfl) (by rw [← hX]; rfl) (by rw [← hX]; rfl) (by rw [← hX]; rfl) (by rw [← hX]; rfl) (by rw [← hX]; rfl) (by rw [← hX]; rfl) (by rw [← hX]; rfl)
  have hds : ds.length = ps.length := by rw [← rs.length]; exact hl
  have wish : tStm ⟨Y.T, Y.xf, fun cls dx _ H' => E cls dx H', Ow, fr⟩ g { nx := fun _ H' => Q .non H', rt := Q } (L2.start N vs) H :=
    ⟨_, st, ρ, Ow, start_en hm (by rw [hl]; exact hpl) sr rs, body_want sr.disj (hc ds st hds) p⟩
  have done := J.run [] s1 (L2.start N vs) H _ I wish
  subst hX
  refine wpAny_mono done (fun fl s' hs => ?_) fun e s' hs => hs
  cases fl with
  | ret u =>
    obtain ⟨v, σ', H', I', rv, q⟩ := hs
    exact ⟨v, H', I'.os, I'.bare, I'.base, I'.hok, rv, q⟩
  | next =>
    obtain ⟨σ', H', I', q⟩ := hs
    exact ⟨V.non, H', I'.os, I'.bare, I'.base, I'.hok, rfl, q⟩
  | brk =>
    obtain ⟨_, _, _, q⟩ := hs
    exact q.elim
  | cont =>
    obtain ⟨_, _, _, q⟩ := hs
    exact q.elim
end
section
variable {Y : Wd} {X : Cx} {W : WX} {N : List PySem.Str} {sc : Scope} {n k : Nat}
theorem CxS.y {Ow0 : List Addr} {fr : Bool} (C : CxS X ⟨Y.T, Y.xf, W, Ow0, fr⟩ N sc n) (eP : X.prog = Y.P) (ew : X.w = Y.w) (eK : X.K = Y.K) (em : X.mg = Y.mg) (eb : X.base = Y.base) : CxY X Y W N sc n :=
  ⟨C.toCxC, eP, ew, eK, em, eb, L2N.passAt C.tk⟩
theorem code_fnG {f : Addr} {fd : FuncData} {ps : List PySem.Str} {c : Fd} {pins : List (Addr × PySem.Obj)} {σ : L2.St} {H : Hp} {s : Shared} {Q : VK} {pos us : List Value} {kw : List (PySem.Str × Value)} {vs : List V} (C : CxY X Y W N sc n) (F : FnG Y k f fd ps c) (hk : k ≤ n)
    (hb : BindsTo s fd ⟨pos, kw⟩ (ps.zip us)) (I : Inv X pins σ H s) (r : Vals vs us) (hl : vs.length = ps.length) (h : Want Y.T Y.xf c vs H Q (L2.WE W σ)) :
    codeAny (model X.prog X.w) X.A (.call (.ref f) ⟨pos, kw⟩) (fun r s' => match r with | .ok (.ret v) => L2.EP X pins σ Q v s' | .ok _ => False | .error e => X.xe e s') s := by
  have e0 : Env0 Y.P Y.w Y.K Y.mg Y.base X.A X.stack s H := by
    have q := I.env0
    rw [C.eP, C.ew, C.eKY, C.em, C.eb] at q
    exact q
  have go := F.run X.A X.stack s H ⟨pos, kw⟩ us vs Q (L2.WE W σ) (C.room.mono hk) C.guards e0 hb r hl h
  rw [← C.eP, ← C.ew] at go
  refine codeAny_mono go fun res s' hq => ?_
  cases res with
  | error e => exact C.pass σ pins H s e s' I hq
  | ok fl =>
    cases fl with
    | ret u => exact I.after hq
    | _ => exact hq.elim
theorem run_fnG {f : Addr} {fd : FuncData} {ps : List PySem.Str} {c : Fd} {pins : List (Addr × PySem.Obj)} {σ : L2.St} {H : Hp} {s : Shared} {Q : VK} {pos us : List Value} {kw : List (PySem.Str × Value)} {vs : List V} (C : CxY X Y W N sc n) (F : FnG Y k f fd ps c) (hk : k ≤ n)
    (hb : BindsTo s fd ⟨pos, kw⟩ (ps.zip us)) (I : Inv X pins σ H s) (r : Vals vs us) (hl : vs.length = ps.length) (h : Want Y.T Y.xf c vs H Q (L2.WE W σ)) :
    wpAny (model X.prog X.w) X.A (PySem.call (.ref f) pos kw) (L2.EP X pins σ Q) X.xe s := wpAny_call (code_fnG C F hk hb I r hl h)
structure Fk (Y : Wd) (x : PySem.Str) (f : Addr) (fd : FuncData) (ps : List PySem.Str) : Prop where
  mg : Y.mg x = some (.ref f)
  keep : PySem.W.keepIn Y.K (.ref f) = true
  binds : Binds Y.K fd ps []
  ne : (x == ("__debug__" : PySem.Str)) = false
theorem plain_all : ∀ {es : List Expr} {ss : List Sem} {T : Tb} {xf : Nat → List Nm} {pos : Pos}, JEs X T xf W es ss → (backTo pos (starEach es X.env)).any (·.1) = false
  | _, _, _, _, _, .nil => rfl
  | _, _, _, _, _, .cons h j js => by
    rw [plain_star h]
    have q := plain_all (pos := ‹Pos›) js
    show (false || (backTo _ (starEach _ X.env)).any (·.1)) = false
    rw [q]; rfl
variable {x : PySem.Str} {f : Addr} {fd : FuncData} {ps : List PySem.Str} {c : Fd} {p pos : Pos} {e : Expr} {es : List Expr} {ss : List Sem}
theorem args_want (C : CxY X Y W N sc n) {σ : L2.St} {H : Hp} {Q : VK} (hl : ss.length = ps.length) (q : tVal Y.T Y.xf W true (many ss c) σ H Q) :
    tArg Y.T Y.xf W (args ss) σ H fun vs H1 => vs.length = ps.length ∧ Want Y.T Y.xf c vs H1 Q (L2.WE W σ) := by
  obtain ⟨env, st, ρ, Ow, en, sr, p⟩ := q
  refine ⟨env, st, ρ, Ow, en, sr, (Post.bind p).eqn.mono fun ds st1 H1 ρ1 e1 s1 q vs rs => ?_⟩
  refine ⟨by rw [rs.length, args_len q.1, hl], st1, ρ1, Ow, ds, s1, rs, ?_⟩
  have q2 := q.2
  cases hc : c ds st1 with
  | ok d st2 => rw [hc] at q2; exact q2
  | ex cc fs st2 => rw [hc] at q2; exact q2
  | bad => rw [hc] at q2; exact q2
theorem je_call (C : CxY X Y W N sc n) (F : FnG Y k f fd ps c) (hk : k ≤ n) (B : Fk Y x f fd ps) (hg : Gl X x) (hl : ss.length = ps.length) (js : JEs X Y.T Y.xf W es ss) :
    JE X Y.T Y.xf W (.Call (.Name x p) es [] pos) (Sem.of (many ss c)) true := by
  refine .of C.toCxG ⟨fun pins s σ H Q I q => ?_⟩
  have q1 := args_want C hl q
  have hm : X.mg x = some (.ref f) := by rw [C.em]; exact B.mg
  have hkp : PySem.W.keepIn X.K (.ref f) = true := by rw [C.eKY]; exact B.keep
  have bind : ∀ (s : Shared) (us : List Value), Y.K.In s.heap → us.length = ps.length → BindsTo s fd ⟨us, []⟩ (ps.zip us) := fun s us hK hu => by
    have b := B.binds s us hK (by rw [List.append_nil]; exact hu)
    rw [List.append_nil] at b
    exact b
  refine wpAny_Call_Name_kw (L2.ld_glob I hg hm ?_ B.ne)
  cases js with
  | nil =>
    obtain ⟨env, st, ρ, Ow, en, sr, po⟩ := q1
    obtain ⟨h1, h2⟩ := Post.ok sr po [] .nil
    exact PySem.W.callWith_K0 I.kIn hkp (run_fnG (us := []) C F hk (bind s [] (by rw [← C.eKY]; exact I.kIn) (by rw [← h1]; rfl)) I .nil h1 h2)
  | @cons e0 s0 es0 ss0 h j js =>
    refine PySem.W.callWith_K (h₀ := X.base) I.ok.mod.kin hkp (L2.thn ((pa_args (.cons h j js)).run pos pins s σ H _ I q1) fun us s1 ⟨vs, H1, I1, r, h1, h2⟩ => ⟨I1.kIn, ?_⟩) (plain_star h _ _) (plain_all js)
    exact run_fnG C F hk (bind s1 us (by rw [← C.eKY]; exact I1.kIn) (by rw [← r.length]; exact h1)) I1 r h1 h2
end
end G
namespace G
open PySem PySem.Spec PyProof.Rows
open L2 (V Hp HO upd SqL SqT Rd VK TE TT TA TI WX XK Cx PE PT PA PI Inv OpR CallR RelV Vals R2 PC PW)
section
variable {X : Cx} {T : Tb}
theorem allDig {s : List Nat} (h : s.all isDig = true) : NumText.AllDigits s := fun c hc => by
  have := List.all_eq_true.mp h c hc
  unfold isDig at this
  simp at this
  exact this
theorem foldDig : ∀ (s : List Nat) (a : Nat), s.foldl (fun n c => 10 * n + (c - 48)) a = s.foldl (fun acc c => acc * 10 + (c - 48)) a
  | [], _ => rfl
  | c :: s, a => by
    simp only [List.foldl_cons]
    rw [foldDig s, Nat.mul_comm]
theorem cr_int : CallR X (.type "int") (rBi T (bi .int)) := by
  intro pins s σ H xs us Q I r ⟨st, ρ, Ow, ds, dz, sr, rs, e, k⟩
  simp only [bi] at e
  split at e <;> try contradiction
  · rename_i i _
    cases e
    obtain ⟨v, rfl, r1⟩ := rs.one
    have e1 := r1.u.int
    subst e1
    exact L2.call_int1 pins s σ H _ us Q I r (.inl ⟨_, rfl, k _ _ (.inl rfl) (.int _)⟩)
  · rename_i b _
    cases e
    obtain ⟨v, rfl, r1⟩ := rs.one
    have e1 := r1.u.bl
    subst e1
    exact L2.call_int1 pins s σ H _ us Q I r (.inr ⟨_, rfl, k _ _ (.inl rfl) (.int _)⟩)
  · rename_i x _
    obtain ⟨v, rfl, r1⟩ := rs.one
    obtain ⟨rfl, z, c⟩ := r1.u.str
    split at e
    · rename_i hl
      cases e
      refine L2.call_int_str pins s σ H _ us Q I r ⟨_, _, rfl, intText_digits (x := ⟨x.toArray⟩) (allDig hl.2.2) hl.1 (by have := hl.2.1; simp [Str.length]; omega), by have := hl.2.1; simp [Str.length]; omega, ?_⟩
      have e2 : digVal x = NumText.digitsVal x := foldDig x 0
      have q := k (.int (digVal x : Nat)) H (.inl rfl) (.int _)
      rw [e2] at q
      exact q
    · cases e
theorem cr_abs : CallR X (.builtin "abs") (rBi T (bi .abs)) := by
  intro pins s σ H xs us Q I r ⟨st, ρ, Ow, ds, dz, sr, rs, e, k⟩
  simp only [bi] at e
  split at e <;> try contradiction
  rename_i i _
  cases e
  obtain ⟨v, rfl, r1⟩ := rs.one
  have e1 := r1.u.int
  subst e1
  refine L2.call_abs pins s σ H _ us Q I r ⟨_, rfl, ?_⟩
  have q := k (.int (i.natAbs : Int)) H (.inl rfl) (.int _)
  have e3 : ((i.natAbs : Nat) : Int) = if i < 0 then -i else i := by split <;> omega
  rw [e3] at q
  exact q
theorem cr_bool : CallR X (.type "bool") (rBi T (bi .bool)) := by
  intro pins s σ H xs us Q I r ⟨st, ρ, Ow, ds, dz, sr, rs, e, k⟩
  simp only [bi] at e
  split at e <;> try contradiction
  · cases e
    obtain ⟨v, rfl, r1⟩ := rs.one
    have e1 := r1.u.bl
    subst e1
    exact L2.call_bool1 pins s σ H _ us Q I r (.inr ⟨_, rfl, k _ _ (.inl rfl) (.bl _)⟩)
  · cases e
    obtain ⟨v, rfl, r1⟩ := rs.one
    have e1 := r1.u.int
    subst e1
    exact L2.call_bool1 pins s σ H _ us Q I r (.inl ⟨_, rfl, k _ _ (.inl rfl) (.bl _)⟩)
theorem sqE (hK : X.K = T.K) {H : Hp} {a : Addr} {vs : List V} (q : SqL T.K H a vs ∨ SqT T.K H a vs) : SqL X.K H a vs ∨ SqT X.K H a vs := by rw [hK]; exact q
theorem cr_tuple (hK : X.K = T.K) : CallR X (.type "tuple") (rBi T (bi .tuple)) := by
  intro pins s σ H xs us Q I r ⟨st, ρ, Ow, ds, dz, sr, rs, e, k⟩
  simp only [bi] at e
  split at e <;> try contradiction
  obtain ⟨ys, hy, e2⟩ := Option.map_eq_some_iff.mp e
  subst e2
  obtain ⟨v, rfl, r1⟩ := rs.one
  rename_i d _
  by_cases ht : ∃ zs, d = .tup zs
  · obtain ⟨zs, rfl⟩ := ht
    cases hy
    obtain ⟨a, vs, rfl, q, z, rr⟩ := r1.u.tup
    exact call_tupleF pins s σ H _ us Q I r ⟨a, vs, rfl, .inr ⟨by rw [hK]; exact q.sq, k _ _ (.inl rfl) (.tup q z rr)⟩⟩
  · obtain ⟨a, vs, rfl, q, z, rr⟩ := r1.seqL sr (fun zs h => ht ⟨zs, h⟩) hy
    exact call_tupleF pins s σ H _ us Q I r ⟨a, vs, rfl, .inl ⟨by rw [hK]; exact q, fun l o hl ho => k _ _ (.inr ⟨l, _, hl, rfl⟩) (rv_tup hl ho (sr.fresh hl).1 z rr)⟩⟩
theorem cr_list (hK : X.K = T.K) : CallR X (.type "list") (rBi T (bi .list)) := by
  intro pins s σ H xs us Q I r ⟨st, ρ, Ow, ds, dz, sr, rs, e, k⟩
  simp only [bi] at e
  split at e <;> try contradiction
  obtain ⟨ys, hy, e2⟩ := Option.map_eq_some_iff.mp e
  subst e2
  obtain ⟨v, rfl, r1⟩ := rs.one
  obtain ⟨a, vs, rfl, q, z, rr⟩ := r1.seq sr hy
  exact L2.call_list_of pins s σ H _ us Q I r ⟨a, vs, rfl, sqE hK q, fun l hl => k _ _ (.inr ⟨l, _, hl, rfl⟩) (rv_lst hl (sr.fresh hl).1 (sr.fresh hl).2 z rr)⟩
theorem cr_divmod : CallR X (.builtin "divmod") (rBi T (bi .divmod)) := by
  intro pins s σ H xs us Q I r ⟨st, ρ, Ow, ds, dz, sr, rs, e, k⟩
  simp only [bi] at e
  split at e <;> try contradiction
  rename_i i j _
  split at e
  · rename_i hd
    cases e
    obtain ⟨v, w, rfl, r1, r2⟩ := rs.two
    have e1 := r1.u.int
    have e2 := r2.u.int
    subst e1 e2
    have hw := okDiv_w (i := i) hd
    refine call_divmodF pins s σ H _ us Q I r ⟨i, j, rfl, ⟨hw.1, ?_⟩, fun p o hp ho => k _ _ (.inr ⟨p, _, hp, rfl⟩) (rv_tup hp ho (sr.fresh hp).1 (by rw [lim_line, sizeLine_eq]; simp) (.cons (.int _) (.cons (.int _) .nil)))⟩
    refine PyProof.noPylong_of_log2 ?_
    unfold okDiv DIV at hd
    rw [Bool.and_eq_true, decide_eq_true_eq, decide_eq_true_eq] at hd
    have h0 : j.natAbs ≠ 0 := by omega
    exact Nat.lt_trans ((Nat.log2_lt h0).mpr hd.2) (by decide)
  · cases e
theorem cr_min (hc : X.calm = true) (hK : X.K = T.K) : CallR X (.builtin "min") (rBi T (bi .min)) := by
  intro pins s σ H xs us Q I r ⟨st, ρ, Ow, ds, dz, sr, rs, e, k⟩
  simp only [bi] at e
  split at e <;> try contradiction
  · rename_i i j _
    cases e
    obtain ⟨v, w, rfl, r1, r2⟩ := rs.two
    have e1 := r1.u.int
    have e2 := r2.u.int
    subst e1 e2
    exact L2.call_min2 hc pins s σ H _ us Q I r ⟨_, _, rfl, k _ _ (.inl rfl) (.int _)⟩
  · rename_i d _
    obtain ⟨ys, hy, e2⟩ := Option.bind_eq_some_iff.mp e
    obtain ⟨is, hi, e3⟩ := Option.bind_eq_some_iff.mp e2
    obtain ⟨m, hm, e4⟩ := Option.map_eq_some_iff.mp e3
    subst e4
    obtain ⟨v, rfl, r1⟩ := rs.one
    obtain ⟨a, vs, rfl, q, z, rr⟩ := r1.list sr hy
    have ev := ints_vals hi rr
    subst ev
    obtain ⟨m1, m2⟩ := minI_ok hm
    refine L2.cr_min hc pins s σ H _ us Q I r ⟨a, is, rfl, by rw [hK]; exact q, List.length_pos_of_mem m1, fun m' h1 h2 => ?_⟩
    have : m' = m := by have := h2 m m1; have := m2 m' h1; omega
    subst this
    exact k _ _ (.inl rfl) (.int _)
theorem cr_max (hc : X.calm = true) (hK : X.K = T.K) : CallR X (.builtin "max") (rBi T (bi .max)) := by
  intro pins s σ H xs us Q I r ⟨st, ρ, Ow, ds, dz, sr, rs, e, k⟩
  simp only [bi] at e
  split at e <;> try contradiction
  · rename_i i j _
    cases e
    obtain ⟨v, w, rfl, r1, r2⟩ := rs.two
    have e1 := r1.u.int
    have e2 := r2.u.int
    subst e1 e2
    exact L2.call_max2 hc pins s σ H _ us Q I r ⟨_, _, rfl, k _ _ (.inl rfl) (.int _)⟩
  · rename_i d _
    obtain ⟨ys, hy, e2⟩ := Option.bind_eq_some_iff.mp e
    obtain ⟨is, hi, e3⟩ := Option.bind_eq_some_iff.mp e2
    obtain ⟨m, hm, e4⟩ := Option.map_eq_some_iff.mp e3
    subst e4
    obtain ⟨v, rfl, r1⟩ := rs.one
    obtain ⟨a, vs, rfl, q, z, rr⟩ := r1.list sr hy
    have ev := ints_vals hi rr
    subst ev
    obtain ⟨m1, m2⟩ := maxI_ok hm
    refine L2.cr_max hc pins s σ H _ us Q I r ⟨a, is, rfl, by rw [hK]; exact q, List.length_pos_of_mem m1, fun m' h1 h2 => ?_⟩
    have : m' = m := by have := h2 m m1; have := m2 m' h1; omega
    subst this
    exact k _ _ (.inl rfl) (.int _)
theorem cr_sum (hc : X.calm = true) (hK : X.K = T.K) : CallR X (.builtin "sum") (rBi T (bi .sum)) := by
  intro pins s σ H xs us Q I r ⟨st, ρ, Ow, ds, dz, sr, rs, e, k⟩
  simp only [bi] at e
  split at e <;> try contradiction
  rename_i d _
  obtain ⟨ys, hy, e2⟩ := Option.bind_eq_some_iff.mp e
  obtain ⟨is, hi, e4⟩ := Option.map_eq_some_iff.mp e2
  subst e4
  obtain ⟨v, rfl, r1⟩ := rs.one
  obtain ⟨a, vs, rfl, q, z, rr⟩ := r1.list sr hy
  have ev := ints_vals hi rr
  subst ev
  exact L2.cr_sum hc pins s σ H _ us Q I r ⟨a, is, rfl, by rw [hK]; exact q, k _ _ (.inl rfl) (.int _)⟩
theorem cr_all (hc : X.calm = true) (hK : X.K = T.K) : CallR X (.builtin "all") (rBi T (bi .all)) := by
  intro pins s σ H xs us Q I r ⟨st, ρ, Ow, ds, dz, sr, rs, e, k⟩
  simp only [bi] at e
  split at e <;> try contradiction
  rename_i d _
  obtain ⟨ys, hy, e2⟩ := Option.bind_eq_some_iff.mp e
  obtain ⟨bs, hi, e4⟩ := Option.map_eq_some_iff.mp e2
  subst e4
  obtain ⟨v, rfl, r1⟩ := rs.one
  obtain ⟨a, vs, rfl, q, z, rr⟩ := r1.list sr hy
  have ev := bls_vals hi rr
  subst ev
  exact L2.cr_all hc pins s σ H _ us Q I r ⟨a, bs, rfl, by rw [hK]; exact q, k _ _ (.inl rfl) (.bl _)⟩
theorem cr_any (hc : X.calm = true) (hK : X.K = T.K) : CallR X (.builtin "any") (rBi T (bi .any)) := by
  intro pins s σ H xs us Q I r ⟨st, ρ, Ow, ds, dz, sr, rs, e, k⟩
  simp only [bi] at e
  split at e <;> try contradiction
  rename_i d _
  obtain ⟨ys, hy, e2⟩ := Option.bind_eq_some_iff.mp e
  obtain ⟨bs, hi, e4⟩ := Option.map_eq_some_iff.mp e2
  subst e4
  obtain ⟨v, rfl, r1⟩ := rs.one
  obtain ⟨a, vs, rfl, q, z, rr⟩ := r1.list sr hy
  have ev := bls_vals hi rr
  subst ev
  exact L2.cr_any hc pins s σ H _ us Q I r ⟨a, bs, rfl, by rw [hK]; exact q, k _ _ (.inl rfl) (.bl _)⟩
section
variable {X : Cx} {T : Tb} {pins : List (Addr × PySem.Obj)} {σ : L2.St} {H : Hp} {s : Shared} {ρ Ow : List Addr}
theorem each_zipS {R : Value → V × D → Prop} : ∀ {its : List Value} {vs : List V} {xs : List D}, Vals vs its → RVs T H ρ Ow vs xs → (∀ u v d, d ∈ xs → RelV v u → RV T H ρ Ow v d → R u (v, d)) → PySem.W.EachIs R its (vs.zip xs)
  | _, _, _, .nil, .nil, _ => .nil
  | _, _, _, .cons r rs, .cons q qs, h => .cons (h _ _ _ (by simp) r q) (each_zipS rs qs fun u v d hd => h u v d (by simp [hd]))
theorem zip_sndS {vs : List V} {xs : List D} (r : RVs T H ρ Ow vs xs) : (vs.zip xs).map Prod.snd = xs := by
  rw [List.map_snd_zip]
  exact Nat.le_of_eq r.length.symm
theorem each_valsS {R : Value → V × D → Prop} (hR : ∀ u p, R u p → RelV p.1 u) : ∀ {its : List Value} {bs : List (V × D)}, PySem.W.EachIs R its bs → Vals (bs.map Prod.fst) its
  | _, _, .nil => .nil
  | _, _, .cons r rs => .cons (hR _ _ r) (each_valsS hR rs)
theorem each_rvsS {R : Value → V × D → Prop} (hR : ∀ u p, R u p → RV T H ρ Ow p.1 p.2) : ∀ {its : List Value} {bs : List (V × D)}, PySem.W.EachIs R its bs → RVs T H ρ Ow (bs.map Prod.fst) (bs.map Prod.snd)
  | _, _, .nil => .nil
  | _, _, .cons r rs => .cons (hR _ _ r) (each_rvsS hR rs)
theorem zip_rvS : ∀ {vs : List V} {xs : List D}, RVs T H ρ Ow vs xs → ∀ p ∈ vs.zip xs, RV T H ρ Ow p.1 p.2
  | _, _, .nil, p, h => by cases h
  | _, _, .cons r rs, p, h => by
    rcases List.mem_cons.mp (by simpa using h) with rfl | h
    · exact r
    · exact zip_rvS rs p h
theorem okEqs_mem {n : Nat} : ∀ {xs : List D}, okEqs n xs = true → ∀ x ∈ xs, okEq n x = true
  | [], _, x, h => by cases h
  | y :: ys, e, x, h => by
    have h' : okEq n y = true ∧ okEqs n ys = true := by simpa [okEqs] using e
    rcases List.mem_cons.mp h with rfl | h
    · exact h'.1
    · exact okEqs_mem h'.2 x h
theorem sorted_tup {prog : Program} {w : World} {A : Around} {E : Value → Shared → Prop} {β : Type} {R : Value → β → Prop} {enc : β → PyData} {bs : List β} {l : Addr} {vs : List Value} {n : Nat} {o : PySem.Obj} {Q : Value → Shared → Prop} (ho : s.heap.get? l = some o) (hc : o.cls = .type "tuple") (hd : o.data = .seq vs.toArray n) (e : PySem.W.EachIs R vs bs) (er : PySem.W.EachIs (fun v b => ∃ as, Reads s.heap v (enc b) as) vs bs) (hal : PySem.W.AllAlike (bs.map enc)) (hk : PySem.W.Sortable (bs.map enc)) (hL : bs.length ≤ sizeLine)
    (hu : ∀ b, b ∈ bs → A.units + 2 + (enc b).depth < cLine)
    (h : ∀ out (h' : Heap) (a : Addr), (∀ b o, s.heap.get? b = some o → h'.get? b = some o) → (∃ g : Heap, (∀ b o, s.heap.get? b = some o → g.get? b = some o) ∧ a = g.objs.size) → out.length = bs.length → PySem.W.EachIs R out (bs.mergeSort (PySem.W.dataLe false enc)) → (∃ ep, h'.get? a = some (PyProof.Rows.seqObj "list" out.toArray ep)) → Q (.ref a) { s with heap := h' }) :
    wpAny (model prog w) A (PySem.call (.builtin "sorted") [.ref l]) Q E s := by
  have hLv : vs.length ≤ sizeLine := by rw [e.length]; exact hL
  refine call_function_entry_kw PyProof.Rows.kind_sorted PyProof.Rows.plain_sorted PyProof.Rows.entry_sorted (PyProof.Rows.args_sorted1 _) ?_
  unfold PySem.Builtin.«sorted»
  refine wpAny_bind (m := checkCount "sorted" 1 1 _) (wpAny_pure ?_)
  refine wpAny_bind (PySem.wpAny_collect_seq l (.inr rfl) ho hc hd (fun h' keep => ?_) (by simpa using hLv))
  refine wpAny_bind (wpAny_newList ?_ (by simpa using hLv))
  have evs : vs.toArray.toList = vs := by simp
  rw [evs]
  generalize hhp : h'.push { cls := Value.type "list", data := Data.seq vs.toArray } = hp
  have hpa : hp.get? h'.objs.size = some (PyProof.Rows.seqObj "list" vs.toArray 0) := by rw [← hhp]; exact Heap.get?_push_size _ rfl
  have kp : ∀ b o, s.heap.get? b = some o → hp.get? b = some o := fun b o e => by rw [← hhp]; exact Heap.get?_push_of_some _ (keep b o e)
  have ne : ∀ b o, s.heap.get? b = some o → b ≠ h'.objs.size := fun b o e => Nat.ne_of_lt (Heap.lt_size (keep b o e))
  have er' : PySem.W.EachIs (fun v b => ∃ as, Reads (PySem.W.sortingHeap hp h'.objs.size vs) v (enc b) as) vs bs := er.mono fun _ _ ⟨as, r⟩ => ⟨as, PyProof.Rows.Reads.keeps (fun b o e => PySem.W.sortingHeap_old (ne b o e) (kp b o e)) r⟩
  show wpAny (model prog w) A.in1 (do
      let _ ← holding [Value.ref h'.objs.size] (call (Value.builtin "list.sort") [Value.ref h'.objs.size] [])
      ret (Value.ref h'.objs.size)) _ _ { s with heap := hp }
  refine wpAny_bind (wpAny_holding (wpAny_call_entry_kw PyProof.Rows.slot_list_sort ⟨_, hpa, rfl⟩ PyProof.Rows.entry_list_sort ?body (PyProof.Rows.args_list_sort _)))
  case body =>
    show wpAny (model prog w) A.in1.in1 (Builtin.«list.sort» ⟨[.ref h'.objs.size], []⟩) _ _ _
    refine PySem.W.list_sort_vals (s := { s with heap := hp }) (n := 0) hpa (PySem.W.SortsAt.data (s := { s with heap := PySem.W.sortingHeap hp h'.objs.size vs }) (PySem.W.each_map (R := fun v d => ∃ as, Reads (PySem.W.sortingHeap hp h'.objs.size vs) v d as) enc er') hal hk (PySem.W.bound_map hu)) hLv ?_
    refine ⟨_, rfl, wpAny_pure ⟨_, rfl, ?_⟩⟩
    obtain ⟨ep, he⟩ := PyProof.Rows.sortedHeap_at (vs := vs) (out := (PySem.W.sortVals (PySem.W.dataKind (PySem.W.sortingHeap hp h'.objs.size vs) (bs.map enc)) false vs vs).toArray) hpa
    refine h _ _ _ (fun b o eb => ?_) ⟨h', keep, rfl⟩ (by rw [PySem.W.sortVals_length false rfl]; exact e.length) (PySem.W.sortVals_data false e er' hal) ⟨ep, he⟩
    rw [PyProof.Rows.sortedHeap_old (ne b o eb) (Heap.lt_size (kp b o eb))]; exact kp b o eb
theorem sortD_call {a : Addr} {vs : List V} {xs ys : List D} {Q : VK} {E' : Value → Shared → Prop} (hK : X.K = T.K) (hu : X.A.units + 70 < cLine) (I : Inv X pins σ H s) (q : SqL T.K H a vs ∨ SqT T.K H a vs) (z : vs.length ≤ LIM) (rs : RVs T H ρ Ow vs xs) (e : sortD xs = some ys)
    (k : ∀ p ws, H p = none → ws.length ≤ LIM → RVs T H ρ Ow ws ys → Q (.ref p) (upd H p (.lst ws))) : wpAny (model X.prog X.w) X.A (PySem.call (.builtin "sorted") [.ref a]) (L2.EP X pins σ Q) E' s := by
  unfold sortD at e
  split at e
  · rename_i hc
    injection e with e
    subst e
    simp only [Bool.and_eq_true, Bool.or_eq_true] at hc
    obtain ⟨⟨ok, al⟩, sh⟩ := hc
    have okm := okEqs_mem ok
    have hz2 : vs.length ≤ sizeLine := by rw [← lim_line]; exact z
    have hsnd := zip_sndS rs
    have hmk : (vs.zip xs).map (fun p : V × D => toPy p.2) = xs.map toPy := by
      have := congrArg (List.map toPy) hsnd
      rw [List.map_map] at this
      exact this
    have hlen : (vs.zip xs).length = xs.length := by
      have := congrArg List.length hsnd
      rwa [List.length_map] at this
    have e1 : ∀ its, Vals vs its → PySem.W.EachIs (fun (u : Value) (p : V × D) => RelV p.1 u ∧ RV T H ρ Ow p.1 p.2) its (vs.zip xs) := fun its rv => each_zipS rv rs fun u v d _ r q => ⟨r, q⟩
    have e2 : ∀ its, Vals vs its → PySem.W.EachIs (fun (u : Value) (p : V × D) => ∃ as, Reads s.heap u (toPy p.2) as) its (vs.zip xs) := fun its rv => each_zipS rv rs fun u v d hd r q => L2.Dp.reads I _ v u (by rw [hK]; exact (dp_of 8 d v (okm d hd) q).1) r
    have hal : PySem.W.AllAlike ((vs.zip xs).map fun p : V × D => toPy p.2) := by
      rw [hmk]
      intro d hd d' hd'
      obtain ⟨x, hx, rfl⟩ := List.mem_map.mp hd
      obtain ⟨y, hy, rfl⟩ := List.mem_map.mp hd'
      exact List.all_eq_true.mp (List.all_eq_true.mp al x hx) y hy
    have hsk : PySem.W.Sortable ((vs.zip xs).map fun p : V × D => toPy p.2) := by
      rw [hmk]
      rcases sh with sh | sh
      · left
        intro d hd
        obtain ⟨x, hx, rfl⟩ := List.mem_map.mp hd
        have := List.all_eq_true.mp sh x hx
        cases x with
        | tup ds =>
          cases ds with
          | nil => simp [srtT] at this
          | cons y ds => exact ⟨_, _, rfl⟩
        | _ => simp [srtT] at this
      · right
        intro d hd
        obtain ⟨x, hx, rfl⟩ := List.mem_map.mp hd
        have := List.all_eq_true.mp sh x hx
        cases x with
        | str t => exact ⟨fun e => by simp [toPy] at e, fun xs e => by simp [toPy] at e⟩
        | _ => simp [srtS] at this
    have hfn : PySem.W.dataLe false (fun p : V × D => toPy p.2) = fun a b => PySem.W.dataLe false toPy a.2 b.2 := by funext a b; rfl
    have hdp : ∀ p, p ∈ vs.zip xs → X.A.units + 2 + (toPy p.2).depth < cLine := fun p hp => by
      have hp2 : p.2 ∈ xs := by rw [← hsnd]; exact List.mem_map_of_mem hp
      have := (dp_of 8 p.2 p.1 (okm _ hp2) (zip_rvS rs p hp)).2.2
      omega
    have fin : ∀ (out : List Value) (h' : Heap) (a' : Addr), (∀ b o, s.heap.get? b = some o → h'.get? b = some o) → s.heap.get? a' = none → H a' = none → PySem.W.EachIs (fun (u : Value) (p : V × D) => RelV p.1 u ∧ RV T H ρ Ow p.1 p.2) out ((vs.zip xs).mergeSort (PySem.W.dataLe false fun p : V × D => toPy p.2)) → (∃ ep, h'.get? a' = some (PyProof.Rows.seqObj "list" out.toArray ep)) → L2.EP X pins σ Q (.ref a') { s with heap := h' } := fun out h' a' kp hn hH hE ⟨ep, he'⟩ => by
      rw [hfn] at hE
      have em : ((vs.zip xs).mergeSort fun a b => PySem.W.dataLe false toPy a.2 b.2).map Prod.snd = xs.mergeSort (PySem.W.dataLe false toPy) := by
        rw [PySem.W.sort_maps (s := PySem.W.dataLe false toPy) Prod.snd (fun _ _ _ _ => rfl), hsnd]
      have rvs := each_rvsS (T := T) (H := H) (ρ := ρ) (Ow := Ow) (fun u p h => h.2) hE
      rw [em] at rvs
      have vls := each_valsS (fun u (p : V × D) (h : RelV p.1 u ∧ RV T H ρ Ow p.1 p.2) => h.1) hE
      have hln : (((vs.zip xs).mergeSort fun a b => PySem.W.dataLe false toPy a.2 b.2).map Prod.fst).length = vs.length := by
        rw [List.length_map, List.length_mergeSort, hlen, rs.length]
      exact ⟨.ref _, _, I.laidN (t' := s.toks) kp hn hH (show L2.ObjOk X.prog X.w _ _ _ (.lst _) from ⟨by rw [hln]; exact hz2, out, ep, vls, he'⟩), rfl, k _ _ hH (by rw [hln]; exact z) rvs⟩
    rcases q with q | q
    · obtain ⟨its, rv, pl, hz2⟩ := I.list (by rw [hK]; exact q)
      refine PySem.W.sorted_data (R := fun (u : Value) (p : V × D) => RelV p.1 u ∧ RV T H ρ Ow p.1 p.2) (enc := fun p : V × D => toPy p.2) pl.isList (e1 its rv) (e2 its rv) hal hsk (by rw [hlen, ← rs.length]; exact hz2) hdp fun out ho hE => ?_
      refine fin out _ _ (fun _ _ => PyProof.Rows.sortedAll_old) ?_ (I.hok.fresh (Nat.le_succ _)) hE (PyProof.Rows.sortedAll_at s.heap its out.toArray)
      cases q : s.heap.get? (s.heap.objs.size + 1) with
      | none => rfl
      | some u => exact absurd (Heap.lt_size q) (Nat.not_lt.mpr (Nat.le_succ _))
    · obtain ⟨its, rv, ⟨o, ho, hc, n, hd⟩, hz2⟩ := I.tuple (by rw [hK]; exact q)
      refine sorted_tup (R := fun (u : Value) (p : V × D) => RelV p.1 u ∧ RV T H ρ Ow p.1 p.2) (enc := fun p : V × D => toPy p.2) ho hc hd (e1 its rv) (e2 its rv) hal hsk (by rw [hlen, ← rs.length]; exact hz2) hdp fun out h' a' kp ⟨g, hg, ea⟩ hl hE he => ?_
      refine fin out h' a' kp ?_ (by rw [ea]; exact (I.hok.kept hg).fresh (Nat.le_refl _)) hE he
      cases q : s.heap.get? a' with
      | none => rfl
      | some u => exact absurd (ea ▸ Heap.lt_size (hg _ _ q)) (Nat.lt_irrefl _)
  · cases e
end
theorem cr_sorted (hK : X.K = T.K) (hu : X.A.units + 70 < cLine) : CallR X (.builtin "sorted") (rBi T (bi .sorted)) := by
  intro pins s σ H xs us Q I r ⟨st, ρ, Ow, ds, dz, sr, rs, e, k⟩
  simp only [bi] at e
  split at e <;> try contradiction
  rename_i d _
  obtain ⟨v, rfl, r1⟩ := rs.one
  split at e
  · rename_i is he
    cases e
    obtain ⟨ys, hy, hi⟩ := Option.bind_eq_some_iff.mp he
    obtain ⟨a, vs, rfl, q, z, rr⟩ := r1.list sr hy
    have ev := ints_vals hi rr
    subst ev
    refine L2.cr_sortedI pins s σ H _ us Q I r ⟨a, is, rfl, by rw [hK]; exact q, fun ns' p hp hs hn => ?_⟩
    have en : ns' = is.mergeSort leI := sorted_uniq hp hs
    subst en
    refine k _ _ (.inr ⟨p, _, hn, rfl⟩) (rv_lst hn (sr.fresh hn).1 (sr.fresh hn).2 ?_ (rvs_ints _))
    rw [List.length_map, hp.length_eq]
    simpa using z
  · obtain ⟨ys, hy, e2⟩ := Option.bind_eq_some_iff.mp e
    obtain ⟨zs, hz, e3⟩ := Option.map_eq_some_iff.mp e2
    subst e3
    obtain ⟨a, vs, rfl, q, z, rr⟩ := r1.seq sr hy
    rw [Vals.ref1 r]
    exact sortD_call hK hu I q z rr hz fun p ws hn hzw rw => k _ _ (.inr ⟨p, _, hn, rfl⟩) (rv_lst hn (sr.fresh hn).1 (sr.fresh hn).2 hzw rw)
theorem natStr_ok (n : Nat) : (natStr n).all okCode = true := List.all_eq_true.mpr fun c hc => by
  have := TL.numL_digits n c hc
  unfold okCode
  exact decide_eq_true (by omega)
theorem natStr_len {n : Nat} (h : n < 2 ^ 1900) : (natStr n).length ≤ 1900 := by
  unfold natStr
  rw [List.length_map]
  exact PySem.toDigits_len_pow (b := 10) (by decide) (by decide) (Nat.lt_of_lt_of_le h (Nat.pow_le_pow_left (by decide) _))
theorem intStr_ok (i : Int) : (intStr i).all okCode = true := by
  cases i with
  | ofNat n => exact natStr_ok n
  | negSucc n =>
    show (okCode 45 && (natStr (n + 1)).all okCode) = true
    rw [natStr_ok]; rfl
theorem intStr_len {i : Int} (h : i.natAbs < 2 ^ 1900) : (intStr i).length ≤ LIM := by
  rw [lim_line, sizeLine_eq]
  cases i with
  | ofNat n =>
    have := natStr_len (n := n) h
    show (natStr n).length ≤ _
    omega
  | negSucc n =>
    have := natStr_len (n := n + 1) h
    show (45 :: natStr (n + 1)).length ≤ _
    rw [List.length_cons]
    omega
theorem cr_str : CallR X (.type "str") (rBi T (bi .str)) := by
  intro pins s σ H xs us Q I r ⟨st, ρ, Ow, ds, dz, sr, rs, e, k⟩
  simp only [bi] at e
  split at e <;> try contradiction
  · rename_i i _
    split at e
    · rename_i hl
      cases e
      obtain ⟨v, rfl, r1⟩ := rs.one
      have e1 := r1.u.int
      subst e1
      refine L2.call_str_int pins s σ H _ us Q I r ⟨i, rfl, ?_, ?_⟩
      · by_cases h0 : i.natAbs = 0
        · rw [h0]; decide
        · exact Nat.lt_trans ((Nat.log2_lt h0).mpr hl) (by decide)
      · have q := k (.str ⟨(intStr i).toArray⟩) H (.inl rfl) (.str _ (intStr_len hl) (intStr_ok i))
        rw [← intStr_eq] at q
        exact q
    · cases e
  · rename_i x _
    cases e
    obtain ⟨v, rfl, r1⟩ := rs.one
    obtain ⟨rfl, z, c⟩ := r1.u.str
    exact SkE.call_str_str pins s σ H _ us Q I r ⟨_, rfl, k _ _ (.inl rfl) (.str _ z c)⟩
end
end G
namespace G
open PySem PySem.Spec PyProof.Rows
open L2 (V Hp HO upd SqL SqT Rd VK TE TT TA TI WX XK Cx PE PT PA PI Inv OpR CallR RelV Vals R2 PC PW Gl)
section
variable {X : Cx} {T : Tb} {xf : Nat → List Nm} {W : WX} {N : List PySem.Str} {sc : Scope} {n : Nat}
inductive JWs (X : Cx) (T : Tb) (xf : Nat → List Nm) (W : WX) : List Expr → List Sem → Prop
  | nil : JWs X T xf W [] []
  | cons {e : Expr} {s : Sem} {str : Bool} {es : List Expr} {ss : List Sem} (h : plainE e = true) (j : JE X T xf W e s str) (js : JWs X T xf W es ss) : JWs X T xf W (e :: es) (s :: ss)
def tArgW (T : Tb) (xf : Nat → List Nm) (W : WX) (f : Env → Store → O (List D)) : TA := fun σ H Q => At T xf W f (fun ds ρ Ow H' => ∀ vs, RWs T H' ρ Ow vs ds → Q vs H') σ H
theorem pa_argsW : ∀ {es : List Expr} {ss : List Sem}, JWs X T xf W es ss → PA X es (tArgW T xf W (args ss))
  | _, _, .nil => PA.imp L2.pa_nil fun σ H Q ⟨env, st, ρ, Ow, en, sr, p⟩ => Post.ok sr p [] .nil
  | _, _, .cons h j js => PA.imp (L2.pa_cons j.val (pa_argsW js) (plain_star h _ _)) fun σ H Q ⟨env, st, ρ, Ow, en, sr, p⟩ => by
    refine ⟨env, st, ρ, Ow, en, sr, (Post.bind p).mono fun d st1 H1 ρ1 e1 s1 q v r => ?_⟩
    refine ⟨env, st1, ρ1, Ow, en.ext e1 sr.disj, s1, (Post.bind q).mono fun ds st2 H2 ρ2 e2 s2 q2 vs rs => ?_⟩
    exact Post.ok s2 q2 _ (.cons (RW.ext e2 r.w) rs)
theorem plain_allW : ∀ {es : List Expr} {ss : List Sem} {pos : Pos}, JWs X T xf W es ss → (backTo pos (starEach es X.env)).any (·.1) = false
  | _, _, _, .nil => rfl
  | _, _, _, .cons h j js => by
    rw [plain_star h]
    have q := plain_allW (pos := ‹Pos›) js
    show (false || (backTo _ (starEach _ X.env)).any (·.1)) = false
    rw [q]; rfl
def biTy : Bi → Bool
  | .int | .str | .bool | .tuple | .list => true
  | _ => false
def biNm : Bi → String
  | .len => "len" | .int => "int" | .str => "str" | .repr => "repr" | .abs => "abs" | .bool => "bool" | .min => "min" | .max => "max" | .sum => "sum" | .sorted => "sorted"
  | .tuple => "tuple" | .list => "list" | .all => "all" | .any => "any" | .divmod => "divmod"
def biFn (f : Bi) : Value := if biTy f then .type (biNm f) else .builtin (biNm f)
theorem cr_bi (C : CxC X T N sc n) (f : Bi) (hf : f ≠ .repr) : CallR X (biFn f) (rBi T (bi f)) := by
  cases f with
  | len => exact cr_len C.eK
  | int => exact cr_int
  | str => exact cr_str
  | repr => exact absurd rfl hf
  | abs => exact cr_abs
  | bool => exact cr_bool
  | min => exact cr_min C.calm C.eK
  | max => exact cr_max C.calm C.eK
  | sum => exact cr_sum C.calm C.eK
  | sorted => exact cr_sorted C.eK (by have := C.room.un; omega)
  | tuple => exact cr_tuple C.eK
  | list => exact cr_list C.eK
  | all => exact cr_all C.calm C.eK
  | any => exact cr_any C.calm C.eK
  | divmod => exact cr_divmod
theorem bi_blt (f : Bi) : bootBuiltins (biNm f) = some (biFn f) := by cases f <;> kernel_rfl
theorem bi_ne (f : Bi) : ((biNm f : PySem.Str)) ≠ "__name__" := by cases f <;> decide
theorem bi_nd (f : Bi) : (((biNm f : PySem.Str)) == ("__debug__" : PySem.Str)) = false := by cases f <;> decide
variable {p pos : Pos} {es : List Expr} {ss : List Sem}
theorem bi_imp {f : Bi} {σ : L2.St} {H : Hp} {Q : VK} (q : tVal T xf W true (many ss fun ds st => .of (bi f st ds) st) σ H Q) : tArgW T xf W (args ss) σ H fun vs H1 => rBi T (bi f) vs H1 Q := by
  obtain ⟨env, st, ρ, Ow, en, sr, p⟩ := q
  refine ⟨env, st, ρ, Ow, en, sr, (Post.bind p).mono fun ds st1 H1 ρ1 e1 s1 q vs rs => ?_⟩
  cases e : bi f st1 ds with
  | none => rw [e] at q; exact q.elim
  | some dz =>
    rw [e] at q
    exact ⟨st1, ρ1, Ow, ds, dz, s1, rs, e, fun v H' nw r => q H' ρ1 (nw.ext ρ1) (nw.st s1) v r⟩
theorem je_biR {f : Bi} (C : CxG X T N sc n) (hc : CallR X (biFn f) (rBi T (bi f))) (hg : Gl X (biNm f)) (hm : X.mg (biNm f) = none) (hne : es ≠ []) (js : JWs X T xf W es ss) :
    JE X T xf W (.Call (.Name (biNm f) p) es [] pos) (Sem.of (many ss fun ds st => .of (bi f st ds) st)) true := by
  refine .of C ?_
  cases js with
  | nil => exact absurd rfl hne
  | cons h j js =>
    unfold biFn at hc
    have hv := bi_blt f
    unfold biFn at hv
    split at hc
    · rename_i ht
      rw [if_pos ht] at hv
      exact PE.imp (L2.pe_callTy hc hg hm hv (pa_argsW (.cons h j js)) (bi_ne f) (bi_nd f) (plain_star h _ _) (plain_allW js)) fun σ H Q q => bi_imp q
    · rename_i ht
      rw [if_neg ht] at hv
      exact PE.imp (L2.pe_callB hc hg hm hv (pa_argsW (.cons h j js)) (bi_ne f) (bi_nd f) (plain_star h _ _) (plain_allW js)) fun σ H Q q => bi_imp q
theorem je_bi {f : Bi} (C : CxC X T N sc n) (hf : f ≠ .repr) (hg : Gl X (biNm f)) (hm : X.mg (biNm f) = none) (hne : es ≠ []) (js : JWs X T xf W es ss) :
    JE X T xf W (.Call (.Name (biNm f) p) es [] pos) (Sem.of (many ss fun ds st => .of (bi f st ds) st)) true := je_biR C.toCxG (cr_bi C f hf) hg hm hne js
end
end G
namespace G
open PySem PySem.Spec PyProof.Rows
open L2 (V Hp HO upd SqL SqT Rd VK TE TT TA TI WX XK Cx PE PT PA PI Inv OpR CallR RelV Vals R2 PC PW Gl)
section
variable {X : Cx} {T : Tb} {N : List PySem.Str} {sc : Scope} {n : Nat}
mutual
theorem okEq_dict : ∀ (n : Nat) (d : D), okEq n d = true → (toPy d).hasDict = false
  | _, .non, _ => rfl
  | _, .bl _, _ => rfl
  | _, .int _, _ => rfl
  | _, .str _, _ => rfl
  | 0, .tup _, h => by simp [okEq] at h
  | n + 1, .tup xs, h => okEqs_dict n xs (by simpa [okEq] using h)
  | 0, .lst _, h => by simp [okEq] at h
  | n + 1, .lst xs, h => okEqs_dict n xs (by simpa [okEq] using h)
  | _, .dct _ _, h => by simp [okEq] at h
  | _, .loc _, h => by simp [okEq] at h
  | _, .obj _ _, h => by simp [okEq] at h
  | _, .exc _ _, h => by simp [okEq] at h
  | _, .cls _, h => by simp [okEq] at h
  | _, .fl _, h => by simp [okEq] at h
theorem okEqs_dict : ∀ (n : Nat) (ds : List D), okEqs n ds = true → PyData.hasDictAll (toPys ds) = false
  | _, [], _ => rfl
  | n, d :: ds, h => by
    have h' : (okEq n d && okEqs n ds) = true := h
    rw [Bool.and_eq_true] at h'
    show ((toPy d).hasDict || PyData.hasDictAll (toPys ds)) = false
    rw [okEq_dict n d h'.1, okEqs_dict n ds h'.2]; rfl
end
theorem dp_ofU {H : Hp} {ρ Ow : List Addr} : ∀ (n : Nat) (d : D) (v : V), okEq n d = true → RU T H ρ Ow v d → L2.Dp T.K H v (toPy d) ∧ (toPy d).depth ≤ n := by
  intro n d v h r
  rcases r with r | ⟨a, vs, ds, rfl, rfl, h1, z, rs⟩
  · obtain ⟨h1, _, h3⟩ := dp_of n d v h r
    exact ⟨h1, h3⟩
  · cases n with
    | zero => simp [okEq] at h
    | succ n =>
      obtain ⟨g1, g2, g3⟩ := dps_of n ds vs (by simpa [okEq] using h) rs
      exact ⟨.lst (.inl (.inl h1)) g1, by simp [toPy, PyData.depth]; exact g3⟩
theorem cr_repr (C : CxG X T N sc n) : CallR X (.builtin "repr") (rBi T (bi .repr)) := by
  intro pins s σ H xs us Q I r ⟨st, ρ, Ow, ds, dz, sr, rs, e, k⟩
  simp only [bi] at e
  split at e <;> try contradiction
  rename_i d _
  obtain ⟨v, rfl, r1⟩ := rs.one
  have ru := r1.view sr
  split at e
  · rename_i hok
    cases e
    generalize G.view st d = x at ru hok k
    unfold okRep at hok
    simp only [Bool.and_eq_true, decide_eq_true_eq] at hok
    obtain ⟨⟨⟨h1, h2⟩, h3⟩, h4⟩ := hok
    have fin : ∀ {v : V} {H' : Hp}, v = .str (toPy x).shown → New1 H H' → Q v H' := fun {v H'} ev nw => by
      have q := k (.str ⟨(reprD x).toArray⟩) H' nw (.str _ h3 h4)
      have es : (⟨(reprD x).toArray⟩ : PySem.Str) = (toPy x).shown := by unfold reprD; simp
      rw [es] at q
      rw [ev]; exact q
    have hl : (toPy x).shown.length ≤ sizeLine := by
      rw [← lim_line]
      have : (toPy x).shown.length = (reprD x).length := by unfold reprD; simp [Str.length]
      rw [this]; exact h3
    obtain ⟨u, rfl, r0⟩ := r.one
    obtain ⟨hd, hdep⟩ := dp_ofU 32 x v h1 ru
    have hdict := okEq_dict 32 x h1
    generalize toPy x = p at hd hdep fin hl h2 hdict
    cases hd with
    | non =>
      have eu : u = .none := r0
      subst eu
      exact PySem.P.repr_of_none ⟨.str _, H, I.tok _, ⟨_, rfl⟩, fin rfl (.inl rfl)⟩
    | bl b =>
      have eu : u = .bool b := r0
      subst eu
      exact PySem.P.repr_of_bool ⟨.str _, H, I.tok _, ⟨_, rfl⟩, fin rfl (.inl rfl)⟩
    | int i =>
      obtain ⟨t, rfl⟩ := r0
      exact PySem.P.repr_of_int (by simpa [PyData.showable] using h2) ⟨.str _, H, I.tok _, ⟨_, rfl⟩, fin rfl (.inl rfl)⟩
    | str y =>
      obtain ⟨t, rfl⟩ := r0
      exact PySem.P.repr_of_str ⟨.str _, H, I.tok _, ⟨_, rfl⟩, fin rfl (.inl rfl)⟩ hl
    | tup q qs =>
      rename_i a vs xs
      have eu : u = .ref a := r0
      subst eu
      obtain ⟨as, rd⟩ := L2.Dp.reads I (.tuple xs) (.ref a) (.ref a) (by rw [C.eK]; exact .tup q qs) rfl
      refine repr_of_reads' (h₀ := s.heap) rd h2 (PyData.noDict_hsm hdict) C.guards ?_ (fun _ _ h => h) (fun h' u tk hk => ⟨.str _, H, I.kept hk, ⟨_, rfl⟩, fin rfl (.inl rfl)⟩) hl
      have := C.rm.un
      omega
    | lst q qs =>
      rename_i a vs xs
      have eu : u = .ref a := r0
      subst eu
      obtain ⟨as, rd⟩ := L2.Dp.reads I (.list xs) (.ref a) (.ref a) (by rw [C.eK]; exact .lst q qs) rfl
      refine repr_of_reads' (h₀ := s.heap) rd h2 (PyData.noDict_hsm hdict) C.guards ?_ (fun _ _ h => h) (fun h' u tk hk => ⟨.str _, H, I.kept hk, ⟨_, rfl⟩, fin rfl (.inl rfl)⟩) hl
      have := C.rm.un
      omega
  · split at e
    rotate_left
    · cases e
    rename_i x hx
    cases e
    rw [hx] at ru
    obtain ⟨u, rfl, r0⟩ := r.one
    rcases ru with ru | ⟨_, _, _, _, h, _⟩
    rotate_left
    · cases h
    cases ru with
    | dct qd n1 n2 hk rd =>
      rename_i a kvs
      have e0 : kvs = [] := by
        cases kvs with
        | nil => rfl
        | cons p r => cases hk
      subst e0
      have eu : u = .ref a := r0
      subst eu
      obtain ⟨_, hsm, vs, kv, o, es, ep, ho, ⟨c1, c2, c3⟩, hd, _, hes, _⟩ := L2.dk_of I.hok qd
      cases kv
      have e1 : es = #[] := by
        have : es.toList = [] := by
          have := hes.length
          simpa using this
        simpa using congrArg List.toArray this
      subst e1
      have rd : Reads s.heap (.ref a) (.dict []) [a] := Reads.dict (as := []) (bs := []) ho c1 hd .nil .nil
      have hu := C.rm.un
      refine repr_of_reads' (h₀ := s.heap) rd (by rfl) (fun _ hm => ?_) C.guards (by simp only [PyData.depth, PyData.depthKv]; omega) (fun _ _ h => h) (fun h' u tk hk => ⟨.str _, H, I.kept hk, ⟨_, rfl⟩, ?_⟩) (by decide)
      · simp at hm
        rw [hm] at hsm
        simp at hsm
      · exact k (.str ⟨#[123, 125]⟩) H (.inl rfl) (.str [123, 125] (by rw [LIM]; decide) (by decide))
end
end G
namespace G
open PySem PySem.Spec PyProof.Rows
open L2 (V Hp HO upd SqL SqT Rd VK XK TE TT TA TI TS TG TGs Ends WX Cx PE PT PA PI PS PSs PG PGs Inv OpR CallR RelV Vals R2 PC PW)
section
variable {T : Tb} {H H' H1 H2 : Hp} {ρ ρ' ρ1 ρ2 Ow Ow' Ow1 Ow2 Ow0 : List Addr} {σ : L2.St} {env : Env} {st st' : Store}
theorem wipe_len (env : Env) : ∀ is : List Nat, (wipe env is).length = env.length
  | [] => rfl
  | i :: is => by simp only [wipe]; rw [List.length_set, wipe_len env is]
theorem wipe_at {env : Env} {i : Nat} {s : Sl} : ∀ {is : List Nat}, (wipe env is)[i]? = some s → s = .em ∨ (env[i]? = some s ∧ i ∉ is)
  | [], h => .inr ⟨h, by simp⟩
  | j :: is, h => by
    simp only [wipe] at h
    by_cases hi : j = i
    · subst hi
      by_cases hj : j < (wipe env is).length
      · rw [List.getElem?_set_self hj] at h; cases h; exact .inl rfl
      · rw [List.getElem?_eq_none (by simpa using hj)] at h; cases h
    · rw [List.getElem?_set_ne hi] at h
      rcases wipe_at h with h | ⟨h1, h2⟩
      · exact .inl h
      · exact .inr ⟨h1, by simp only [List.mem_cons, not_or]; exact ⟨fun e => hi e.symm, h2⟩⟩
theorem EnR.wipe (en : EnR T H ρ Ow σ env) (is : List Nat) : EnR T H ρ Ow (L2.wipe σ is) (wipe env is) := by
  refine ⟨by rw [wipe_len, L2.wipe_length]; exact en.len, fun i s h => ?_, fun i j xs ys a h1 h2 h3 h4 => ?_⟩
  · rcases wipe_at h with rfl | ⟨h1, h2⟩
    · exact SlR.em _
    · rw [L2.wipe_out h2]; exact en.at_ i s h1
  · rcases wipe_at h1 with h | ⟨g1, g2⟩
    · cases h
    · rcases wipe_at h2 with h | ⟨k1, k2⟩
      · cases h
      · rw [L2.wipe_out g2] at h3
        rw [L2.wipe_out k2] at h4
        exact en.apart i j xs ys a g1 k1 h3 h4
theorem wipe_off {σ' : L2.St} {is js : List Nat} (h : Off js (L2.wipe σ is) σ') (hs : ∀ j ∈ js, j ∈ is) : L2.wipe σ' is = L2.wipe σ is := by
  have key : ∀ (is0 : List Nat) (a b : L2.St), a.length = b.length → (∀ j, j ∉ is0 → a[j]? = b[j]?) → L2.wipe a is0 = L2.wipe b is0 := by
    intro is0
    induction is0 with
    | nil =>
      intro a b hl h
      exact List.ext_getElem? fun j => h j (by simp)
    | cons i is0 ih =>
      intro a b hl h
      unfold L2.wipe
      have e1 : L2.wipe (a.set i none) is0 = L2.wipe (b.set i none) is0 := ih _ _ (by simp [hl]) fun j hj => by
        by_cases hi : i = j
        · subst hi
          by_cases hb : i < a.length
          · rw [List.getElem?_set_self hb, List.getElem?_set_self (by rw [← hl]; exact hb)]
          · rw [List.getElem?_eq_none (by simpa using hb), List.getElem?_eq_none (by rw [List.length_set, ← hl]; simpa using hb)]
        · rw [List.getElem?_set_ne hi, List.getElem?_set_ne hi]
          exact h j (by simp only [List.mem_cons, not_or]; exact ⟨fun e => hi e.symm, hj⟩)
      have comm : ∀ (c : L2.St) (ks : List Nat), (L2.wipe c ks).set i none = L2.wipe (c.set i none) ks := by
        intro c ks
        induction ks with
        | nil => rfl
        | cons k ks ihk =>
          unfold L2.wipe
          rw [← ihk]
          by_cases hk : k = i
          · subst hk; rfl
          · rw [List.set_comm _ _ hk]
      rw [comm, comm, e1]
  have h1 : L2.wipe σ' is = L2.wipe (L2.wipe σ is) is := key is _ _ h.1 fun j hj => h.2 j fun hm => hj (hs j hm)
  rw [h1]
  exact key is _ _ (L2.wipe_length _ _) fun j hj => L2.wipe_out hj
theorem StR.updOw (sr : StR T H ρ Ow st) {a : Addr} {us : List V} (m : a ∈ Ow) : StR T (upd H a (.lst us)) ρ Ow st := by
  have hn : a ∉ ρ := sr.disj a m
  refine ⟨sr.len, sr.nd, sr.apart, fun b hb => ?_, fun l b ob h1 h2 => (sr.at_ l b ob h1 h2).keeps (Keeps.upd m fun ob u z => by obtain ⟨ws, q0⟩ := sr.lists a m; rw [q0] at z; cases z) sr.lists (L2.upd_ne fun e => hn (by rw [← e]; exact List.mem_of_getElem? h1)), fun i q h => ⟨(sr.tab i q h).1, (sr.tab i q h).2.keeps (Keeps.upd m fun ob u z => by obtain ⟨ws, q0⟩ := sr.lists a m; rw [q0] at z; cases z) sr.lists (L2.upd_ne fun e => hn (by rw [← e]; exact List.mem_of_getElem? (sr.tab i q h).1))⟩⟩
  by_cases e : b = a
  · exact ⟨us, by rw [e, L2.upd_same]⟩
  · obtain ⟨vs, q⟩ := sr.lists b hb
    exact ⟨vs, by rw [L2.upd_ne e]; exact q⟩
theorem EnR.updOw (en : EnR T H ρ Ow σ env) (sr : StR T H ρ Ow st) {a : Addr} {us : List V} (m : a ∈ Ow) (na : ∀ (i : Nat) (xs : List D), env[i]? = some (.own xs) → σ[i]? ≠ some (some (.ref a))) : EnR T (upd H a (.lst us)) ρ Ow σ env := by
  refine ⟨en.len, fun i s h => ?_, en.apart⟩
  have q := en.at_ i s h
  cases s with
  | em => exact SlR.em _
  | v d =>
    cases hs : σ[i]? with
    | none => rw [hs] at q; exact q.elim
    | some o =>
      rw [hs] at q
      cases o with
      | none => exact q.elim
      | some v =>
        have q' : RV T H ρ Ow v d := q
        exact q'.keeps (Keeps.upd m fun ob u z => by obtain ⟨ws, q0⟩ := sr.lists a m; rw [q0] at z; cases z) sr.lists
  | own zs =>
    obtain ⟨b, ws, g1, g2, g3, g4, g5⟩ := en.own h
    have ne : b ≠ a := fun e => na i zs h (by rw [g1, e])
    rw [g1]
    exact ⟨g2, ws, by rw [L2.upd_ne ne]; exact g3, g4, g5.keeps (Keeps.upd m fun ob u z => by obtain ⟨ws, q0⟩ := sr.lists a m; rw [q0] at z; cases z) sr.lists⟩
  | xc c fs =>
    obtain ⟨b, dx, fl, g1, g2, g3⟩ := en.xc h
    rw [g1]
    exact ⟨dx, fl, g2, g3.keeps (Keeps.upd m fun ob u z => by obtain ⟨ws, q0⟩ := sr.lists a m; rw [q0] at z; cases z) sr.lists⟩
end
section
variable {X : Cx} {T : Tb} {xf : Nat → List Nm} {W : WX} {N : List PySem.Str} {sc scope : Scope} {n : Nat} {elt tg iter : Expr} {pos : Pos} {sE sI : G.Sem} {rE rI : Bool}
def Blk (X : Cx) (scope : Scope) (X' : Cx) : Prop := ∃ (s : Shared) (H : Hp) (C : Addr) (cl : List (PySem.Str × Addr)) (fp : List Addr), X' = X.blk s H scope (compEnvC scope cl C X.env) fp
theorem Blk.cx {X' : Cx} (C : CxC X T N sc n) (b : Blk X scope X') : CxC X' T N (L2.relS scope sc) n := by
  obtain ⟨s, H, a, cl, fp, rfl⟩ := b
  refine ⟨⟨C.eK, C.eN, C.nd, ?_, C.rm, C.guards⟩, C.calm, C.room, C.hx0⟩
  show relabel scope X.env = _
  rw [← C.eS]; rfl
inductive JIf (X : Cx) (T : Tb) (xf : Nat → List Nm) (W : WX) : List Expr → List G.Sem → Prop
  | nil : JIf X T xf W [] []
  | one {e : Expr} {s : G.Sem} {r : Bool} (j : JE X T xf W e s r) : JIf X T xf W [e] [s]
theorem jif_run {ifs : List Expr} {ss : List G.Sem} (h : JIf X T xf W ifs ss) : L2.PTs X ifs (tTst T xf W (testsV ss)) := by
  cases h with
  | nil =>
    refine ⟨fun pins s σ H Q I ⟨env, st, ρ, Ow, en, sr, p⟩ => L2.pts_nil.run pins s σ H Q I (Post.ok sr p)⟩
  | one j => exact L2.pts_one j.test
theorem lc_imp {ss : List G.Sem} {p : Pt} {own : List (PySem.Str × Nat)} (hp : ∀ j ∈ ptSlots p, j ∈ own.map (·.2)) :
    ∀ σ H Q, tFre T xf W (lcV sI sE (own.map (·.2)) p ss) σ H Q → L2.tLc (tIt T xf W rI sI.items) (tPt T [] p) (tTst T xf W0 (testsV ss)) (tVal T xf W0 true sE.val) (own.map (·.2)) σ H Q := by
  intro σ H Q ⟨env, st, ρ, Ow, en, sr, po⟩
  refine ⟨env, st, ρ, Ow, en, sr, (Post.bind po).mono fun ds st1 H1 ρ1 e1 s1 q J wk D hD => ?_⟩
  have q1 := Post.bind q
  clear q
  have en1 := en.ext e1 sr.disj
  have nD : D ∉ ρ1 := (s1.fresh hD).1
  have slotNe : ∀ (i : Nat) (xs : List G.D), env[i]? = some (.own xs) → σ[i]? ≠ some (some (.ref D)) := fun i xs h e => by
    obtain ⟨b, ws, g1, g2, g3, g4, g5⟩ := en1.own h
    rw [e] at g1; cases g1
    rw [hD] at g3; cases g3
  refine ⟨fun i m H' => i ≤ ds.length ∧ m = ds.length - i ∧ ∃ st ρ' acc vs, Ext H1 ρ1 H' ρ' ∧ StR T H' ρ' (D :: Ow) st ∧ EnR T H' ρ' (D :: Ow) σ env ∧ H' D = some (.lst vs) ∧ vs.length ≤ LIM ∧ RVs T H' ρ' (D :: Ow) vs acc ∧
      Post ⟨T, xf, W, σ⟩ H1 ρ1 Ow (fun ds st H' ρ' => Post ⟨T, xf, W, σ⟩ H' ρ' Ow (fun (d : G.D) _ H'' ρ'' => ∃ xs, d = .lst xs ∧ ∀ p vs, H'' p = none → RVs T H'' ρ'' Ow vs xs → vs.length ≤ LIM → Q (.ref p) (upd H'' p (.lst vs))) (.ok (.lst ds) st)) (compL (turnV (own.map (·.2)) sE p ss env) (ds.drop i) acc st), ⟨ds.length, Nat.zero_le _, rfl, st1, ρ1, [], [], ?_⟩, ?_⟩
  · exact ⟨Ext.new hD, s1.newOw hD, en1.newOw s1 hD, L2.upd_same, Nat.zero_le _, .nil, q1⟩
  · rintro i m H2 ⟨hi2, rfl, st2, ρ2, acc, vs, e2, s2, n2, hD2, hl2, rs2, p2⟩
    have k2 : Keeps H2 ρ2 (D :: Ow) (fun b => if b = D then none else H2 b) ρ2 Ow := ⟨fun a o h m1 m2 => by
      have ne : a ≠ D := fun e => m2 (by simp [e])
      exact ⟨by rw [if_neg ne]; exact h, m1, fun hm => m2 (by simp [hm])⟩, ⟨[], by simp⟩, fun a ob u h => by
      have ne : a ≠ D := fun e => by rw [e, hD2] at h; cases h
      rw [if_neg ne]; exact h⟩
    have DOw : D ∉ Ow := (s1.fresh hD).2
    have Dρ2 : D ∉ ρ2 := s2.disj D (by simp)
    have per : Per rI H1 ρ1 Ow H2 ρ2 (D :: Ow) := by
      have out : ∀ a, H1 a ≠ none → a ∉ Ow → a ∉ D :: Ow := fun a h n hm => by
        rcases List.mem_cons.mp hm with e | hm
        · rw [e] at h; exact h hD
        · exact n hm
      cases rI with
      | true => exact ⟨fun a o h m1 m2 => ⟨(e2.keep a o h m1).1, (e2.keep a o h m1).2, out a (by rw [h]; simp) m2⟩, e2.pre, e2.frz⟩
      | false => exact ⟨e2, out⟩
    by_cases hl : i = ds.length
    · subst hl
      rw [List.drop_length] at p2
      refine .inl ⟨wk.stop H2 ρ2 (D :: Ow) per, ?_⟩
      -- the new list's place taken out, then put back
      have e3 : Ext H1 ρ1 (fun b => if b = D then none else H2 b) ρ2 := ⟨fun a o h m1 => by
        have ne : a ≠ D := fun e => by rw [e, hD] at h; cases h
        exact ⟨by rw [if_neg ne]; exact (e2.keep a o h m1).1, (e2.keep a o h m1).2⟩, e2.pre, fun a ob u h => by
        have ne : a ≠ D := fun e => by rw [e, hD] at h; cases h
        rw [if_neg ne]; exact e2.frz a ob u h⟩
      have s3 : StR T (fun b => if b = D then none else H2 b) ρ2 Ow st2 := by
        refine ⟨s2.len, s2.nd, fun a ha hm => s2.apart a ha (by simp [hm]), fun a hm => ?_, fun l b ob h1 h2 => (s2.at_ l b ob h1 h2).keeps k2 s2.lists ?_, fun i q h => ⟨(s2.tab i q h).1, (s2.tab i q h).2.keeps k2 s2.lists (if_neg fun e => Dρ2 (by rw [← e]; exact List.mem_of_getElem? (s2.tab i q h).1))⟩⟩
        · obtain ⟨us, q⟩ := s2.lists a (by simp [hm])
          exact ⟨us, by rw [if_neg (fun e => DOw (by rw [← e]; exact hm))]; exact q⟩
        · exact if_neg fun e => Dρ2 (by rw [← e]; exact List.mem_of_getElem? h1)
      have p3 := p2 _ _ e3 s3
      obtain ⟨xs, ex, q3⟩ := Post.ok s3 p3
      cases ex
      have q4 := q3 D vs (if_pos rfl) (rs2.keeps k2 s2.lists) hl2
      have eH : upd (fun b => if b = D then none else H2 b) D (.lst vs) = H2 := by
        funext b
        by_cases hb : b = D
        · rw [hb, L2.upd_same, hD2]
        · rw [L2.upd_ne hb, if_neg hb]
      rw [eH] at q4
      exact q4
    · have hlt : i < ds.length := by omega
      obtain ⟨d, hd⟩ : ∃ d, ds[i]? = some d := ⟨ds[i], List.getElem?_eq_getElem hlt⟩
      have hdr : ds.drop i = d :: ds.drop (i + 1) := by
        rw [List.drop_eq_getElem_cons hlt]
        have := (List.getElem?_eq_some_iff.mp hd).2
        rw [this]
      rw [hdr] at p2
      obtain ⟨go, yl⟩ := wk.step i d H2 ρ2 (D :: Ow) st2 hd per s2
      refine .inr ⟨go, fun H' => ∃ st ρ' acc vs, Ext H1 ρ1 H' ρ' ∧ StR T H' ρ' (D :: Ow) st ∧ EnR T H' ρ' (D :: Ow) σ env ∧ H' D = some (.lst vs) ∧ vs.length ≤ LIM ∧ RVs T H' ρ' (D :: Ow) vs acc ∧
        Post ⟨T, xf, W, σ⟩ H1 ρ1 Ow (fun ds st H' ρ' => Post ⟨T, xf, W, σ⟩ H' ρ' Ow (fun (d : G.D) _ H'' ρ'' => ∃ xs, d = .lst xs ∧ ∀ p vs, H'' p = none → RVs T H'' ρ'' Ow vs xs → vs.length ≤ LIM → Q (.ref p) (upd H'' p (.lst vs))) (.ok (.lst ds) st)) (compL (turnV (own.map (·.2)) sE p ss env) (ds.drop (i + 1)) acc st), fun H' h => ⟨ds.length - (i + 1), by omega, by omega, rfl, h⟩, fun y H3 hy => ?_⟩
      obtain ⟨nw, ry⟩ := yl y H3 hy
      have e3 : Ext H1 ρ1 H3 ρ2 := e2.trans (nw.ext ρ2)
      have s3 : StR T H3 ρ2 (D :: Ow) st2 := nw.st s2
      have n3 : EnR T H3 ρ2 (D :: Ow) σ env := n2.ext (nw.ext ρ2) s2.disj
      have rs3 : RVs T H3 ρ2 (D :: Ow) vs acc := rs2.ext (nw.ext ρ2)
      have hD3 : H3 D = some (.lst vs) := ((nw.ext ρ2).keep D _ hD2 Dρ2).1
      have less : ∀ {H' : Hp} {ρ' : List Addr} {st : Store}, StR T H' ρ' (D :: Ow) st → StR T H' ρ' Ow st := fun z => z.ow (fun a _ _ n h => n (by simp [h])) (fun a ha hm => z.apart a ha (by simp [hm])) fun a hm => z.lists a (by simp [hm])
      have step : compL (turnV (own.map (·.2)) sE p ss env) (d :: ds.drop (i + 1)) acc st2 = (match turnV (own.map (·.2)) sE p ss env d st2 with
        | .ok (some y) st' => if acc.length < LIM then compL (turnV (own.map (·.2)) sE p ss env) (ds.drop (i + 1)) (acc ++ [y]) st' else .bad
        | .ok none st' => compL (turnV (own.map (·.2)) sE p ss env) (ds.drop (i + 1)) acc st'
        | _ => .bad) := rfl
      rw [step] at p2
      cases hs : setPt p d (wipe env (own.map (·.2))) with
      | none =>
        have e0 : turnV (own.map (·.2)) sE p ss env d st2 = .bad := by unfold turnV; rw [hs]
        rw [e0] at p2; exact p2.elim
      | some env3 =>
        have f3 : Fr T [] H3 ρ2 (D :: Ow) (L2.wipe σ (own.map (·.2))) (wipe env (own.map (·.2))) st2 := ⟨n3.wipe _, s3, fun a h => by simp at h, fun _ _ _ _ _ => by simp⟩
        refine ⟨_, st2, ρ2, D :: Ow, d, env3, f3, ry, hs, fun σ4 f4 off => ⟨wipe_off off hp, ?_⟩⟩
        -- the tests
        cases ht2 : testsV ss env3 st2 with
        | ok t st4 =>
          have e0 : turnV (own.map (·.2)) sE p ss env d st2 = (if t then (sE.val env3 st4).bind fun y st => .ok (some y) st else .ok none st4) := by unfold turnV; rw [hs]; simp only [ht2, O.bind]
          rw [e0] at p2
          refine ⟨env3, st2, ρ2, D :: Ow, f4.en, f4.sr, ?_⟩
          rw [ht2]
          intro H4 ρ4 e4 s4
          have hD4 : H4 D = some (.lst vs) := (e4.keep D _ hD3 Dρ2).1
          have n4 : EnR T H4 ρ4 (D :: Ow) σ env := n3.ext e4 s3.disj
          cases t with
          | false =>
            exact ⟨st4, ρ4, acc, vs, e3.trans e4, s4, n4, hD4, hl2, rs3.ext e4, p2⟩
          | true =>
            simp only [↓reduceIte]
            refine ⟨env3, st4, ρ4, D :: Ow, f4.en.ext e4 f4.sr.disj, s4, ?_⟩
            cases hv : sE.val env3 st4 with
            | ok y0 st5 =>
              have e5 : (if true = true then (sE.val env3 st4).bind fun y st => O.ok (some y) st else .ok none st4) = .ok (some y0) st5 := by rw [if_pos rfl, hv]; rfl
              rw [e5] at p2
              have p5 : Post ⟨T, xf, W, σ⟩ H1 ρ1 Ow _ (if acc.length < LIM then compL (turnV (own.map (·.2)) sE p ss env) (ds.drop (i + 1)) (acc ++ [y0]) st5 else .bad) := p2
              split at p5
              · rename_i hacc
                intro H5 ρ5 e5' s5 y ryy
                have hD5 : H5 D = some (.lst vs) := (e5'.keep D _ hD4 (s4.disj D (by simp))).1
                have rs5 : RVs T H5 ρ5 (D :: Ow) vs acc := (rs3.ext e4).ext e5'
                have hz : vs.length < LIM := by rw [rs5.length]; exact hacc
                have kk : Keeps H5 ρ5 (D :: Ow) (upd H5 D (.lst (vs ++ [y]))) ρ5 (D :: Ow) := Keeps.upd (by simp) fun ob u z => by rw [hD5] at z; cases z
                refine ⟨vs, hD5, by rw [← lim_line]; exact hz, st5, ρ5, acc ++ [y0], vs ++ [y], ?_, s5.updOw (by simp), (n4.ext e5' s4.disj).updOw s5 (by simp) slotNe, L2.upd_same, by rw [List.length_append]; exact hz, ?_, p5⟩
                · have e15 := (e3.trans e4).trans e5'
                  refine ⟨fun a o h m1 => ⟨?_, (e15.keep a o h m1).2⟩, e15.pre, fun a ob u h => (kk.frz a ob u (e15.frz a ob u h))⟩
                  rw [L2.upd_ne fun e => by rw [e, hD] at h; cases h]
                  exact (e15.keep a o h m1).1
                · exact (rs5.append (.cons ryy .nil)).keeps kk s5.lists
              · exact p5.elim
            | ex c fs st5 => rw [if_pos rfl, hv] at p2; exact p2.elim
            | bad => rw [if_pos rfl, hv] at p2; exact p2.elim
        | ex c fs st4 =>
          have e0 : turnV (own.map (·.2)) sE p ss env d st2 = .ex c fs st4 := by unfold turnV; rw [hs]; simp only [ht2, O.bind]
          rw [e0] at p2; exact p2.elim
        | bad =>
          have e0 : turnV (own.map (·.2)) sE p ss env d st2 = .bad := by unfold turnV; rw [hs]; simp only [ht2, O.bind]
          rw [e0] at p2; exact p2.elim
structure LcOk (X : Cx) (T : Tb) (xf : Nat → List Nm) (W : WX) (N : List PySem.Str) (sc scope : Scope) (elt tg iter : Expr) (ifs : List Expr) (own : List (PySem.Str × Nat)) (sI sE : G.Sem) (p : Pt) (ss : List G.Sem) (rI : Bool) : Prop where
  fold : plainE iter = true
  blk : L2.BlkOk N sc scope own
  items : PI X tg iter (tIt T xf W rI sI.items)
  slots : ∀ j ∈ ptSlots p, j ∈ own.map (·.2)
  tgt : ∀ X', Blk X scope X' → PG X' tg (tPt T [] p)
  ifs : ∀ X', Blk X scope X' → JIf X' T xf W0 ifs ss
  elt : ∀ X', Blk X scope X' → JE X' T xf W0 elt sE true
theorem jf_lc {ifs : List Expr} {ss : List G.Sem} {p : Pt} {own : List (PySem.Str × Nat)} (C : CxC X T N sc n) (L : LcOk X T xf W N sc scope elt tg iter ifs own sI sE p ss rI) :
    JF X T xf W (.ListComp elt [⟨tg, iter, ifs, 0⟩] scope pos) (G.Sem.of (lcV sI sE (own.map (·.2)) p ss)) :=
  PE.imp (L2.pe_lc C.calm (by rw [C.eN]; exact C.nd) L.items (by rw [C.eN, C.eS]; exact L.blk) (fun s H a cl fp => L.tgt _ ⟨s, H, a, cl, fp, rfl⟩) (fun s H a cl fp => jif_run (L.ifs _ ⟨s, H, a, cl, fp, rfl⟩)) (fun s H a cl fp => (L.elt _ ⟨s, H, a, cl, fp, rfl⟩).val) (fun x => plain_fold L.fold _ _)) (lc_imp L.slots)
theorem lcV_sh {own : List Nat} {p : Pt} {ss : List G.Sem} : ∀ env st d st', (G.Sem.of (lcV sI sE own p ss)).val env st = .ok d st' → ∃ xs, d = .lst xs := by
  intro env st d st' h
  have h' : lcV sI sE own p ss env st = .ok d st' := h
  unfold lcV at h'
  cases h1 : sI.items env st with
  | ok xs st1 =>
    rw [h1] at h'
    have h2 : ((compL (turnV own sE p ss env) xs [] st1).bind fun ds st => O.ok (G.D.lst ds) st) = .ok d st' := h'
    cases h3 : compL (turnV own sE p ss env) xs [] st1 with
    | ok ys st2 => rw [h3] at h2; cases h2; exact ⟨_, rfl⟩
    | ex _ _ _ => rw [h3] at h2; cases h2
    | bad => rw [h3] at h2; cases h2
  | ex _ _ _ => rw [h1] at h'; cases h'
  | bad => rw [h1] at h'; cases h'
theorem fre_val {f : Env → Store → O G.D} {e : Expr} (sh : ∀ env st d st', f env st = .ok d st' → ∃ xs, d = .lst xs) (h : PE X e (tFre T xf W f)) : PE X e (tVal T xf W true f) :=
  PE.imp h fun σ H Q ⟨env, st, ρ, Ow, en, sr, po⟩ => by
    refine ⟨env, st, ρ, Ow, en, sr, ?_⟩
    cases hf : f env st with
    | ok d st1 =>
      rw [hf] at po
      intro H1 ρ1 e1 s1
      obtain ⟨xs, rfl⟩ := sh _ _ _ _ hf
      exact ⟨xs, rfl, fun p vs hp rs z => po _ ρ1 (e1.trans (Ext.new hp)) (s1.new hp) _ (rv_lst hp (s1.fresh hp).1 (s1.fresh hp).2 z rs)⟩
    | ex c fs st1 => rw [hf] at po; exact po
    | bad => rw [hf] at po; exact po
theorem je_lc {ifs : List Expr} {ss : List G.Sem} {p : Pt} {own : List (PySem.Str × Nat)} (C : CxC X T N sc n) (L : LcOk X T xf W N sc scope elt tg iter ifs own sI sE p ss rI) :
    JE X T xf W (.ListComp elt [⟨tg, iter, ifs, 0⟩] scope pos) (G.Sem.of (lcV sI sE (own.map (·.2)) p ss)) true := .of C.toCxG (fre_val lcV_sh (jf_lc C L))
theorem js_lcN {Y : WS} {i : Nat} {y : PySem.Str} {py spos : Pos} {ifs : List Expr} {ss : List G.Sem} {p : Pt} {own : List (PySem.Str × Nat)} (C : CxC X Y.T N sc n) (h : NmL X y i) (hl : X.env.scope.names.lookup y = some .local)
    (hsw : swapsWith (.ListComp elt [⟨tg, iter, ifs, 0⟩] scope pos) (some (.Name y py)) spos.line X.env = pure true) (L : LcOk X Y.T Y.xf Y.W N sc scope elt tg iter ifs own sI sE p ss rI) :
    JS X Y (.Assign [.Name y py] (.ListComp elt [⟨tg, iter, ifs, 0⟩] scope pos) spos) fun env st => ((G.Sem.of (lcV sI sE (own.map (·.2)) p ss)).val env st).run env fun d st => .nx (env.set i (.v d)) st :=
  PS.imp (L2.ps_setLc C.calm h.nd h.at_ hl hsw L.items (by rw [C.eN, C.eS]; exact L.blk) (fun s H a cl fp => L.tgt _ ⟨s, H, a, cl, fp, rfl⟩) (fun s H a cl fp => jif_run (L.ifs _ ⟨s, H, a, cl, fp, rfl⟩)) (fun s H a cl fp => (L.elt _ ⟨s, H, a, cl, fp, rfl⟩).val) (fun x => plain_fold L.fold _ _)) fun Z σ H ⟨env, st, ρ, Ow, fr, po⟩ => by
    refine lc_imp L.slots σ H _ ⟨env, st, ρ, Ow, fr.en, fr.sr, ?_⟩
    cases hf : lcV sI sE (own.map (·.2)) p ss env st with
    | ok d st1 =>
      have po' : PostR Y H ρ Ow Z (.nx (env.set i (.v d)) st1) := by
        have q : PostR Y H ρ Ow Z ((lcV sI sE (own.map (·.2)) p ss env st).run env fun d st => .nx (env.set i (.v d)) st) := po
        rw [hf] at q; exact q
      intro H1 ρ1 e1 s1
      obtain ⟨xs, rfl⟩ := lcV_sh env st d st1 hf
      refine ⟨xs, rfl, fun p vs hp rs z => ?_⟩
      have e2 := e1.trans (Ext.new (o := .lst vs) hp)
      have f2 := fr.ext e2 (s1.new hp)
      exact po' _ _ _ _ (fr.step e2) (f2.set i (rv_lst hp (s1.fresh hp).1 (s1.fresh hp).2 z rs))
    | ex c fs st1 =>
      have q : PostR Y H ρ Ow Z ((lcV sI sE (own.map (·.2)) p ss env st).run env fun d st => .nx (env.set i (.v d)) st) := po
      rw [hf] at q
      exact fun cls dx H1 ρ1 e1 s1 x => q cls dx σ H1 ρ1 Ow (fr.step e1) (fr.ext e1 s1) x
    | bad =>
      have q : PostR Y H ρ Ow Z ((lcV sI sE (own.map (·.2)) p ss env st).run env fun d st => .nx (env.set i (.v d)) st) := po
      rw [hf] at q; exact q
end
end G
namespace G
open PySem PySem.Spec PyProof.Rows
open L2 (V Hp HO upd SqL SqT Rd VK XK TE TT TA TI TS TG TGs Ends WX Cx PE PT PA PI PS PSs PG PGs Inv OpR CallR RelV Vals R2 PC PW)
end G
namespace G
open PySem PySem.Spec PyProof.Rows
open L2 (V Hp HO upd SqL SqT Rd VK XK TE TT TA TI TS TG TGs Ends WX Cx PE PT PA PI PS PSs PG PGs Inv OpR CallR RelV Vals R2 PC PW Gl)
section
variable {X : Cx} {T : Tb} {xf : Nat → List Nm} {W : WX} {N : List PySem.Str} {sc : Scope} {n : Nat} {tg a b : Expr} {p pos tpos : Pos} {str : Bool}
def JI (X : Cx) (T : Tb) (xf : Nat → List Nm) (W : WX) (tg e : Expr) (s : G.Sem) (str : Bool) : Prop := PI X tg e (tIt T xf W str s.items)
theorem ji_of {e : Expr} {s : G.Sem} (j : JE X T xf W e s str) : JI X T xf W tg e s str := j.items tg
theorem walk_rng {H : Hp} {ρ Ow : List Addr} (lo hi : Int) : Walk str T (L2.Itr lo (hi - lo).toNat) H ρ Ow (rangeD lo hi) := by
  refine ⟨fun i d H' ρ' Ow' st hd p s => ?_, fun H' ρ' Ow' p => ?_⟩
  · have hi2 : i < (hi - lo).toNat := by
      have := (List.getElem?_eq_some_iff.mp hd).1
      simpa [rangeD] using this
    refine ⟨hi2, fun x H'' h => ?_⟩
    obtain ⟨rfl, rfl⟩ := h
    have hd' : (rangeD lo hi)[i]? = some (D.int (lo + (i : Int))) := by
      unfold rangeD
      rw [List.getElem?_map, List.getElem?_range hi2]; rfl
    rw [hd] at hd'
    cases hd'
    exact ⟨.inl rfl, .int _⟩
  · show (hi - lo).toNat ≤ (rangeD lo hi).length
    simp [rangeD]
theorem lim_int : (LIM : Int) < 2 ^ 62 := by rw [lim_line, sizeLine_eq]; decide
theorem ji_rng1 {s : G.Sem} (C : CxG X T N sc n) (hg : Gl X "range") (hm : X.mg "range" = none) (h : plainE a = true) (j : JE X T xf W a s true) :
    JI X T xf W tg (.Call (.Name "range" p) [a] [] pos) (.walk fun env st => (args [s] env st).bind fun ds st => rngI ds st) str :=
  PI.imp (L2.pi_range1 hg hm (pa_args (.cons h j .nil)) (by rw [plain_star h]; rfl)) fun σ H R ⟨env, st, ρ, Ow, en, sr, po⟩ => by
    refine ⟨env, st, ρ, Ow, en, sr, (Post.bind po).eqn.mono fun ds st1 H1 ρ1 e1 s1 q vs rs => ?_⟩
    obtain ⟨eq, q⟩ := q
    have hl := args_len eq
    match ds, rs, q, hl with
    | [d], .cons r .nil, q, _ =>
      cases d with
      | int j =>
        cases r
        have q' : Post ⟨T, xf, W, σ⟩ H1 ρ1 Ow _ (if -(LIM : Int) ≤ j ∧ j ≤ LIM then .ok (rangeD 0 j) st1 else .bad) := q
        split at q'
        · rename_i hj
          have w := walk_rng (T := T) (str := str) (H := H1) (ρ := ρ1) (Ow := Ow) 0 j
          rw [Int.sub_zero] at w
          have hb := lim_int
          exact ⟨j, rfl, by omega, by omega, Post.ok s1 q' _ w⟩
        · exact q'.elim
      | _ => exact q.elim
theorem lst_key {H : Hp} {ρ Ow : List Addr} {st : Store} {v : V} {ds : List D} (s : StR T H ρ Ow st) (r : RX str T H ρ Ow v (.lst ds)) : ∃ a, v = .ref a ∧ ∀ H' ρ' Ow', Per str H ρ Ow H' ρ' Ow' → ∃ vs, SqL T.K H' a vs ∧ RVs T H' ρ' Ow' vs ds := by
  have hv : ∃ a, v = .ref a := by
    rcases r.w with r2 | ⟨a, vs, es, e1, e2, h1, h2, z, rs⟩
    · cases r2; exact ⟨_, rfl⟩
    · exact ⟨a, e1⟩
  obtain ⟨a, rfl⟩ := hv
  refine ⟨a, rfl, fun H' ρ' Ow' p => ?_⟩
  cases str with
  | true =>
    have r' : RV T H ρ Ow (.ref a) (.lst ds) := r
    have r2 := r'.keeps p s.lists
    cases r2 with
    | lst q n1 n2 z rs => exact ⟨_, .inl (.inl q), rs⟩
  | false =>
    obtain ⟨e, ho⟩ := p
    rcases RW.ext e (RW.ow (fun a h _ n => ho a h n) r) with r2 | ⟨b, vs, es, e1, e2, h1, h2, z, rs⟩
    · cases r2 with
      | lst q n1 n2 z rs => exact ⟨_, .inl (.inl q), rs⟩
    · cases e1; cases e2
      exact ⟨vs, .inl (.inl h1), rs⟩
theorem tup_key {H : Hp} {ρ Ow : List Addr} {st : Store} {v : V} {ds : List D} (s : StR T H ρ Ow st) (r : RX str T H ρ Ow v (.tup ds)) : ∃ a, v = .ref a ∧ ∀ H' ρ' Ow', Per str H ρ Ow H' ρ' Ow' → ∃ vs, SqT T.K H' a vs ∧ RVs T H' ρ' Ow' vs ds := by
  have hv : ∃ a, v = .ref a := by
    rcases r.w with r2 | ⟨a, vs, es, e1, e2, h1, h2, z, rs⟩
    · cases r2; exact ⟨_, rfl⟩
    · exact ⟨a, e1⟩
  obtain ⟨a, rfl⟩ := hv
  refine ⟨a, rfl, fun H' ρ' Ow' p => ?_⟩
  cases str with
  | true =>
    have r' : RV T H ρ Ow (.ref a) (.tup ds) := r
    have r2 := r'.keeps p s.lists
    cases r2 with
    | tup q z rs => exact ⟨_, q.sq, rs⟩
  | false =>
    obtain ⟨e, ho⟩ := p
    rcases RW.ext e (RW.ow (fun a h _ n => ho a h n) r) with r2 | ⟨b, vs, es, e1, e2, h1, h2, z, rs⟩
    · cases r2 with
      | tup q z rs => exact ⟨_, q.sq, rs⟩
    · cases e2
theorem pair_lim : 2 ≤ LIM := by rw [lim_line, sizeLine_eq]; decide
theorem enumD_at {ds : List D} {i : Nat} {e : D} (h : (enumD ds)[i]? = some e) : ∃ d, ds[i]? = some d ∧ e = .exc 0 [.int i, d] := by
  unfold enumD at h
  rw [List.getElem?_map, List.getElem?_zipIdx] at h
  cases hd : ds[i]? with
  | none => rw [hd] at h; cases h
  | some d =>
    rw [hd] at h
    cases h
    exact ⟨d, rfl, by simp⟩
theorem walk_enL {H : Hp} {ρ Ow : List Addr} {ds : List D} {a : Addr} (key : ∀ H' ρ' Ow', Per str H ρ Ow H' ρ' Ow' → ∃ vs, SqL T.K H' a vs ∧ RVs T H' ρ' Ow' vs ds) : Walk str T (L2.Ite T.K a) H ρ Ow (enumD ds) := by
  refine ⟨fun i e H' ρ' Ow' st h0 p s => ?_, fun H' ρ' Ow' p => ?_⟩
  · obtain ⟨d, hd, rfl⟩ := enumD_at h0
    obtain ⟨vs, q, rs⟩ := key H' ρ' Ow' p
    obtain ⟨v, hv, rv⟩ := rs.get hd
    refine ⟨⟨vs, v, q, hv⟩, fun x H2 y => ?_⟩
    obtain ⟨t, y0, rfl, ht, rfl, hy⟩ := y
    have e := hy vs q
    rw [hv] at e; cases e
    exact ⟨.inr ⟨t, _, ht, rfl⟩, rv_raw ht (s.fresh ht).1 pair_lim (.cons (.int _) (.cons rv .nil))⟩
  · obtain ⟨vs, q, rs⟩ := key H' ρ' Ow' p
    exact ⟨vs, q, by rw [rs.length]; simp [enumD]⟩
end
end G
namespace G
open PySem PySem.Spec PyProof.Rows
open L2 (V Hp HO upd SqL SqT Rd VK XK TE TT TA TI TS TG TGs Ends WX Cx PE PT PA PI PS PSs PG PGs Inv OpR CallR RelV Vals R2 PC PW Gl It Turn FpOk)
end G
namespace G
open PySem PySem.Spec PyProof.Rows
open L2 (V Hp HO upd SqL SqT Rd VK XK TE TT TA TI TS TG TGs Ends WX Cx PE PT PA PI PS PSs PG PGs Inv OpR CallR RelV Vals R2 PC PW Gl It Turn FpOk)
theorem meets_enum1 {v : Value} {o : PySem.Obj} {P : Heap → Prop} (B : Begins v o P) :
    Meets (Builtin.«enumerate.__new__» ⟨[.type "enumerate", v], []⟩) (fun _ R s => P s.heap ∧
      R (.ok (.ret (.ref (s.heap.push o).objs.size))) { s with heap := (s.heap.push o).push { cls := .type "enumerate", data := .fields #[.none, .bool false, .ref s.heap.objs.size, rawInt 0, .none, .none] } }) :=
  .of_wp fun prog w A R s h => by
    obtain ⟨hp, g, d, tk, os⟩ := s; obtain ⟨h1, h⟩ := h
    have hsub := sub_enumerate
    have q1 : ∀ {A' : Around} {E : Value → Shared → Prop} {Q : Value → Shared → Prop}, Q (.ref hp.objs.size) ⟨(hp.push o), g, d, tk, os⟩ → wpAny (model prog w) A' (pyIter v) Q E ⟨hp, g, d, tk, os⟩ :=
      fun q => B.iter prog w _ _ ⟨hp, g, d, tk, os⟩ _ h1 q
    wp_walk using q1
    refine wpAny_stack_any fun st => wpAny_pure ?_
    split
    · rename_i c _ _ _ _ _
      cases (c == Value.type "enumerate")
      · wp_walk using q1
        exact ⟨_, rfl, h⟩
      · wp_walk using q1
        exact ⟨_, rfl, h⟩
    · wp_walk using q1
      exact ⟨_, rfl, h⟩
theorem call_enum1 {prog : Program} {w : World} {A : Around} {E : Value → Shared → Prop} {s : Shared} {v : Value} {o : PySem.Obj} {P : Heap → Prop} {Q : Value → Shared → Prop} (B : Begins v o P) (h1 : P s.heap)
    (h : ∀ h', IsEnum h' (s.heap.objs.size + 1) s.heap.objs.size 0 .none → h'.get? s.heap.objs.size = some o → h'.objs.size = s.heap.objs.size + 2 →
      (∀ b o, s.heap.get? b = some o → h'.get? b = some o) → Q (.ref (s.heap.objs.size + 1)) { s with heap := h' }) :
    wpAny (model prog w) A (PySem.call (.type "enumerate") [v]) Q E s := by
  refine callType_new F.called_enumerate (by decide) (F.typeCall_enumerate_1 _) (F.newCall_enumerate_1 _) (fun obj => F.args_object_init_2 obj _) F.entry_enumerate_new (meets_enum1 B) ⟨h1, ?_⟩
  have hz : (s.heap.push o).objs.size = s.heap.objs.size + 1 := Heap.size_push ..
  show _ ∧ _
  rw [hz]
  have he : IsEnum ((s.heap.push o).push { cls := .type "enumerate", data := .fields #[.none, .bool false, .ref s.heap.objs.size, rawInt 0, .none, .none] }) (s.heap.objs.size + 1) s.heap.objs.size 0 .none := by
    have := Heap.get?_push_size (s.heap.push o) (o := { cls := .type "enumerate", data := .fields #[.none, .bool false, .ref s.heap.objs.size, rawInt 0, .none, .none] }) rfl
    rw [hz] at this; exact this
  exact ⟨⟨_, he, rfl⟩, h _ he (Heap.get?_push_of_some _ (Heap.get?_push_size _ B.free)) (by rw [Heap.size_push, hz]) fun b o' x => Heap.get?_push_of_some _ (Heap.get?_push_of_some _ x)⟩
def IteT (K : PySem.W.Frag) (a : Addr) : It :=
  ⟨fun i H => ∃ (xs : List V) (x : V), SqT K H a xs ∧ xs[i]? = some x, fun i H v H' => ∃ T x, v = .ref T ∧ H T = none ∧ H' = upd H T (.tup [.int (i : Nat), x]) ∧ ∀ xs, SqT K H a xs → xs[i]? = some x, fun i H => ∃ xs : List V, SqT K H a xs ∧ xs.length = i⟩
theorem turn_enumT {P : Program} {w : World} {K : PySem.W.Frag} {elts : List Expr} {kk : Nat} {tpos : Pos} (a e it : Addr) :
    Turn P w K (.Tuple elts kk tpos) (IteT K a) [e, it] e (fun i h => (∃ old, IsEnum h e it ((i : Nat) : Int) old) ∧ h.IsTupleIter it a i ∧ e ≠ it ∧ a ≠ it) where
  mem := by simp
  obj := fun i h st b hb => by
    obtain ⟨⟨old, he⟩, ⟨o, ho, hc, hd⟩, _⟩ := st
    have e' : b = e ∨ b = it := by simpa using hb
    rcases e' with z | z
    · rw [z]; exact ⟨_, he, fun v q => nomatch q⟩
    · rw [z]; exact ⟨o, ho, fun v q => by rw [hd] at q; cases q⟩
  keep := fun i h h' st k => let ⟨⟨old, he⟩, hi, hne⟩ := st; ⟨⟨old, k e (by simp) _ he⟩, hi.at fun o q => k it (by simp) o q, hne⟩
  item := by
    intro X hP hw hK hc i pins s σ H E I hf st hg
    subst hP hw hK
    obtain ⟨⟨old, he⟩, hit, hne, hai⟩ := st
    obtain ⟨xs, x, hq, hx⟩ := hg
    obtain ⟨its, rv, p, hz⟩ := I.tuple hq
    obtain ⟨u, hu, ru⟩ := rv.get hx
    have p' : s.heap.IsTuple a its.toArray := p
    have hel : e < s.heap.objs.size := Heap.lt_size he
    have hil : it < s.heap.objs.size := by obtain ⟨_, q, _⟩ := hit; exact Heap.lt_size q
    have hea : e ≠ a := fun z => by
      obtain ⟨o, ho, hc2, _⟩ := p'
      rw [← z] at ho
      have he' := he
      unfold IsEnum at he'
      rw [ho] at he'
      cases he'
      exact absurd (Value.type.inj (show Value.type "enumerate" = Value.type "tuple" from hc2)) (by decide)
    have D := Draws.tuple (prog := X.prog) (w := X.w) (A := X.A.in1) (show X.A.in1.handled = none from I.ok.hd hc) it a hai its.toArray
    have hlt : i < its.toArray.size := by
      have := (List.getElem?_eq_some_iff.mp hu).1
      simpa using this
    refine wpAny_pyNext_enum_itemD D he ⟨hit, p'⟩ hlt hne (by simp [hne, hea]) fun x2 h' tk hx2 ho hst hT hsz hk => ?_
    have eu : x2 = u := by
      have h1 : its.toArray[i]? = some u := by simpa using hu
      rw [h1] at hx2
      exact (Option.some.inj hx2).symm
    subst eu
    refine ⟨_, rfl, wpAny_letOwnedTupleGo_enum (s := { s with heap := h', toks := tk + 1 }) ho fun h'' he' sb => ?_⟩
    have hT2 : h''.get? s.heap.objs.size = some { cls := .type "tuple", data := .seq #[.int i tk, x2] } := (sb.2 _ (Nat.ne_of_gt hel)).trans hT
    have new : L2.ObjOk X.prog X.w (upd H s.heap.objs.size (.tup [.int (i : Nat), x])) h'' s.heap.objs.size (.tup [.int (i : Nat), x]) :=
      ⟨by show 2 ≤ sizeLine; decide, [.int i tk, x2], .cons ⟨_, rfl⟩ (.cons ru .nil), ⟨_, hT2, rfl, _, rfl⟩⟩
    have I1 : Inv X pins σ (upd H s.heap.objs.size (.tup [.int (i : Nat), x])) { s with heap := h'', toks := tk + 1 } :=
      I.turnedNew (ch := [e, it]) (fun b ob hb q => (sb.2 b (fun z => hb (by simp [z]))).trans (hk b ob (fun z => hb (by simp [z])) (fun z => hb (by simp [z])) q)) hf (Nat.le_refl _) new
    refine ⟨.ref s.heap.objs.size, _, I1, rfl, ⟨_, x, rfl, I.hok.fresh (Nat.le_refl _), rfl, fun ys hy => by rw [I.tuple_inj hy hq]; exact hx⟩, ⟨⟨x2, ?_⟩, hst.1.at fun o q => (sb.2 it (Ne.symm hne)).trans q, hne, hai⟩, fun b hb => ?_⟩
    · have e1 : ((i + 1 : Nat) : Int) = (i : Int) + 1 := by omega
      rw [e1]; exact he'
    · have hb' : b < s.heap.objs.size := by
        have e' : b = e ∨ b = it := by simpa using hb
        rcases e' with z | z
        · rw [z]; exact hel
        · rw [z]; exact hil
      rw [L2.upd_ne (Nat.ne_of_lt hb')]
      exact (hf b hb).1
  done := by
    intro X hP hw hK hc i pins s σ H E I hf st hg
    subst hP hw hK
    obtain ⟨⟨old, he⟩, hit, hne, hai⟩ := st
    obtain ⟨xs, hq, hx⟩ := hg
    obtain ⟨its, rv, p, hz⟩ := I.tuple hq
    obtain ⟨f0, f1, f2, f3, f4, f5⟩ := hf it (by simp)
    have hl := rv.length
    have p' : s.heap.IsTuple a its.toArray := p
    have D := Draws.tuple (prog := X.prog) (w := X.w) (A := X.A.in1) (show X.A.in1.handled = none from I.ok.hd hc) it a hai its.toArray
    have ei : i = its.toArray.size := by rw [List.size_toArray, ← hl, hx]
    subst ei
    exact wpAny_pyNext_enum_endD D he ⟨hit, p'⟩ fun h' eb => ⟨rfl, I.turned (t' := s.toks) (fun b o hb q => eb b o hb q) f0 f1 f3 f4 f5⟩
  self := fun A i s Q E st h => let ⟨⟨_, he⟩, _⟩ := st; wpAny_pyIter_enum he h
section
variable {X : Cx} {T : Tb} {xf : Nat → List Nm} {W : WX} {N : List PySem.Str} {sc : Scope} {n : Nat} {tg e e2 : Expr} {p pos tpos : Pos} {str : Bool} {elts : List Expr} {kk : Nat} {ta : TA}
def iEnumA (K : PySem.W.Frag) (ta : TA) : TI := fun σ H R => ta σ H fun vs H1 => ∃ a xs, vs = [.ref a] ∧ ((SqL K H1 a xs ∧ R (L2.Ite K a) H1) ∨ (SqT K H1 a xs ∧ R (IteT K a) H1))
theorem pi_enumA (hg : Gl X "enumerate") (hm : X.mg "enumerate" = none) (ha : PA X [e] ta) (hs : starEach [e] X.env = [(false, eval e X.env)]) :
    PI X (.Tuple elts kk tpos) (.Call (.Name "enumerate" p) [e] [] pos) (iEnumA X.K ta) := by
  refine ⟨fun pins s σ H R I h => ?_⟩
  refine Call_ (L2.ld_blt I hg hm boot_enumerate (PyProof.Rows.callWith_type1 (L2.thn (ha.run pos pins s σ H _ I h) fun us s1 ⟨vs, H1, I1, r1, q1⟩ => ?_) hs rfl))
  obtain ⟨a, xs, ex, q1⟩ := q1
  subst ex
  cases r1 with
  | cons r rr =>
    cases rr
    cases r
    have hf0 : ∀ b ∈ [s1.heap.objs.size + 1, s1.heap.objs.size], FpOk X pins H1 b := fun b hb => by
      have e' : b = s1.heap.objs.size + 1 ∨ b = s1.heap.objs.size := by simpa using hb
      rcases e' with z | z
      · rw [z]; exact I1.fpOk (Nat.le_succ _) (I1.hok.fresh (Nat.le_succ _))
      · rw [z]; exact I1.fpOk (Nat.le_refl _) (I1.hok.fresh (Nat.le_refl _))
    rcases q1 with ⟨hq, q⟩ | ⟨hq, q⟩
    · obtain ⟨its, rv, p', hz⟩ := I1.list hq
      refine call_enumerate_list p'.isList fun h' he hit hsz hk => wpAny_pyIter_enum he ?_
      have I2 : Inv X pins σ H1 { s1 with heap := h' } := I1.kept (t' := s1.toks) hk
      exact ⟨_, [s1.heap.objs.size + 1, s1.heap.objs.size], _, _, H1, rfl, I2, L2.turn_enum a _ _, ⟨⟨.none, he⟩, hit, Nat.succ_ne_self _⟩, hf0, q⟩
    · obtain ⟨its, rv, p', hz⟩ := I1.tuple hq
      have p2 : s1.heap.IsTuple a its.toArray := p'
      refine call_enum1 (begins_tuple a its.toArray) p2 fun h' he hit hsz hk => wpAny_pyIter_enum he ?_
      have I2 : Inv X pins σ H1 { s1 with heap := h' } := I1.kept (t' := s1.toks) hk
      have hlt : a < s1.heap.objs.size := by obtain ⟨o, ho, _⟩ := p2; exact Heap.lt_size ho
      exact ⟨_, [s1.heap.objs.size + 1, s1.heap.objs.size], _, _, H1, rfl, I2, turn_enumT a _ _, ⟨⟨.none, he⟩, ⟨_, hit, rfl, rfl⟩, Nat.succ_ne_self _, Nat.ne_of_lt hlt⟩, hf0, q⟩
theorem walk_enT {H : Hp} {ρ Ow : List Addr} {ds : List D} {a : Addr} (key : ∀ H' ρ' Ow', Per str H ρ Ow H' ρ' Ow' → ∃ vs, SqT T.K H' a vs ∧ RVs T H' ρ' Ow' vs ds) : Walk str T (IteT T.K a) H ρ Ow (enumD ds) := by
  refine ⟨fun i e H' ρ' Ow' st h0 p s => ?_, fun H' ρ' Ow' p => ?_⟩
  · obtain ⟨d, hd, rfl⟩ := enumD_at h0
    obtain ⟨vs, q, rs⟩ := key H' ρ' Ow' p
    obtain ⟨v, hv, rv⟩ := rs.get hd
    refine ⟨⟨vs, v, q, hv⟩, fun x H2 y => ?_⟩
    obtain ⟨t, y0, rfl, ht, rfl, hy⟩ := y
    have e := hy vs q
    rw [hv] at e; cases e
    exact ⟨.inr ⟨t, _, ht, rfl⟩, rv_raw ht (s.fresh ht).1 pair_lim (.cons (.int _) (.cons rv .nil))⟩
  · obtain ⟨vs, q, rs⟩ := key H' ρ' Ow' p
    exact ⟨vs, q, by rw [rs.length]; simp [enumD]⟩
theorem ji_enum {s : G.Sem} (C : CxG X T N sc n) (hg : Gl X "enumerate") (hm : X.mg "enumerate" = none) (h : plainE e = true) (j : JE X T xf W e s str) :
    JI X T xf W (.Tuple elts kk tpos) (.Call (.Name "enumerate" p) [e] [] pos) (.walk fun env st => (s.val env st).bind fun x st => .of ((seqF x).map enumD) st) str :=
  PI.imp (pi_enumA hg hm (L2.pa_cons j.val L2.pa_nil (plain_star h _ _)) (by rw [plain_star h]; rfl)) fun σ H R ⟨env, st, ρ, Ow, en, sr, po⟩ => by
    refine ⟨env, st, ρ, Ow, en, sr, (Post.bind po).mono fun d st1 H1 ρ1 e1 s1 q v r => ?_⟩
    obtain ⟨ds, hds, q⟩ := Post.of s1 q
    rw [C.eK]
    cases d with
    | lst xs =>
      cases hds
      obtain ⟨a, rfl, key⟩ := lst_key s1 r
      obtain ⟨vs, hq, _⟩ := key H1 ρ1 Ow (Ext.per (Ext.refl _ _) str Ow)
      exact ⟨a, vs, rfl, .inl ⟨hq, q _ (walk_enL key)⟩⟩
    | tup xs =>
      cases hds
      obtain ⟨a, rfl, key⟩ := tup_key s1 r
      obtain ⟨vs, hq, _⟩ := key H1 ρ1 Ow (Ext.per (Ext.refl _ _) str Ow)
      exact ⟨a, vs, rfl, .inr ⟨hq, q _ (walk_enT key)⟩⟩
    | _ => cases hds
end
end G
namespace G
open PySem PySem.Spec PyProof.Rows
open L2 (V Hp HO upd SqL SqT Rd VK XK TE TT TA TI TS TG TGs Ends WX Cx PE PT PA PI PS PSs PG PGs Inv OpR CallR RelV Vals R2 PC PW Gl Room)
theorem look_zip {α β : Type} [BEq α] [LawfulBEq α] : ∀ {fs : List α} {ds : List β} {f : α} {d : β}, (fs.zip ds).lookup f = some d → ∃ i : Nat, fs[i]? = some f ∧ ds[i]? = some d
  | [], _, _, _, h => by simp at h
  | _ :: _, [], _, _, h => by simp at h
  | g :: fs, e :: ds, f, d, h => by
    rw [List.zip_cons_cons, List.lookup_cons] at h
    split at h
    · rename_i hb
      have e1 := eq_of_beq hb
      cases h
      exact ⟨0, by simp [e1], by simp⟩
    · obtain ⟨i, h1, h2⟩ := look_zip h
      exact ⟨i + 1, by simpa using h1, by simpa using h2⟩
theorem zip_look {α β : Type} [BEq α] [LawfulBEq α] : ∀ {fs : List α} {ds : List β} {f : α} {d : β} {i : Nat}, fs.Nodup → fs[i]? = some f → ds[i]? = some d → (fs.zip ds).lookup f = some d
  | [], _, _, _, _, _, h, _ => by simp at h
  | _ :: _, [], _, _, _, _, _, h => by simp at h
  | g :: fs, e :: ds, f, d, 0, _, h1, h2 => by
    simp at h1 h2
    subst h1 h2
    simp [List.lookup_cons]
  | g :: fs, e :: ds, f, d, i + 1, nd, h1, h2 => by
    have h1' : fs[i]? = some f := by simpa using h1
    have ne : ¬ f = g := fun e => (List.nodup_cons.mp nd).1 (by rw [← e]; exact List.mem_of_getElem? h1')
    rw [List.zip_cons_cons, List.lookup_cons, beq_false_of_ne ne]
    exact zip_look (i := i) (List.nodup_cons.mp nd).2 h1' (by simpa using h2)
structure ClOk (K : PySem.W.Frag) (T : Tb) (c : Nat) : Prop where
  cls : L2.Cls K (T.cls c)
  nd : ((T.flds c).map T.nm).Nodup
  no : ∀ f ∈ T.flds c, L2.NoAttr K (T.cls c) (T.nm f)
section
variable {X : Cx} {Y : Wd} {T : Tb} {xf : Nat → List Nm} {W : WX} {N : List PySem.Str} {sc : Scope} {n k : Nat} {e o : Expr} {pos apos p : Pos} {s : G.Sem} {str : Bool} {Γ : Ctx}
theorem obj_fld {H : Hp} {ρ Ow : List Addr} {v : V} {c : Nat} {fs : List D} {f : Nm} {d : D} (hc : ClOk T.K T c) (r : RV T H ρ Ow v (.obj c fs)) (h : ((T.flds c).zip fs).lookup f = some d) :
    ∃ a dx gs w, v = .ref a ∧ H a = some (.ins (T.cls c) dx gs) ∧ gs.lookup (T.nm f) = some w ∧ RV T H ρ Ow w d ∧ L2.NoAttr T.K (T.cls c) (T.nm f) := by
  cases r with
  | obj q n1 n2 z rs =>
    obtain ⟨i, h1, h2⟩ := look_zip h
    obtain ⟨w, hw, rw'⟩ := rs.get h2
    exact ⟨_, _, _, w, rfl, q, zip_look (i := i) hc.nd (by rw [List.getElem?_map, h1]; rfl) hw, rw', hc.no f (List.mem_of_getElem? h1)⟩
theorem loc_fld {H : Hp} {ρ Ow : List Addr} {a : Addr} {l c : Nat} {fs : List (Nm × D)} {f : Nm} {d : D} (hn : ∀ g ∈ fs, T.nm g.1 = T.nm f → g.1 = f) (r : ObR T H ρ Ow l a (.ins c fs)) (h : fs.lookup f = some d) :
    ∃ dx gs w, H a = some (.ins (T.cls c) dx gs) ∧ gs.lookup (T.nm f) = some w ∧ RV T H ρ Ow w d := by
  obtain ⟨_, dx, vs, q, z, _, rs⟩ := r
  suffices hh : ∀ (fs : List (Nm × D)) (vs : List V), (∀ g ∈ fs, T.nm g.1 = T.nm f → g.1 = f) → RVs T H ρ Ow vs (fs.map (·.2)) → fs.lookup f = some d → ∃ w, (((fs.map fun p => T.nm p.1).zip vs).lookup (T.nm f) = some w) ∧ RV T H ρ Ow w d by
    obtain ⟨w, h1, h2⟩ := hh fs vs hn rs h
    exact ⟨dx, _, w, q, h1, h2⟩
  clear z q rs h hn
  intro fs
  induction fs with
  | nil => intro vs _ _ h; simp at h
  | cons g fs ih =>
    intro vs hn rs h
    cases rs with
    | @cons v vs _ _ r rs =>
      rw [List.lookup_cons] at h
      rw [List.map_cons, List.zip_cons_cons, List.lookup_cons]
      by_cases e : f = g.1
      · subst e
        simp only [beq_self_eq_true] at h ⊢
        cases h
        exact ⟨v, rfl, r⟩
      · rw [beq_false_of_ne e] at h
        have ne : ¬ T.nm f = T.nm g.1 := fun e2 => e (hn g (by simp) e2.symm).symm
        rw [beq_false_of_ne ne]
        exact ih vs (fun x hx => hn x (by simp [hx])) rs h
structure PropG (Y : Wd) (k : Nat) (c : Nat) (f : Nm) (call : Fd) : Prop where
  ex : ∃ (p g : Addr) (fd : FuncData) (x : PySem.Str), L2.PropOf Y.K (Y.T.cls c) (Y.T.nm f) p g ∧ FnG Y k g fd [x] call ∧ L2.Binds Y.K fd [x] []
theorem getprop_G {C : Addr} {f : PySem.Str} {pa g : Addr} {fd : FuncData} {x : PySem.Str} {call : Fd} {pins : List (Addr × PySem.Obj)} {σ : L2.St} {H : Hp} {s : Shared} {Q : VK} {b : Bool} {E' : Value → Shared → Prop} {a dx : Addr} {fs : List (PySem.Str × V)} (M : CxY X Y W N sc n) (I : Inv X pins σ H s)
    (ea : H a = some (.ins C dx fs)) (c : L2.Cls X.K C) (hp : L2.PropOf X.K C f pa g) (F : FnG Y k g fd [x] call) (hk : k + 1 ≤ n) (hb : L2.Binds Y.K fd [x] [])
    (h : Want Y.T Y.xf call [.ref a] H Q (fun _ _ _ => False)) : wpAny (model X.prog X.w) X.A (getAttr (.ref a) f b) (L2.EP X pins σ Q) E' s := by
  obtain ⟨mA, O, _, _, _, _⟩ := L2.ins_get I.hok ea
  obtain ⟨od, J, _⟩ := O.look
  obtain ⟨rest, hrec⟩ := hp.rec_
  have I1 := I.tok (s.toks + 1)
  have hc : (PySem.W.clsIn X.K C).isSome = true := by
    obtain ⟨cd, hc, _⟩ := PySem.W.any_some c.hd
    rw [hc]; rfl
  have e0 : L2.Env0 Y.P Y.w Y.K Y.mg Y.base X.A.in1 X.stack { s with toks := s.toks + 1 } H := by
    have q := I1.env0.in1
    rw [M.eP, M.ew, M.eKY, M.em, M.eb] at q
    exact q
  have b0 : BindsTo { s with toks := s.toks + 1 } fd ⟨[.ref a], []⟩ ([x].zip [.ref a]) := by
    have q := hb { s with toks := s.toks + 1 } [.ref a] (by rw [← M.eKY]; exact I1.kIn) rfl
    exact q
  have hr : Room (k + 1) X.A := M.room.mono hk
  have go := F.run X.A.in1 X.stack { s with toks := s.toks + 1 } H ⟨[.ref a], []⟩ [.ref a] [.ref a] Q (fun _ _ _ => False) hr.in1 M.guards e0 b0 (.cons rfl .nil) rfl h
  rw [← M.eP, ← M.ew] at go
  refine PySem.W.get_bind I.kIn J (PySem.W.plainGet_of (c.get f)).1 (PySem.W.findObj_data hc hp.at_ hp.get hp.tak) (PySem.W.plainGet_of (c.get f)).2 (wpAny_call (PySem.W.prop_get (s := { s with toks := s.toks + 1 }) I.kIn hrec (codeAny_mono go fun r s' hq => ?_)))
  cases r with
  | error er =>
    obtain ⟨_, _, _, _, _, _, _, _, _, _, _, _, z⟩ := hq
    exact z.elim
  | ok fl =>
    cases fl with
    | ret u =>
      obtain ⟨v, H', I3, rv, q3⟩ := I1.after hq
      show wpAny _ _ (handedOut u) _ _ _
      rw [PySem.W.handedOut_of (L2.handed_of rv)]
      exact wpAny_pure ⟨v, H', I3, rv, q3⟩
    | _ => exact hq.elim
structure GamOk (Y : Wd) (Γ : Ctx) (k : Nat) : Prop where
  inj : ∀ f g, Y.T.nm f = Y.T.nm g → f = g
  cls : ∀ c q, Γ.cls c = some q → Y.T.flds c = q.fields ∧ ClOk Y.K Y.T c
  prop : ∀ c q f g, Γ.cls c = some q → q.props.lookup f = some g → PropG Y k c f (Γ.call g)
theorem je_at {f : Nm} {x : PySem.Str} (M : CxY X Y W N sc n) (O : GamOk Y Γ k) (hk : k + 1 ≤ n) (hx : Y.T.nm f = x) (hp : plainO e = true) (j : JE X Y.T Y.xf W e s true) :
    JE X Y.T Y.xf W (.Attribute e x pos) (G.Sem.of (one s fun d st => atV Γ f d st)) true := by
  subst hx
  refine .of M.toCxG ⟨fun pins s0 σ H Q I ⟨env, st, ρ, Ow, en, sr, po⟩ => ?_⟩
  refine L2.attr_of (base_plain hp _ _ _) ?_
  have h1 : tVal Y.T Y.xf W true s.val σ H fun v H1 => ∃ st ρ Ow d, StR Y.T H1 ρ Ow st ∧ RV Y.T H1 ρ Ow v d ∧ Post ⟨Y.T, Y.xf, W, σ⟩ H1 ρ Ow (fun d _ H' ρ' => ∀ v, RX true Y.T H' ρ' Ow v d → Q v H') (atV Γ f d st) :=
    ⟨env, st, ρ, Ow, en, sr, (Post.bind po).mono fun d st1 H1 ρ1 e1 s1 q v r => ⟨st1, ρ1, Ow, d, s1, r, q⟩⟩
  refine L2.thn (j.val.run pins s0 σ H _ I h1) fun u s1 ⟨v, H1, I1, ru, st1, ρ1, Ow1, d, sr1, r, q⟩ => ?_
  clear h1
  unfold atV at q
  have eu : ∀ a, v = .ref a → u = .ref a := fun a e => by subst e; exact ru
  cases hf : fldv Γ st1 f d with
  | some d' =>
    rw [hf] at q
    have fld : ∃ a C dx gs w, v = .ref a ∧ H1 a = some (.ins C dx gs) ∧ gs.lookup (Y.T.nm f) = some w ∧ RV Y.T H1 ρ1 Ow1 w d' ∧ L2.NoAttr Y.K C (Y.T.nm f) ∧ L2.Cls Y.K C := by
      cases d with
      | obj c fs =>
        obtain ⟨k0, h1, h2⟩ := Option.bind_eq_some_iff.mp hf
        obtain ⟨h3, h4⟩ := O.cls c k0 h1
        rw [← h3] at h2
        have h4' : ClOk Y.T.K Y.T c := by rw [← M.eK, M.eKY]; exact h4
        obtain ⟨a, dx, gs, w, q1, q2, q3, q4, q5⟩ := obj_fld h4' r h2
        exact ⟨a, _, dx, gs, w, q1, q2, q3, q4, by rw [← M.eKY, M.eK]; exact q5, h4.cls⟩
      | loc l =>
        unfold fldv at hf
        cases hs : st1[l]? with
        | none => simp [hs] at hf
        | some ob =>
          cases ob with
          | lst xs => simp [hs] at hf
          | dic z ks => simp [hs] at hf
          | ins c fs =>
            simp only [hs] at hf
            obtain ⟨k0, h1, h2⟩ := Option.bind_eq_some_iff.mp hf
            obtain ⟨h3, h4⟩ := O.cls c k0 h1
            split at h2
            · rename_i hm
              cases r with
              | loc ha =>
                obtain ⟨dx, gs, w, q2, q3, q4⟩ := loc_fld (fun g _ e => O.inj _ _ e) (sr1.at_ l _ _ ha hs) h2
                exact ⟨_, _, dx, gs, w, rfl, q2, q3, q4, h4.no f (by rw [h3]; exact hm), h4.cls⟩
            · cases h2
      | _ => cases hf
    obtain ⟨a, C, dx, gs, w, rfl, q2, q3, q4, q5, q6⟩ := fld
    rw [eu a rfl]
    refine L2.getattr_ok I1 q2 (by rw [M.eKY]; exact q6) (by rw [M.eKY]; exact q5) q3 fun u' s2 I2 ru' => ⟨w, H1, I2, ru', ?_⟩
    exact Post.ok sr1 q w q4
  | none =>
    rw [hf] at q
    have q' : Post ⟨Y.T, Y.xf, W, σ⟩ H1 ρ1 Ow1 (fun d _ H' ρ' => ∀ v, RX true Y.T H' ρ' Ow1 v d → Q v H') (match (objv st1 d).bind fun p => (Γ.cls p.1).bind fun k => k.props.lookup f with
      | some g => (Γ.call g [d] st1).hush
      | none => .bad) := q
    cases ho : (objv st1 d).bind fun p => (Γ.cls p.1).bind fun k => k.props.lookup f with
    | none => rw [ho] at q'; exact q'.elim
    | some g =>
      rw [ho] at q'
      replace q' : Post ⟨Y.T, Y.xf, W, σ⟩ H1 ρ1 Ow1 (fun d _ H' ρ' => ∀ v, RX true Y.T H' ρ' Ow1 v d → Q v H') (Γ.call g [d] st1).hush := q'
      obtain ⟨⟨c, fs⟩, h1, h2⟩ := Option.bind_eq_some_iff.mp ho
      obtain ⟨k0, h3, h4⟩ := Option.bind_eq_some_iff.mp h2
      obtain ⟨h5, h6⟩ := O.cls c k0 h3
      obtain ⟨pa, g0, fd, x, pp, F, hb⟩ := (O.prop c k0 f g h3 h4).ex
      have at_ : ∃ a dx gs, v = .ref a ∧ H1 a = some (.ins (Y.T.cls c) dx gs) := by
        cases d with
        | obj c2 fs2 =>
          cases h1
          cases r with
          | obj q n1 n2 z rs => exact ⟨_, _, _, rfl, q⟩
        | loc l =>
          unfold objv at h1
          cases hs : st1[l]? with
          | none => simp [hs] at h1
          | some ob =>
            cases ob with
            | lst xs => simp [hs] at h1
            | dic z ks => simp [hs] at h1
            | ins c2 fs2 =>
              simp [hs] at h1
              obtain ⟨rfl, _⟩ := h1
              cases r with
              | loc ha =>
                obtain ⟨_, dx, vs, q, _⟩ := sr1.at_ l _ _ ha hs
                exact ⟨_, dx, _, rfl, q⟩
        | _ => cases h1
      obtain ⟨a, dx, gs, rfl, q2⟩ := at_
      rw [eu a rfl]
      refine getprop_G M I1 q2 (by rw [M.eKY]; exact h6.cls) (by rw [M.eKY]; exact pp) F hk hb ⟨st1, ρ1, Ow1, [d], sr1, .cons r .nil, ?_⟩
      cases hc : Γ.call g [d] st1 with
      | ok d2 st2 => rw [hc] at q'; exact q'
      | ex c2 fs2 st2 => rw [hc] at q'; exact q'.elim
      | bad => rw [hc] at q'; exact q'.elim
end
end G
namespace G
open PySem PySem.Spec PyProof.Rows
open L2 (V Hp HO upd SqL SqT Rd VK XK TE TT TA TI TS TG TGs Ends WX Cx PE PT PA PI PS PSs PG PGs Inv OpR CallR RelV Vals R2 PC PW Gl Room)
section
variable {T : Tb} {H H' : Hp} {ρ Ow : List Addr} {p : Addr}
mutual
theorem RV.shrink : ∀ {d : D} {v : V}, ltLoc (ρ.length - T.tabs.length) d = true → RV T H (ρ ++ [p]) Ow v d → RV T H ρ Ow v d
  | _, _, _, .non => .non
  | _, _, _, .bl b => .bl b
  | _, _, _, .int i => .int i
  | _, _, _, .str s h c => .str s h c
  | _, _, h, .tup q z r => .tup (by
      rcases q with ⟨q, n⟩ | q
      · exact .inl ⟨q, fun m => n (by simp [m])⟩
      · exact .inr q) z (RVs.shrink (by simpa [ltLoc] using h) r)
  | _, _, h, .lst q n1 n2 z r => .lst q (fun m => n1 (by simp [m])) n2 z (RVs.shrink (by simpa [ltLoc] using h) r)
  | _, _, h, .fl q z r => .fl (by
      rcases q with ⟨q, n⟩ | q
      · exact .inl ⟨q, fun m => n (by simp [m])⟩
      · exact .inr q) z (RVs.shrink (by simpa [ltLoc] using h) r)
  | .loc l, _, h, .loc q => .loc (by
      have hl : l < ρ.length - T.tabs.length := by simpa [ltLoc] using h
      rw [List.getElem?_append_left (by omega)] at q
      exact q)
  | _, _, h, .obj q n1 n2 z r => .obj q (fun m => n1 (by simp [m])) n2 z (RVs.shrink (by simpa [ltLoc] using h) r)
  | _, _, _, .cls c => .cls c
  | _, _, h, .raw q n z r => .raw q (fun m => n (by simp [m])) z (RVs.shrink (by simpa [ltLoc] using h) r)
  | _, _, h, .dct q n1 n2 hk r => .dct q (fun m => n1 (by simp [m])) n2 hk (RVs.shrink (by
      have h' : (ltLocs (ρ.length - T.tabs.length) _ && ltLocs (ρ.length - T.tabs.length) _) = true := h
      rw [Bool.and_eq_true] at h'
      exact h'.2) r)
theorem RVs.shrink : ∀ {ds : List D} {vs : List V}, ltLocs (ρ.length - T.tabs.length) ds = true → RVs T H (ρ ++ [p]) Ow vs ds → RVs T H ρ Ow vs ds
  | _, _, _, .nil => .nil
  | d :: ds, _, h, .cons r rs => by
    have h' : (ltLoc (ρ.length - T.tabs.length) d && ltLocs (ρ.length - T.tabs.length) ds) = true := h
    rw [Bool.and_eq_true] at h'
    exact .cons (RV.shrink h'.1 r) (RVs.shrink h'.2 rs)
end
mutual
theorem ltLoc_mono {m n : Nat} (hmn : m ≤ n) : ∀ (d : D), ltLoc m d = true → ltLoc n d = true
  | .non, _ => rfl
  | .bl _, _ => rfl
  | .int _, _ => rfl
  | .str _, _ => rfl
  | .tup xs, h => ltLocs_mono hmn xs h
  | .lst xs, h => ltLocs_mono hmn xs h
  | .dct ks vs, h => by
    simp only [ltLoc, Bool.and_eq_true] at h ⊢
    exact ⟨ltLocs_mono hmn ks h.1, ltLocs_mono hmn vs h.2⟩
  | .loc l, h => by simp only [ltLoc, decide_eq_true_eq] at h ⊢; omega
  | .obj _ fs, h => ltLocs_mono hmn fs h
  | .exc _ fs, h => ltLocs_mono hmn fs h
  | .cls _, _ => rfl
  | .fl xs, h => ltLocs_mono hmn xs h
theorem ltLocs_mono {m n : Nat} (hmn : m ≤ n) : ∀ (ds : List D), ltLocs m ds = true → ltLocs n ds = true
  | [], _ => rfl
  | d :: ds, h => by
    have h' : (ltLoc m d && ltLocs m ds) = true := h
    rw [Bool.and_eq_true] at h'
    show (ltLoc n d && ltLocs n ds) = true
    rw [ltLoc_mono hmn d h'.1, ltLocs_mono hmn ds h'.2]; rfl
end
theorem StR.shrink {st : Store} {n : Nat} (hn : ρ.length = n + T.tabs.length) (s : StR T H (ρ ++ [p]) Ow st) (hl : st.length = n + 1) : StR T H ρ Ow (st.take n) := by
  refine ⟨by rw [List.length_take]; omega, (List.nodup_append.mp s.nd).1, fun a ha => s.apart a (by simp [ha]), s.lists, fun l a ob h1 h2 => ?_, fun i q hq => ?_⟩
  rotate_left
  · obtain ⟨h1, ps, h2, h3, h4⟩ := s.tab i q hq
    have := (List.getElem?_eq_some_iff.mp hq).1
    rw [List.getElem?_append_left (by omega)] at h1
    refine ⟨h1, ps, h2, h3, fun pos cv hc => ?_⟩
    obtain ⟨c, e1, e2, e3⟩ := h4 pos cv hc
    exact ⟨c, e1, e2, fun hm => e3 (by simp [hm])⟩
  have hll : l < n := by
    have := (List.getElem?_eq_some_iff.mp h2).1
    rw [List.length_take] at this
    omega
  rw [List.getElem?_take_of_lt hll] at h2
  have q := s.at_ l a ob (by rw [List.getElem?_append_left (by omega)]; exact h1) h2
  cases ob with
  | lst ds =>
    obtain ⟨q1, vs, q2, q3, q4⟩ := q
    exact ⟨q1, vs, q2, q3, q4.shrink (ltLocs_mono (by omega) ds q1)⟩
  | ins c fs =>
    obtain ⟨q1, dx, vs, q2, q3, q5, q4⟩ := q
    exact ⟨q1, dx, vs, q2, q3, q5, q4.shrink (ltLocs_mono (by omega) _ q1)⟩
  | dic z ks => exact q
end
structure MkG (Y : Wd) (k : Nat) (c : Nat) (call : Fd) (ps : List PySem.Str) : Prop where
  ex : ∃ (f : Addr) (fd : FuncData) (x : PySem.Str), L2.Mk Y.K (Y.T.cls c) f ∧ FnG Y k f fd (x :: ps) call ∧ L2.Binds Y.K fd (x :: ps) []
section
variable {X : Cx} {Y : Wd} {W : WX} {N : List PySem.Str} {sc : Scope} {n k : Nat} {Γ : Ctx}
theorem make_guards {A : Around} {C : Addr} {us : List Value} {kw : List (PySem.Str × Value)} (h : A.guards = some []) : (A.under (.builtin "type.__call__" ⟨.ref C :: us, kw⟩)).guards = some [] := by
  first | exact h | simpa [Around.under, Code.guards, Code.isGuard, guardIds, pushGuards] using h
theorem run_makeG {c : Nat} {q : Cl} {ps : List PySem.Str} {pins : List (Addr × PySem.Obj)} {σ : L2.St} {H : Hp} {s : Shared} {Q : VK} {us : List Value} {vs : List V} (M : CxY X Y W N sc n) (hq : Γ.cls c = some q) (hfl : Y.T.flds c = q.fields) (G0 : MkG Y k c (Γ.call q.init) ps) (hk : k + 1 ≤ n)
    (I : Inv X pins σ H s) (r : Vals vs us) (hl : vs.length = ps.length)
    (h : ∃ st ρ Ow ds, StR Y.T H ρ Ow st ∧ RVs Y.T H ρ Ow vs ds ∧ Post ⟨Y.T, Y.xf, W, σ⟩ H ρ Ow (fun d _ H' ρ' => ∀ v, RX true Y.T H' ρ' Ow v d → Q v H') (mkObj Γ c ds st)) :
    wpAny (model X.prog X.w) X.A (PySem.call (.ref (Y.T.cls c)) us) (L2.EP X pins σ Q) X.xe s := by
  obtain ⟨f, fd, x, Mk, F, hb⟩ := G0.ex
  obtain ⟨st, ρ, Ow, ds, sr, rs, po⟩ := h
  have I2 := L2.Inv.made (C := Y.T.cls c) I
  have na : H (s.heap.objs.size + 1) = none := I.hok.fresh (Nat.le_succ _)
  have nx : H s.heap.objs.size = none := I.hok.fresh (Nat.le_refl _)
  have ne : s.heap.objs.size ≠ s.heap.objs.size + 1 := Nat.ne_of_lt (Nat.lt_succ_self _)
  generalize hp : s.heap.objs.size + 1 = p at I2 na ne
  generalize hx0 : s.heap.objs.size = x0 at I2 nx ne
  have na1 : upd H x0 (.own p) p = none := by rw [L2.upd_ne (Ne.symm ne)]; exact na
  have e1 : Ext H ρ (upd H x0 (.own p)) ρ := Ext.new nx
  have s1 : StR Y.T (upd H x0 (.own p)) ρ Ow st := sr.new nx
  have e2 : Ext (upd H x0 (.own p)) ρ (upd (upd H x0 (.own p)) p (.ins (Y.T.cls c) x0 [])) (ρ ++ [p]) := Ext.newS na1
  have s2 : StR Y.T (upd (upd H x0 (.own p)) p (.ins (Y.T.cls c) x0 [])) (ρ ++ [p]) Ow (st ++ [.ins c []]) := s1.push na1 ⟨rfl, x0, [], L2.upd_same, rfl, by decide, .nil⟩
  have rs2 := (rs.ext e1).ext e2
  have here : RV Y.T (upd (upd H x0 (.own p)) p (.ins (Y.T.cls c) x0 [])) (ρ ++ [p]) Ow (.ref p) (.loc st.length) := .loc (by rw [← sr.len, List.getElem?_concat_length])
  have want : Want Y.T Y.xf (Γ.call q.init) (.ref p :: vs) (upd (upd H x0 (.own p)) p (.ins (Y.T.cls c) x0 [])) (fun v H2 => v = .non ∧ Q (.ref p) H2) (L2.WE W σ) := by
    refine ⟨_, _, _, _, s2, .cons here rs2, ?_⟩
    have e12 := e1.trans e2
    have po' : Post ⟨Y.T, Y.xf, W, σ⟩ H ρ Ow (fun d _ H' ρ' => ∀ v, RX true Y.T H' ρ' Ow v d → Q v H') (match Γ.call q.init (.loc st.length :: ds) (st ++ [.ins c []]) with
      | .ok .non st' => if q.frozen then (match st'[st.length]? with
          | some (.ins b fs) => if b = c ∧ fs.map (·.1) = q.fields ∧ st'.length = st.length + 1 then .ok (.obj c (fs.map (·.2))) (st'.take st.length) else .bad
          | _ => .bad) else .ok (.loc st.length) st'
      | .ex b fs st' => .ex b fs st'
      | _ => .bad) := by
      unfold mkObj at po
      rw [hq] at po
      exact po
    cases hc : Γ.call q.init (.loc st.length :: ds) (st ++ [.ins c []]) with
    | bad => rw [hc] at po'; exact po'.elim
    | ex b fs st' =>
      rw [hc] at po'
      exact fun cls dx H' ρ' e s' x => po' cls dx H' ρ' (e12.trans e) s' x
    | ok d st' =>
      rw [hc] at po'
      cases d with
      | non =>
        have po2 : Post ⟨Y.T, Y.xf, W, σ⟩ H ρ Ow (fun d _ H' ρ' => ∀ v, RX true Y.T H' ρ' Ow v d → Q v H') (if q.frozen then (match st'[st.length]? with
          | some (.ins b fs) => if b = c ∧ fs.map (·.1) = q.fields ∧ st'.length = st.length + 1 then .ok (.obj c (fs.map (·.2))) (st'.take st.length) else .bad
          | _ => .bad) else .ok (.loc st.length) st') := po'
        intro H' ρ' e s' v rv
        cases rv
        refine ⟨rfl, ?_⟩
        obtain ⟨more, hpre⟩ := e.pre
        split at po2
        · cases hst : st'[st.length]? with
          | none => rw [hst] at po2; exact po2.elim
          | some ob =>
            cases ob with
            | lst xs => rw [hst] at po2; exact po2.elim
            | dic z ks => rw [hst] at po2; exact po2.elim
            | ins b fs =>
              rw [hst] at po2
              have po3 : Post ⟨Y.T, Y.xf, W, σ⟩ H ρ Ow (fun d _ H' ρ' => ∀ v, RX true Y.T H' ρ' Ow v d → Q v H') (if b = c ∧ fs.map (·.1) = q.fields ∧ st'.length = st.length + 1 then .ok (.obj c (fs.map (·.2))) (st'.take st.length) else .bad) := po2
              split at po3
              · rename_i hh
                obtain ⟨rfl, hf, hl'⟩ := hh
                -- the store did not grow
                have hm : more = [] := by
                  have h1 := s'.len
                  rw [hpre, hl'] at h1
                  simp only [List.length_append, List.length_singleton, sr.len] at h1
                  exact List.eq_nil_of_length_eq_zero (by omega)
                subst hm
                rw [List.append_nil] at hpre
                subst hpre
                have at_ := s'.at_ st.length p _ (by rw [← sr.len, List.getElem?_concat_length]) hst
                obtain ⟨lt, dx, ws, q1, q2, q3, q4⟩ := at_
                have lt' : ltLocs (ρ.length - Y.T.tabs.length) (fs.map (·.2)) = true := by rw [sr.len, Nat.add_sub_cancel]; exact lt
                have nρ : p ∉ ρ := (sr.fresh na).1
                have e3 : Ext H ρ H' ρ := ⟨fun a o h m => ⟨((e12.trans e).keep a o h m).1, m⟩, ⟨[], by simp⟩, (e12.trans e).frz⟩
                refine po3 H' ρ e3 (s'.shrink sr.len hl') (.ref p) (RV.obj (dx := dx) (by rw [hfl, ← hf, List.map_map]; exact q1) nρ (s'.apart p (by simp)) (by rw [q2, hfl, ← hf, List.length_map]) (q4.shrink lt'))
              · exact po3.elim
        · exact po2 H' ρ' (e12.trans e) s' (.ref p) (.loc (by rw [hpre, List.getElem?_append_left (by simp [sr.len]), ← sr.len, List.getElem?_concat_length]))
      | _ => exact po'.elim
  have hr : Room (k + 1) X.A := M.room.mono hk
  have e0 : L2.Env0 Y.P Y.w Y.K Y.mg Y.base (X.A.under (.builtin "type.__call__" ⟨.ref (Y.T.cls c) :: us, []⟩)) X.stack { s with heap := (s.heap.push PySem.W.emptyDict).push (PySem.W.instObj (Y.T.cls c) x0) } (upd (upd H x0 (.own p)) p (.ins (Y.T.cls c) x0 [])) := by
    have z := I2.env0.make (Y.T.cls c) us []
    rw [M.eP, M.ew, M.eKY, M.em, M.eb] at z
    exact z
  have hlen : (Value.ref p :: us).length = (x :: ps).length := by rw [List.length_cons, List.length_cons, ← r.length, hl]
  have b0 : BindsTo { s with heap := (s.heap.push PySem.W.emptyDict).push (PySem.W.instObj (Y.T.cls c) x0) } fd ⟨.ref p :: us, []⟩ ((x :: ps).zip (.ref p :: us)) := by
    have z := hb { s with heap := (s.heap.push PySem.W.emptyDict).push (PySem.W.instObj (Y.T.cls c) x0) } (.ref p :: us) (by rw [← M.eKY]; exact I2.kIn) (by rw [List.append_nil]; exact hlen)
    rw [List.append_nil] at z
    exact z
  have go := F.run (X.A.under (.builtin "type.__call__" ⟨.ref (Y.T.cls c) :: us, []⟩)) X.stack _ _ ⟨.ref p :: us, []⟩ (.ref p :: us) (.ref p :: vs) _ (L2.WE W σ) (hr.make (Y.T.cls c) us []) (make_guards M.guards) e0 b0 (.cons rfl r) (by rw [List.length_cons, List.length_cons, hl]) want
  rw [← M.eP, ← M.ew] at go
  subst hx0 hp
  refine wpAny_call (L2.make_map (f := f) I.kIn (by rw [M.eKY]; exact Mk.makes) (by rw [M.eKY]; exact Mk.init) (beq_iff_eq.mp (by rw [M.eKY]; exact Mk.fn)) (codeAny_mono go fun res s' hq' => ?_))
  cases res with
  | error e => exact M.pass σ pins _ _ e s' I2 hq'
  | ok fl =>
    cases fl with
    | ret u =>
      obtain ⟨v, H', I3, rv, ev, q3⟩ := I2.after hq'
      subst ev
      exact ⟨rv, ⟨V.ref (s.heap.objs.size + 1), H', I3, rfl, q3⟩⟩
    | _ => exact hq'.elim
end
end G
namespace G
open PySem PySem.Spec PyProof.Rows
open L2 (V Hp HO upd SqL SqT Rd VK XK TE TT TA TI TS TG TGs Ends WX Cx PE PT PA PI PS PSs PG PGs Inv OpR CallR RelV Vals R2 PC PW Gl Room)
section
variable {X : Cx} {Y : Wd} {W : WX} {N : List PySem.Str} {sc : Scope} {n k : Nat} {Γ : Ctx} {x : PySem.Str} {ps : List PySem.Str} {e o value : Expr} {es : List Expr} {ss : List G.Sem} {p pos apos pos' : Pos} {s so : G.Sem} {str : Bool}
theorem args_do {T : Tb} {xf : Nat → List Nm} {σ : L2.St} {H : Hp} {Q : VK} {f : List D → Store → O D} {m : Nat} (hl : ss.length = m) (q : tVal T xf W true (many ss f) σ H Q) :
    tArg T xf W (args ss) σ H fun vs H1 => vs.length = m ∧ ∃ st ρ Ow ds, StR T H1 ρ Ow st ∧ RVs T H1 ρ Ow vs ds ∧ Post ⟨T, xf, W, σ⟩ H1 ρ Ow (fun d _ H' ρ' => ∀ v, RX true T H' ρ' Ow v d → Q v H') (f ds st) := by
  obtain ⟨env, st, ρ, Ow, en, sr, p⟩ := q
  exact ⟨env, st, ρ, Ow, en, sr, (Post.bind p).eqn.mono fun ds st1 H1 ρ1 e1 s1 q vs rs => ⟨by rw [rs.length, args_len q.1, hl], st1, ρ1, Ow, ds, s1, rs, q.2⟩⟩
theorem je_mk {c : Nat} {q : Cl} (M : CxY X Y W N sc n) (hq : Γ.cls c = some q) (hfl : Y.T.flds c = q.fields) (G0 : MkG Y k c (Γ.call q.init) ps) (hk : k + 1 ≤ n) (hm : Y.mg x = some (.ref (Y.T.cls c))) (hd : (x == ("__debug__" : PySem.Str)) = false) (hg : Gl X x)
    (hl : ss.length = ps.length) (js : JEs X Y.T Y.xf W es ss) : JE X Y.T Y.xf W (.Call (.Name x p) es [] pos) (G.Sem.of (many ss (mkObj Γ c))) true := by
  refine .of M.toCxG ⟨fun pins s σ H Q I q0 => ?_⟩
  have q1 := args_do hl q0
  obtain ⟨f, fd, x0, Mk, F, hb⟩ := id G0.ex
  have hkp : PySem.W.keepIn X.K (.ref (Y.T.cls c)) = true := by rw [M.eKY]; exact Mk.kp
  refine wpAny_Call_Name_kw (L2.ld_glob I hg (by rw [M.em]; exact hm) ?_ hd)
  cases js with
  | nil =>
    obtain ⟨env, st, ρ, Ow, en, sr, po⟩ := q1
    obtain ⟨h1, h2⟩ := Post.ok sr po [] .nil
    exact PySem.W.callWith_K0 I.kIn hkp (run_makeG (us := []) M hq hfl G0 hk I .nil h1 h2)
  | @cons e0 s0 es0 ss0 h j js =>
    refine PySem.W.callWith_K (h₀ := X.base) I.ok.mod.kin hkp (L2.thn ((pa_args (.cons h j js)).run pos pins s σ H _ I q1) fun us s1 ⟨vs, H1, I1, r, h1, h2⟩ => ⟨I1.kIn, ?_⟩) (plain_star h _ _) (plain_all js)
    exact run_makeG M hq hfl G0 hk I1 r h1 h2
theorem put_zip {T : Tb} {H : Hp} {ρ Ow : List Addr} {f : Nm} {v : V} {d : D} (inj : ∀ f g, T.nm f = T.nm g → f = g) (r : RV T H ρ Ow v d) : ∀ {fs : List (Nm × D)} {vs : List V}, RVs T H ρ Ow vs (fs.map (·.2)) →
    ∃ us, L2.putF (T.nm f) v ((fs.map fun p => T.nm p.1).zip vs) = (((putF f d fs).map fun p => T.nm p.1).zip us) ∧ RVs T H ρ Ow us ((putF f d fs).map (·.2)) ∧ us.length = (putF f d fs).length ∧ (putF f d fs).length ≤ fs.length + 1
  | [], _, .nil => ⟨[v], rfl, .cons r .nil, rfl, Nat.le_refl _⟩
  | (g, e) :: fs, _, .cons (v := w) (vs := vs) q rs => by
    by_cases hg : g = f
    · subst hg
      refine ⟨v :: vs, ?_, ?_, ?_, ?_⟩
      · simp [L2.putF, putF]
      · simp only [putF, if_true, List.map_cons]; exact .cons r rs
      · have hl := rs.length
        simp only [putF, if_true, List.length_cons]
        rw [hl, List.length_map]
      · simp [putF]
    · obtain ⟨us, h1, h2, h3, h4⟩ := put_zip inj r (f := f) rs
      have ne : ¬ T.nm g = T.nm f := fun e => hg (inj _ _ e)
      refine ⟨w :: us, ?_, ?_, ?_, ?_⟩
      · simp only [putF, if_neg hg, List.map_cons, List.zip_cons_cons, L2.putF]
        first
        | rw [if_neg ne, h1]
        | simp [ne, h1]
        | simp [Ne.symm ne, h1]
      · simp only [putF, if_neg hg, List.map_cons]; exact .cons q h2
      · simp only [putF, if_neg hg, List.length_cons, h3]
      · simp only [putF, if_neg hg, List.length_cons]; omega
theorem ltLocs_put {l : Nat} {f : Nm} {d : D} (h : ltLoc l d = true) : ∀ {fs : List (Nm × D)}, ltLocs l (fs.map (·.2)) = true → ltLocs l ((putF f d fs).map (·.2)) = true
  | [], _ => by simp [putF, ltLocs, h]
  | (g, e) :: fs, q => by
    have q' : (ltLoc l e && ltLocs l (fs.map (·.2))) = true := q
    rw [Bool.and_eq_true] at q'
    by_cases hg : g = f
    · simp only [putF, if_pos hg, List.map_cons, ltLocs, h, q'.2, Bool.and_true]
    · simp only [putF, if_neg hg, List.map_cons, ltLocs, q'.1, ltLocs_put h q'.2, Bool.and_true]
theorem js_fld {w : WS} {f : Nm} (C : CxG X w.T N sc n) (eT : w.T = Y.T) (eK : X.K = Y.K) (O : GamOk Y Γ k) (hx : w.T.nm f = x) (hsw : swapsWith value (some (.Attribute o x pos')) pos.line X.env = pure false) (jo : JE X w.T w.xf w.W o so true) (j : JE X w.T w.xf w.W value s true) :
    JS X w (.Assign [.Attribute o x pos'] value pos) fun env st => (s.val env st).run env fun d st => fldR Γ f so d env st := by
  subst hx
  refine PS.imp (L2.ps_fld jo.val j.val hsw) fun Z σ H ⟨env, st, ρ, Ow, fr, po⟩ => ?_
  refine ⟨env, st, ρ, Ow, fr.en, fr.sr, (PostR.run fr po).mono fun d st1 H1 ρ1 e1 s1 q y ry => ?_⟩
  obtain ⟨f1, q⟩ := q
  refine ⟨env, st1, ρ1, Ow, f1.en, f1.sr, (PostR.run f1 q).mono fun dx st2 H2 ρ2 e2 s2 q2 v rv => ?_⟩
  obtain ⟨f2, q2⟩ := q2
  cases dx with
  | loc l =>
    have rv' : RV w.T H2 ρ2 Ow v (.loc l) := rv
    cases rv' with
    | loc ha =>
      rename_i pa
      cases hst : st2[l]? with
      | none => simp only [hst] at q2; exact q2.elim
      | some ob =>
        cases ob with
        | lst xs => simp only [hst] at q2; exact q2.elim
        | dic z ks => simp only [hst] at q2; exact q2.elim
        | ins c fs =>
          simp only [hst] at q2
          split at q2
          · rename_i hh
            obtain ⟨h1, h2, h3⟩ := hh
            unfold isFld at h3
            cases hc : Γ.cls c with
            | none => rw [hc] at h3; cases h3
            | some k0 =>
              rw [hc] at h3
              obtain ⟨h5, h6⟩ := O.cls c k0 hc
              have hm : f ∈ Y.T.flds c := by rw [h5]; simpa using h3
              obtain ⟨lt, dx, vs, q3, q4, q5, q6⟩ := f2.sr.at_ l pa _ ha hst
              have ry2 : RV w.T H2 ρ2 Ow y d := RV.ext e2 ry
              obtain ⟨us, z1, z2, z3, z4⟩ := put_zip (by rw [eT]; exact O.inj) ry2 q6
              have hlen : ((fs.map fun p => w.T.nm p.1).zip vs).length < 1000 := by rw [List.length_zip, List.length_map]; omega
              refine ⟨pa, w.T.cls c, dx, _, rfl, q3, by rw [eK, eT]; exact h6.cls, by rw [eK, eT]; exact h6.no f hm, hlen, ?_⟩
              rw [z1]
              have es : Ext H2 ρ2 (upd H2 pa (.ins (w.T.cls c) dx (((putF f d fs).map fun p => w.T.nm p.1).zip us))) ρ2 := Ext.set (List.mem_of_getElem? ha) fun ob u z => by rw [q3] at z; cases z
              obtain ⟨stp, f3⟩ := f2.updSt (o := .ins (w.T.cls c) dx (((putF f d fs).map fun p => w.T.nm p.1).zip us)) (ob := .ins c (putF f d fs)) ha (fun ob u z => by rw [q3] at z; cases z) ⟨ltLocs_put h1 lt, dx, us, L2.upd_same, z3, by omega, z2.ext es⟩
              exact q2 _ _ _ _ stp f3
          · exact q2.elim
  | _ => exact q2.elim
end
end G
namespace G
open PySem PySem.Spec PyProof.Rows
open L2 (V Hp HO upd SqL SqT Rd VK XK TE TT TA TI TS TG TGs Ends WX Cx PE PT PA PI PS PSs PG PGs Inv OpR CallR RelV Vals R2 PC PW Gl Room)
section
variable {X : Cx} {Y : Wd} {W : WX} {N : List PySem.Str} {sc : Scope} {n k : Nat} {Γ : Ctx} {x : PySem.Str} {e o : Expr} {es : List Expr} {ss : List G.Sem} {pos apos : Pos} {so : G.Sem}
theorem je_me {c : Nat} {m : Nm} {q : Cl} {f : Nat} {pl : PySem.Sem Bool} (M : CxY X Y W N sc n) (O : GamOk Y Γ k) (hq : Γ.cls c = some q) (hm : q.meths.lookup m = some f) (G0 : MeOk Y k c m (Γ.call f) (ss.length + 1)) (hno : m ∉ q.fields) (hk : k ≤ n) (hx : Y.T.nm m = x)
    (jo : JE X Y.T Y.xf W o so true) (js : JEs X Y.T Y.xf W es ss)
    (ht : eval (.Call (.Attribute o x apos) es [] pos) X.env = (do
      let ov ← eval o X.env
      standAt apos.atName
      let (f, first) ← holding [ov] (getMethod ov x pl)
      callWith pos f first (backTo pos (starEach es X.env)) (backToKw pos (keywordEach [] X.env)))) :
    JE X Y.T Y.xf W (.Call (.Attribute o x apos) es [] pos) (G.Sem.of (meV Γ c m so ss)) true := by
  subst hx
  refine .of M.toCxG ⟨fun pins s0 σ H Q I ⟨env, st, ρ, Ow, en, sr, po⟩ => ?_⟩
  obtain ⟨h5, h6⟩ := O.cls c q hq
  obtain ⟨fa, fd, ps, hM, F, hb, hnp⟩ := G0.ex
  have h1 : tVal Y.T Y.xf W true so.val σ H fun v H1 => ∃ a dx fs, v = .ref a ∧ H1 a = some (.ins (Y.T.cls c) dx fs) ∧ fs.lookup (Y.T.nm m) = none ∧
      tArg Y.T Y.xf W (args ss) σ H1 fun vs H2 => vs.length = ss.length ∧ Want Y.T Y.xf (Γ.call f) (.ref a :: vs) H2 Q (L2.WE W σ) := by
    refine ⟨env, st, ρ, Ow, en, sr, (Post.bind po).mono fun d st1 H1 ρ1 e1 s1 q1 v r => ?_⟩
    have r' : RV Y.T H1 ρ1 Ow v d := r
    cases ho : objv st1 d with
    | none => rw [ho] at q1; exact q1.elim
    | some bf =>
      obtain ⟨b, fs⟩ := bf
      rw [ho] at q1
      have q2 : Post ⟨Y.T, Y.xf, W, σ⟩ H1 ρ1 Ow _ (if b = c ∧ noFld st1 m d = true then (match (Γ.cls c).bind fun k => k.meths.lookup m with
        | some f => (args ss env st1).bind fun ds st => Γ.call f (d :: ds) st
        | none => .bad) else .bad) := q1
      split at q2
      · rename_i hbc
        obtain ⟨hbc, hnf⟩ := hbc
        subst hbc
        have em : ((Γ.cls b).bind fun k => k.meths.lookup m) = some f := by rw [hq]; exact hm
        rw [em] at q2
        have nolook : ∀ (gs : List PySem.Str) (vs : List V), (∀ g ∈ gs, g ≠ Y.T.nm m) → (gs.zip vs).lookup (Y.T.nm m) = none := by
          intro gs
          induction gs with
          | nil => intro vs _; rfl
          | cons g gs ih =>
            intro vs hg
            cases vs with
            | nil => rfl
            | cons v vs =>
              rw [List.zip_cons_cons, List.lookup_cons, beq_false_of_ne (Ne.symm (hg g (by simp)))]
              exact ih vs fun z hz => hg z (by simp [hz])
        have at_ : ∃ a dx gs, v = .ref a ∧ H1 a = some (.ins (Y.T.cls b) dx gs) ∧ gs.lookup (Y.T.nm m) = none := by
          cases d with
          | obj c2 fs2 =>
            cases ho
            cases r' with
            | obj q n1 n2 z rs =>
              refine ⟨_, _, _, rfl, q, nolook _ _ fun g hg e => ?_⟩
              obtain ⟨f0, hf0, rfl⟩ := List.mem_map.mp hg
              rw [O.inj _ _ e] at hf0
              rw [h5] at hf0
              exact hno hf0
          | loc l =>
            unfold objv at ho
            unfold noFld at hnf
            cases hs : st1[l]? with
            | none => simp [hs] at ho
            | some ob =>
              cases ob with
              | lst xs => simp [hs] at ho
              | dic z ks => simp [hs] at ho
              | ins c2 fs2 =>
                simp only [hs] at ho hnf
                cases ho
                cases r' with
                | loc hl =>
                  obtain ⟨_, dx, vs, z1, z2, _⟩ := s1.at_ l _ _ hl hs
                  refine ⟨_, dx, _, rfl, z1, nolook _ _ fun g hg e => ?_⟩
                  obtain ⟨f0, hf0, rfl⟩ := List.mem_map.mp hg
                  have := List.all_eq_true.mp hnf f0 hf0
                  rw [O.inj _ _ e] at this
                  simp at this
          | _ => cases ho
        obtain ⟨a, dx, gs, rfl, g1, g2⟩ := at_
        refine ⟨a, dx, gs, rfl, g1, g2, env, st1, ρ1, Ow, en.ext e1 sr.disj, s1, (Post.bind q2).eqn.mono fun ds st2 H2 ρ2 e2 s2 q3 vs rs => ?_⟩
        obtain ⟨eq, q3⟩ := q3
        refine ⟨by rw [rs.length, args_len eq], st2, ρ2, Ow, d :: ds, s2, .cons (r'.ext e2) rs, ?_⟩
        cases hc : Γ.call f (d :: ds) st2 with
        | ok d2 st3 => rw [hc] at q3; exact q3
        | ex c2 fs2 st3 => rw [hc] at q3; exact q3
        | bad => rw [hc] at q3; exact q3
      · exact q2.elim
  refine PySem.W.methodCall_KW (pl := pl) (L2.thn (jo.val.run pins s0 σ H _ I h1) fun u s1 ⟨v, H1, I1, rv, a, dx, fs, ev, ha, hl, q⟩ => ?_) ht
  subst ev
  obtain rfl : u = Value.ref a := rv
  have hM' : L2.Meth X.K (Y.T.cls c) (Y.T.nm m) fa := by rw [M.eKY]; exact hM
  have bind : ∀ (s : Shared) (us : List Value), Y.K.In s.heap → us.length = ps.length → BindsTo s fd ⟨us, []⟩ (ps.zip us) := fun s us hK hu => by
    have b := hb s us hK (by rw [List.append_nil]; exact hu)
    rw [List.append_nil] at b
    exact b
  refine L2.getmeth_ok I1 ha (by rw [M.eKY]; exact h6.cls) hM' hl ?_
  cases js with
  | nil =>
    obtain ⟨env, st, ρ, Ow, en, sr, po⟩ := q
    obtain ⟨z1, z2⟩ := Post.ok sr po [] .nil
    exact PySem.W.callWith_K0 (first := [.ref a]) I1.kIn hM'.kp (run_fnG (us := [.ref a]) (vs := [.ref a]) M F hk (bind s1 [.ref a] (by rw [← M.eKY]; exact I1.kIn) (by rw [hnp]; rfl)) I1 (.cons rfl .nil) (by rw [hnp]; rfl) z2)
  | @cons e0 s0' es0 ss0 h j js =>
    refine PySem.W.callWith_K (first := [.ref a]) (h₀ := X.base) I.ok.mod.kin hM'.kp (L2.thn ((pa_args (.cons h j js)).run pos pins s1 σ H1 _ I1 q) fun us s2 ⟨vs, H2, I2, r, z1, z2⟩ => ⟨I2.kIn, ?_⟩) (plain_star h _ _) (plain_all js)
    exact run_fnG (us := .ref a :: us) (vs := .ref a :: vs) M F hk (bind s2 (.ref a :: us) (by rw [← M.eKY]; exact I2.kIn) (by rw [List.length_cons, ← r.length, z1, hnp])) I2 (.cons rfl r) (by rw [List.length_cons, z1, hnp]) z2
end
end G
namespace G
open PySem PySem.Spec PyProof.Rows
open L2 (V Hp HO upd SqL SqT Rd VK XK TE TT TA TI TS TG TGs Ends WX Cx PE PT PA PI PS PSs PG PGs Inv OpR CallR RelV Vals R2 PC PW Gl Room)
structure IsOk (K : PySem.W.Frag) (T : Tb) (Γ : Ctx) (τ : Ty) (u : Value) : Prop where
  non : PySem.W.kitOne K (.type "NoneType") u = some false
  bl : PySem.W.kitOne K (.type "bool") u = some τ.isBl
  int : PySem.W.kitOne K (.type "int") u = some τ.isInt
  str : PySem.W.kitOne K (.type "str") u = some τ.isStr
  tup : PySem.W.kitOne K (.type "tuple") u = some τ.isTup
  lst : PySem.W.kitOne K (.type "list") u = some false
  dct : PySem.W.kitOne K (.type "dict") u = some false
  ins : ∀ c q, Γ.cls c = some q → ClTy K (T.cls c) ∧ PySem.W.kitOne K (.ref (T.cls c)) u = some (τ.isOwn c)
section
variable {X : Cx} {Y : Wd} {T : Tb} {xf : Nat → List Nm} {W : WX} {N : List PySem.Str} {sc : Scope} {n k : Nat} {Γ : Ctx} {x : PySem.Str} {e : Expr} {p p2 pos apos : Pos} {s : G.Sem} {str : Bool}
theorem isi_ty {K : PySem.W.Frag} (eK : T.K = K) {τ : Ty} {u : Value} (O : IsOk K T Γ τ u) {H : Hp} {ρ Ow : List Addr} {st : Store} {v : V} {d : D} {b : Bool} (sr : StR T H ρ Ow st) (r : RW T H ρ Ow v d) (h : isiV Γ st d τ = some b) : ∃ t, L2.TyX K H v t ∧ PySem.W.kitOne K t u = some b := by
  have own : ∀ {a : Addr} {dx : Addr} {gs : List (PySem.Str × V)} {c : Nat}, H a = some (.ins (T.cls c) dx gs) → (if (Γ.cls c).isSome = true then some (τ.isOwn c) else none) = some b → ∃ t, L2.TyX K H (.ref a) t ∧ PySem.W.kitOne K t u = some b := by
    intro a dx gs c ha h
    split at h
    · rename_i hc
      cases h
      obtain ⟨q, hq⟩ := Option.isSome_iff_exists.mp hc
      obtain ⟨h1, h2⟩ := O.ins c q hq
      exact ⟨_, .base (.ins ha h1.cl h1.ha h1.hn h1.htk h1.hm), h2⟩
    · cases h
  have tupC : ∀ {a : Addr} {vs : List V}, StT T.K H ρ a vs → L2.TyX K H (.ref a) (.type "tuple") := by
    intro a vs q
    rw [eK] at q
    rcases q with ⟨⟨o, q, _⟩, _⟩ | ⟨o, its, m, h1, _, h2, _⟩
    · exact .fTuple q
    · exact .kTuple h1 h2
  rcases r with r | ⟨a, vs, ds, rfl, rfl, h1, h2, z, rs⟩
  · cases r with
    | non => cases h; exact ⟨_, .base .non, O.non⟩
    | bl y => cases h; exact ⟨_, .base (.bl y), O.bl⟩
    | int i => cases h; exact ⟨_, .base (.int i), O.int⟩
    | str y _ _ => cases h; exact ⟨_, .base (.str _), O.str⟩
    | tup q z rs => cases h; exact ⟨_, tupC q, O.tup⟩
    | raw q n z rs => cases h
    | lst q n1 n2 z rs => cases h; exact ⟨_, .base (.lst q), O.lst⟩
    | fl q z rs =>
      cases h
      refine ⟨.type "list", ?_, O.lst⟩
      rw [eK] at q
      rcases q with ⟨⟨o, q⟩, _⟩ | q
      · exact .base (.frz q)
      · rcases q (fun _ => none) with (q | ⟨o, q⟩) | ⟨o, its, m, h1, h2, _⟩
        · cases q
        · cases q
        · exact .kList h1 h2
    | @loc a l hl =>
      unfold isiV at h
      cases hs : st[l]? with
      | none => simp [hs] at h
      | some ob =>
        cases ob with
        | lst xs =>
          simp only [hs] at h
          cases h
          obtain ⟨_, vs, q, _⟩ := sr.at_ l a _ hl hs
          exact ⟨_, .base (.lst q), O.lst⟩
        | ins c fs =>
          simp only [hs] at h
          obtain ⟨_, dx, vs, q, _⟩ := sr.at_ l a _ hl hs
          exact own q h
        | dic z ks => simp [hs] at h
    | obj q n1 n2 z rs => exact own q h
    | cls c => cases h
    | dct q n1 n2 hk r =>
      cases h
      exact ⟨_, .base (.dK q), O.dct⟩
  · cases h
    exact ⟨_, .base (.lst h1), O.lst⟩
theorem je_isi {τ : Ty} {u : Value} {c : V} (M : CxY X Y W N sc n) (O : IsOk Y.K Y.T Γ τ u) (hv : L2.ClsV c u) (hg : Gl X "isinstance") (hm : X.mg "isinstance" = none) (h : plainE e = true) (hc : PE X (.Name x p2) (L2.tC c)) (j : JE X Y.T Y.xf W e s str) :
    JE X Y.T Y.xf W (.Call (.Name "isinstance" p) [e, .Name x p2] [] pos) (G.Sem.of (one s fun d st => .of ((isiV Γ st d τ).map .bl) st)) true := by
  refine .of M.toCxG (PE.imp (L2.pe_callB L2.call_isi hg hm PyProof.Rows.boot_isinstance (L2.pa_cons j.val (L2.pa_cons hc L2.pa_nil (by rfl)) (plain_star h _ _)) (by decide) (by decide) (plain_star h _ _) (by rfl)) fun σ H Q ⟨env, st, ρ, Ow, en, sr, po⟩ => ?_)
  refine ⟨env, st, ρ, Ow, en, sr, (Post.bind po).mono fun d st1 H1 ρ1 e1 s1 q v r => ?_⟩
  cases hi : isiV Γ st1 d τ with
  | none => rw [hi] at q; exact q.elim
  | some b =>
    rw [hi] at q
    obtain ⟨t, h1, h2⟩ := isi_ty (K := Y.K) (by rw [← M.eK, M.eKY]) O s1 r.w hi
    have eK : X.K = Y.K := M.eKY
    exact ⟨v, c, t, u, b, rfl, hv, by rw [eK]; exact h1, by rw [eK]; exact h2, Post.ok s1 q _ (.bl b)⟩
end
end G
namespace G
open PySem PySem.Spec PyProof.Rows
open L2 (V Hp HO upd SqL SqT Rd VK XK TE TT TA TI TS TG TGs Ends WX Cx PE PT PA PI PS PSs PG PGs Inv OpR CallR RelV Vals R2 PC PW Gl Room)
end G
namespace G
open PySem PySem.Spec PyProof.Rows
open L2 (V Hp HO upd SqL SqT Rd VK XK TE TT TA TI TS TG TGs Ends WX Cx PE PT PA PI PS PSs PG PGs Inv OpR CallR RelV Vals R2 PC PW Gl Room)
section
variable {X : Cx} {Y : Wd} {T : Tb} {xf : Nat → List Nm} {W : WX} {N : List PySem.Str} {sc : Scope} {n k : Nat} {e o : Expr} {es : List Expr} {p p2 pos apos cpos : Pos} {s t : G.Sem} {ss : List G.Sem} {str str2 : Bool}
inductive JP (X : Cx) (T : Tb) (xf : Nat → List Nm) (W : WX) : Option Expr → List G.Sem → Prop
  | none : JP X T xf W none []
  | some {e : Expr} {s : G.Sem} (j : JE X T xf W e s true) : JP X T xf W (some e) [s]
def tOpt (T : Tb) (xf : Nat → List Nm) (W : WX) (ss : List G.Sem) : L2.TO := fun σ H Q => At T xf W (optV ss) (fun o _ _ H' => Q o H') σ H
theorem po_of {eo : Option Expr} {ss : List G.Sem} (h : JP X T xf W eo ss) : L2.PO X eo (tOpt T xf W ss) := by
  cases h with
  | none => exact PO.imp L2.po_none fun σ H Q ⟨env, st, ρ, Ow, en, sr, po⟩ => Post.ok sr po
  | some j =>
    rename_i e s
    refine PO.imp (L2.po_some j.val) fun σ H Q ⟨env, st, ρ, Ow, en, sr, po⟩ => ?_
    have po1 := Post.bind (Post.bind po)
    refine ⟨env, st, ρ, Ow, en, sr, po1.mono fun d st1 H1 ρ1 e1 s1 q v r => ?_⟩
    have q1 := Post.ok s1 q
    cases d with
    | int i =>
      have ei := r.w.u.int
      subst ei
      exact ⟨i, rfl, Post.ok s1 q1⟩
    | _ => exact q1.elim
theorem clip_eq (n d : Nat) (o : Option Int) : clip n d o = HT.sIx n d o := by
  cases o with
  | none => rfl
  | some v =>
    show (if v < 0 then (max (v + n) 0).toNat else (min v n).toNat) = (if v < 0 then (v + (n : Int)).toNat else min v.toNat n)
    split <;> omega
theorem cut_eq (vs : List V) (lo hi : Option Int) : L2.cutV vs lo hi = cut vs lo hi := by
  unfold L2.cutV cut
  rw [clip_eq, clip_eq]
theorem RVs.cut {H : Hp} {ρ Ow : List Addr} {vs : List V} {ds : List D} (rs : RVs T H ρ Ow vs ds) (lo hi : Option Int) : RVs T H ρ Ow (G.cut vs lo hi) (G.cut ds lo hi) := by
  unfold G.cut
  rw [rs.length]
  exact (rs.drop _).take _
theorem cut_len {α : Type} (xs : List α) (lo hi : Option Int) : (cut xs lo hi).length ≤ xs.length := by
  unfold cut
  rw [List.length_take, List.length_drop]
  omega
theorem je_sl {eo1 eo2 : Option Expr} {s1 s2 : List G.Sem} (C : CxG X T N sc n) (j : JE X T xf W e s str) (jl : JP X T xf W eo1 s1) (jh : JP X T xf W eo2 s2) :
    JE X T xf W (.Subscript e (.Slice eo1 eo2 none p2) pos) (G.Sem.of (slV s s1 s2)) true :=
  .of C (PE.imp (L2.pe_slice ((L2.SlR.or L2.sl_str L2.sl_list).or sl_tupF) j.val (po_of jl) (po_of jh)) fun σ H Q ⟨env, st, ρ, Ow, en, sr, po⟩ => by
    refine ⟨env, st, ρ, Ow, en, sr, (Post.bind po).mono fun d st1 H1 ρ1 e1 s1' q v r => ?_⟩
    refine ⟨env, st1, ρ1, Ow, en.ext e1 sr.disj, s1', (Post.bind q).mono fun lo st2 H2 ρ2 e2 s2' q2 => ?_⟩
    refine ⟨env, st2, ρ2, Ow, (en.ext e1 sr.disj).ext e2 s1'.disj, s2', (Post.bind q2).mono fun hi st3 H3 ρ3 e3 s3 q3 => ?_⟩
    have rw3 : RW T H3 ρ3 Ow v d := (r.w.ext e2).ext e3
    have ru := rw3.view s3
    obtain ⟨dz, hd, q⟩ := Post.of s3 q3
    have hd0 : slice st3 d lo hi = some dz := hd
    unfold slice at hd
    have fin : ∀ {w : V} {H' : Hp}, New1 H3 H' → RV T H' ρ3 Ow w dz → Q w H' := fun {w H'} nw rv => by
      have q4 := q3
      rw [hd0] at q4
      exact q4 H' ρ3 (nw.ext ρ3) (nw.st s3) w rv
    generalize G.view st3 d = dv at ru hd
    cases dv with
    | str x =>
      cases hd
      obtain ⟨rfl, z, c⟩ := ru.str
      refine .inl (.inl ⟨_, rfl, by rw [← lim_line]; simpa [Str.length] using z, ?_⟩)
      have ec : L2.cutS ⟨x.toArray⟩ lo hi = ⟨(cut x lo hi).toArray⟩ := by
        unfold L2.cutS cut
        rw [clip_eq, clip_eq]
        simp [Str.length]
      rw [ec]
      refine fin (.inl rfl) (.str _ (Nat.le_trans (cut_len x lo hi) z) (List.all_eq_true.mpr fun a ha => List.all_eq_true.mp c a ?_))
      unfold cut at ha
      exact List.mem_of_mem_drop (List.mem_of_mem_take ha)
    | lst xs =>
      cases hd
      obtain ⟨a, vs, rfl, hq, z, rs⟩ := ru.lst
      refine .inl (.inr ⟨a, vs, rfl, .inl (.inl hq), fun p hp => ?_⟩)
      rw [cut_eq]
      exact fin (.inr ⟨p, _, hp, rfl⟩) (rv_lst hp (s3.fresh hp).1 (s3.fresh hp).2 (Nat.le_trans (cut_len vs lo hi) z) (rs.cut lo hi))
    | fl xs =>
      cases hd
      rcases ru with ru | ⟨_, _, _, _, h, _⟩
      · cases ru with
        | @fl a vs _ hq z rs =>
          refine .inl (.inr ⟨a, vs, rfl, by rw [C.eK]; exact hq.sq, fun p hp => ?_⟩)
          rw [cut_eq]
          exact fin (.inr ⟨p, _, hp, rfl⟩) (rv_lst hp (s3.fresh hp).1 (s3.fresh hp).2 (Nat.le_trans (cut_len vs lo hi) z) (rs.cut lo hi))
      · cases h
    | tup xs =>
      cases hd
      obtain ⟨a, vs, rfl, hq, z, rs⟩ := ru.tup
      refine .inr ⟨a, vs, rfl, by rw [C.eK]; exact hq.sq, fun hw => ?_, fun p o hp ho => ?_⟩
      · refine fin (.inl rfl) ?_
        have ex : cut xs lo hi = xs := by
          unfold cut
          rw [clip_eq, clip_eq, ← rs.length, hw.1, hw.2]
          simp [rs.length]
        rw [ex]
        exact .tup hq z rs
      · rw [cut_eq]
        exact fin (.inr ⟨p, _, hp, rfl⟩) (rv_tup hp ho (s3.fresh hp).1 (Nat.le_trans (cut_len vs lo hi) z) (rs.cut lo hi))
    | _ => cases hd)
theorem je_g {i : Nat} {x : PySem.Str} {v : V} {u : Value} {d : D} (C : CxG X T N sc n) (hg : Gl X x) (hm : X.mg x = some u) (hr : L2.RelV v u) (hd : (x == ("__debug__" : PySem.Str)) = false) (r : ∀ H ρ Ow, RV T H ρ Ow v d) :
    JE X T xf W (.Name x p) (G.Sem.of fun _ st => .ok d st) true :=
  .of C (PE.imp (L2.pe_glob hg hm hr hd) fun σ H Q ⟨env, st, ρ, Ow, en, sr, po⟩ => Post.ok sr po v (r _ _ _))
end
end G
namespace G
open PySem PySem.Spec PyProof.Rows
open L2 (V Hp HO upd SqL SqT Rd VK XK TE TT TA TI TS TG TGs Ends WX Cx PE PT PA PI PS PSs PG PGs Inv OpR CallR RelV Vals R2 PC PW Gl)
end G
namespace G
open PySem PySem.Spec PyProof.Rows
open L2 (V Hp HO upd SqL SqT Rd VK XK TE TT TA TI TS TG TGs Ends WX Cx PE PT PA PI PS PSs PG PGs Inv OpR CallR RelV Vals R2 PC PW Gl Room)
theorem eqv_at {n m : Nat} {y : D} (hy : okEq m y = true) : ∀ (xs : List D) (i : Nat) (z : PyData), okEqs n xs = true → (toPys xs)[i]? = some z → ∃ d, xs[i]? = some d ∧ z = toPy d ∧ pyEq d y = PyData.eqv z (toPy y)
  | [], i, z, _, h => by simp [toPys] at h
  | x :: xs, 0, z, h, e => by
    have h' : okEq n x = true ∧ okEqs n xs = true := by simpa [okEqs] using h
    have e' : toPy x = z := by simpa [toPys] using e
    subst e'
    exact ⟨x, rfl, rfl, pyEq_eqv n m x y h'.1 hy⟩
  | x :: xs, i + 1, z, h, e => by
    have h' : okEq n x = true ∧ okEqs n xs = true := by simpa [okEqs] using h
    obtain ⟨d, h1, h2, h3⟩ := eqv_at hy xs i z h'.2 (by simpa [toPys] using e)
    exact ⟨d, by simpa using h1, h2, h3⟩
theorem toPys_at : ∀ (xs : List D) (i : Nat) (d : D), xs[i]? = some d → (toPys xs)[i]? = some (toPy d)
  | [], _, _, h => by simp at h
  | x :: xs, 0, d, h => by
    have h : x = d := by simpa using h
    subst h; rfl
  | x :: xs, i + 1, d, h => by
    have := toPys_at xs i d (by simpa using h)
    simpa [toPys] using this
section
variable {X : Cx} {Y : Wd} {T : Tb} {xf : Nat → List Nm} {W : WX} {N : List PySem.Str} {sc : Scope} {n k : Nat} {e o : Expr} {es : List Expr} {p p2 pos apos cpos : Pos} {s t : G.Sem} {ss : List G.Sem} {str str2 : Bool}
def rTIndexD (K : PySem.W.Frag) : V → List V → Hp → VK → Prop := fun x xs H Q => ∃ (a : Addr) (y : V) (d : PyData) (ds : List PyData) (j : Nat) (z : PyData), x = V.ref a ∧ xs = [y] ∧ L2.Dp K H (V.ref a) (.tuple ds) ∧ L2.Dp K H y d ∧
  SeqAt.shaped (.tuple ds) = true ∧ SeqAt.shaped d = true ∧ ds[j]? = some z ∧ PyData.eqv z d = true ∧ (∀ (m : Nat) (z' : PyData), m < j → ds[m]? = some z' → PyData.eqv z' d = false) ∧ Q (.int (j : Nat)) H
theorem mt_tindexD (hu : X.A.units + 65 < cLine) : L2.MtR X "tuple.index" (rTIndexD X.K) := by
  rintro pins s σ H x xs v us Q I rx rxs ⟨a, y, d, ds, j, z, rfl, rfl, hl, hy, sl, sd, hz, hzj, hno, q⟩
  obtain rfl : v = .ref a := rx
  match us, rxs with
  | [uy], .cons ry .nil =>
    obtain ⟨bs, r1⟩ := L2.Dp.reads I d y uy hy ry
    have hxs : PyData.canLayAll0 ds = true := SeqAt.canLay_of_shaped sl
    have hroom : X.A.units + 1 + min (PyData.depthAll ds) d.depth < cLine := PyProof.Rows.room_in_shaped sd hu
    cases hl with
    | tup hs ha =>
      obtain ⟨its, rv, ⟨⟨cls, dd, data, sls⟩, ho, hc, n, hdt⟩, hlen⟩ := I.tuple hs
      simp only at hc hdt
      subst hc hdt
      obtain ⟨as, h4⟩ := L2.Dp.readsAll I ds _ its ha rv
      have hn : its.length = ds.length := SeqAt.ReadsAll.length ds its as h4
      have hmap : its.map (SeqAt.readOf s.heap) = ds := SeqAt.readsAll_map ds its as hxs h4
      have hjd := (List.getElem?_eq_some_iff.mp hz).1
      have hj : j < its.toArray.size := by simpa [hn] using hjd
      have look : ∀ (m : Nat) (hm : m < its.toArray.size) (z' : PyData), ds[m]? = some z' → SeqAt.readOf s.heap its.toArray[m] = z' := fun m hm z' hz' => by
        have hml : m < its.length := by simpa using hm
        rw [← hmap, List.getElem?_map, List.getElem?_eq_getElem hml] at hz'
        simpa using hz'
      refine call_meets PySem.F.slot_tuple_index ⟨_, ho, rfl⟩ PySem.F.entry_tuple_index (PySem.F.args_tuple_index_2 _ _)
        (TI.tuple_indexAt a its.toArray n dd sls uy (fun u => PyData.eqv (SeqAt.readOf s.heap u) d) j hj ?_ ?_)
        ⟨ho, SeqAt.items_eqAt (vs := its.toArray) (show ReadsAll s.heap its.toArray.toList ds as from h4) r1 hxs (SeqAt.canLay_of_shaped sd) hroom, ⟨.int (j : Nat), H, I.tok _, ⟨_, rfl⟩, q⟩⟩
      · show PyData.eqv (SeqAt.readOf s.heap its.toArray[j]) d = true
        rw [look j hj z hz]
        exact hzj
      · intro m hm hlt
        have hml : m < ds.length := by
          have : m < its.length := by simpa using hm
          omega
        show PyData.eqv (SeqAt.readOf s.heap its.toArray[m]) d = false
        rw [look m hm ds[m] (List.getElem?_eq_getElem hml)]
        exact hno m _ hlt (List.getElem?_eq_getElem hml)
def tyTup (K : PySem.W.Frag) (x : V) (H : Hp) : Prop := ∃ a vs, x = .ref a ∧ ((∃ o : PySem.Obj, H a = some (.frz o (.tup vs)) ∧ o.dict = none) ∨ ∃ (o : PySem.Obj), K.lookup a = some o ∧ o.dict = none ∧ o.cls = .type "tuple")
theorem ty_tup : L2.TyOk X "tuple" (tyTup X.K) := by
  rintro pins σ H s x v I r ⟨a, vs, rfl, h⟩
  obtain rfl : v = .ref a := r
  rcases h with ⟨o, h, hd⟩ | ⟨o, h, hd, hc⟩
  · obtain ⟨hg, _, its, _, ho⟩ := (show L2.ObjOk X.prog X.w H s.heap a (.frz o (.tup vs)) from I.hok a _ h)
    obtain ⟨o', hg', hc', _⟩ := ho
    rw [hg] at hg'
    cases hg'
    exact ⟨⟨o, hg, hc'⟩, fun b e => by cases e; exact ⟨o, hg, hd⟩⟩
  · exact ⟨⟨o, I.kIn a o h, hc⟩, fun b e => by cases e; exact ⟨o, I.kIn _ o h, hd⟩⟩
theorem StT.ty {K : PySem.W.Frag} {H : Hp} {ρ : List Addr} {a : Addr} {vs : List V} (q : StT K H ρ a vs) : tyTup K (.ref a) H := by
  rcases q with ⟨q, _⟩ | ⟨o, its, n, h1, h2, h3, _⟩
  · exact ⟨a, vs, rfl, .inl q⟩
  · exact ⟨a, vs, rfl, .inr ⟨o, h1, h2, h3⟩⟩
theorem je_tindex (C : CxG X T N sc n) (hp : plainO o = true) (hl : (apos.endLine == pos.line) = true) (he : plainE e = true) (jo : JE X T xf W o s str) (j : JE X T xf W e t str2) :
    JE X T xf W (.Call (.Attribute o "index" apos) [e] [] pos) (tindexE s t) true :=
  .of C (PE.imp (L2.pe_mG ty_tup PySem.F.plainAttrs_tuple PySem.F.slot_tuple_index PySem.F.type_tuple_index (mt_tindexD (by have := C.rm.un; omega)) jo.val (L2.pa_cons j.val L2.pa_nil (plain_star he _ _)) (base_plain hp _ _ _)
      (by rw [plain_star he]; rfl) hl (plain_star he _ _) (by rfl)) fun σ H Q ⟨env, st, ρ, Ow, en, sr, po⟩ => by
    refine ⟨env, st, ρ, Ow, en, sr, (Post.bind po).mono fun d st1 H1 ρ1 e1 s1 q v r => ?_⟩
    split at q
    rotate_left
    · exact q.elim
    rename_i hls
    cases d with
    | tup xs =>
      obtain ⟨a, vs, ev, hH, hz, rs⟩ := r.w.u.tup
      subst ev
      refine ⟨by rw [C.eK]; exact hH.ty, env, st1, ρ1, Ow, en.ext e1 sr.disj, s1, (Post.bind q).mono fun d2 st2 H2 ρ2 e2 s2 q2 v2 r2 => ?_⟩
      obtain ⟨dz, hdz, q3⟩ := Post.of s2 q2
      have hdz : (if (okEq 64 d2 && okEqs 63 xs) = true then (xs.findIdx? fun z => pyEq z d2).map fun (k : Nat) => D.int (k : Int) else none) = some dz := hdz
      split at hdz
      rotate_left
      · cases hdz
      rename_i hok
      rw [Bool.and_eq_true] at hok
      obtain ⟨kk, hk, rfl⟩ := Option.map_eq_some_iff.mp hdz
      obtain ⟨hk1, hk2, hk3⟩ := List.findIdx?_eq_some_iff_getElem.mp hk
      obtain ⟨p1, l1, z1⟩ := du_of hok.1 r2.w.u
      obtain ⟨a2, vs2, ev2, hH2, hz2, rs2⟩ := (RW.ext e2 r.w).u.tup
      cases ev2
      obtain ⟨g1, g2, g3⟩ := dps_of 63 xs vs2 hok.2 rs2
      have hat : (toPys xs)[kk]? = some (toPy xs[kk]) := toPys_at xs kk _ (List.getElem?_eq_getElem hk1)
      refine ⟨a, v2, toPy d2, toPys xs, kk, toPy xs[kk], rfl, rfl, by rw [C.eK]; exact .tup hH2.sq g1, by rw [C.eK]; exact p1, ?_, shaped_of l1 z1, hat, ?_, fun m z' hm hz' => ?_, q3 _ (.int _)⟩
      · exact shaped_of (by simpa [PyData.canLay0] using g2) (by simp [PyData.depth]; omega)
      · obtain ⟨d, hd1, hd2, hd3⟩ := eqv_at hok.1 xs kk _ hok.2 hat
        rw [← hd3]
        rw [List.getElem?_eq_getElem hk1] at hd1
        cases hd1
        exact hk2
      · obtain ⟨d, hd1, hd2, hd3⟩ := eqv_at hok.1 xs m _ hok.2 hz'
        rw [← hd3]
        have h5 := hk3 m hm
        obtain ⟨h6, h7⟩ := List.getElem?_eq_some_iff.mp hd1
        rw [h7] at h5
        simpa using h5
    | _ => cases hls)
end
end G
namespace G
open PySem PySem.Spec PyProof.Rows
open L2 (V Hp HO upd SqL SqT Rd VK XK TE TT TA TI TS TG TGs Ends WX Cx PE PT PA PI PS PSs PG PGs Inv OpR CallR RelV Vals R2 PC PW Gl Room)
section
variable {X : Cx} {Y : Wd} {T : Tb} {xf : Nat → List Nm} {W : WX} {N : List PySem.Str} {sc : Scope} {n k : Nat} {Γ : Ctx} {e a b : Expr} {p pos : Pos} {s sa sb : G.Sem} {str ra rb : Bool}
theorem obj_at {H : Hp} {ρ Ow : List Addr} {st : Store} {v : V} {d : D} {c : Nat} {fs : List D} (sr : StR T H ρ Ow st) (r : RW T H ρ Ow v d) (h : objv st d = some (c, fs)) : ∃ a dx gs, v = .ref a ∧ H a = some (.ins (T.cls c) dx gs) ∧ RV T H ρ Ow v d := by
  rcases r with r | ⟨_, _, _, _, e, _⟩
  · cases d with
    | obj c2 fs2 =>
      cases h
      have r0 := r
      cases r with
      | obj q n1 n2 z rs => exact ⟨_, _, _, rfl, q, r0⟩
    | loc l =>
      unfold objv at h
      cases hs : st[l]? with
      | none => simp [hs] at h
      | some ob =>
        cases ob with
        | lst xs => simp [hs] at h
        | dic z ks => simp [hs] at h
        | ins c2 fs2 =>
          simp [hs] at h
          obtain ⟨rfl, _⟩ := h
          have r0 := r
          cases r with
          | loc ha =>
            obtain ⟨_, dx, vs, q, _⟩ := sr.at_ l _ _ ha hs
            exact ⟨_, dx, _, rfl, q, r0⟩
    | _ => cases h
  · subst e
    cases h
end
end G
namespace G
open PySem PySem.Spec PyProof.Rows
open L2 (V Hp HO upd SqL SqT Rd VK XK TE TT TA TI TS TG TGs Ends WX Cx PE PT PA PI PS PSs PG PGs Inv OpR CallR RelV Vals R2 PC PW Gl Room)
end G
namespace G
open PySem PySem.Spec PyProof.Rows
open L2 (V Hp HO upd SqL SqT Rd VK XK TE TT TA TI TS TG TGs Ends WX Cx PE PT PA PI PS PSs PG PGs Inv OpR CallR RelV Vals R2 PC PW Gl Room)
section
open PySem.W
variable {prog : Program} {w : World} {A : Around} {E : Value → Shared → Prop} {s : Shared} {K : Frag} {x C L f : Addr} {h₀ : Heap} {m : PySem.Str → Option Value} {ox : PySem.Obj} {od : Option PySem.Obj} {b tb : Value}
theorem ne_ifBound {Q : Option Value → Shared → Prop} (X : K.In s.heap) (I : InstAt s.heap x ox C od) (hs : findIn K (.ref C) "__ne__" = some (some (.builtin "object.__ne__"))) {args : List Value}
    (h : wpAny (model prog w) A (PySem.call (.builtin "object.__ne__") (.ref x :: args)) (fun v => Q (some v)) E s) : wpAny (model prog w) A (callSpecialIfBound? (.ref x) "__ne__" args) Q E s := by
  simp only [callSpecialIfBound?, bindSpecialIfBound?]
  refine wpAny_holding (wpAny_bind (wpAny_bind (wpAny_bind (I.type.here ((looks_findIn X hs).here ?_)))))
  refine wpAny_bind (wpAny_askSetting (wpAny_ite ?_))
  have fin : wpAny (model prog w) A (PySem.call (.builtin "object.__ne__") ([.ref x] ++ args) >>= fun v => pure (some v)) Q E s := wpAny_bind (wpAny_mono h (fun v s' h' => wpAny_pure h') fun _ _ h' => h')
  have hb : Looks (model prog w) s.heap (bindSpecial (.builtin "object.__ne__") (.ref x)) (.builtin "object.__ne__", [.ref x]) := Looks.of_pure (PySem.F.cmp_object.ne.bind (.ref x))
  split
  · exact wpAny_bind (hb.here (wpAny_pure (by exact fin)))
  · exact wpAny_tryCatch (wpAny_bind (hb.here (wpAny_pure (by exact fin))))
end
end G
namespace G
open PySem PySem.Spec PyProof.Rows
section
open Builtin Builtin.ObjectAttr PySem.W PySem.Calls
variable {prog : Program} {w : World} {A : Around} {E : Value → Shared → Prop} {R : Result → Shared → Prop} {hp : Heap} {gs : Array GenState} {dr : Drawn} {tk0 : Nat} {os : OsState}
theorem exc_first {B : String} {bmB : List Value} {K : Frag} {name : PySem.Str} {tk : Tok} {v : Value} {x C : Addr} {fv : Array Value} {cd : ClassData} (SF : StoreFacts B bmB "object.__setattr__" "object") (X : K.In hp) (hx : hp.get? x = some { cls := .ref C, data := .fields fv })
    (hover : excOver K C bmB = true) (hcd : clsIn K C = some cd) (hh : cd.hasDict = true) (hno : findIn K (.ref C) name = some none)
    (hq : ∀ h' tk' dx, (∀ b o, b ≠ x → hp.get? b = some o → h'.get? b = some o) → hp.objs.size ≤ dx → dx ≠ x → h'.get? x = some { cls := .ref C, dict := some dx, data := .fields fv } →
      h'.Ns1 dx (fun y => if y = name then some v else none) → R (.ok (.ret .none)) ⟨h', gs, dr, tk', os⟩) :
    codeAny (model prog w) A (.call (.builtin "object.__setattr__") ⟨[.ref x, .str name tk, v], []⟩) R ⟨hp, gs, dr, tk0, os⟩ := by
  have I : InstAt hp x { cls := .ref C, data := .fields fv } C none := ⟨hx, rfl, rfl, trivial⟩
  have ht : takerIn K C name = some none := by
    unfold takerIn
    rw [hno]; rfl
  refine osa_openX (s := ⟨hp, gs, dr, tk0, os⟩) SF X I hover ht fun b => ?_
  have hne : x ≠ hp.objs.size := Nat.ne_of_lt (Heap.lt_size hx)
  have Lc : Looks (model prog w) hp (classData C) cd := looks_clsIn X hcd
  show wpAny _ _ (storeInOwnDict (.ref x) (.ref C) (.str name tk) name v b) _ _ _
  obtain ⟨nm, bs, mro, ns, qn, hd, sn, sb, ab, col, del⟩ := cd
  dsimp only at hh
  subst hh
  unfold storeInOwnDict ownDictForStores
  repeat (first | with_reducible refine HandSPX.store_in_new ?_ ?_ | with_reducible refine wpAny_loadPart_at hx ?_ | with_reducible refine Lc.at ?_ | wp_step)
  · have here : ((hp.push { cls := .type "dict", data := .dict #[] }).update x fun o => { cls := o.cls, dict := some hp.objs.size, data := o.data, slots := o.slots }).get? hp.objs.size = some { cls := .type "dict", data := .dict #[] } :=
      (Heap.get?_update_ne _ _ _ _ hne.symm).trans (Heap.get?_push_size _ rfl)
    exact ⟨_, #[], _, here, rfl, fun e he => absurd he (by simp), fun _ => rfl⟩
  · intro h' tk' hn' hs
    have old : (hp.push { cls := .type "dict", data := .dict #[] }).get? x = some { cls := .ref C, data := .fields fv } := Heap.get?_push_of_some _ hx
    have kept : ∀ b o, b ≠ x → hp.get? b = some o → h'.get? b = some o := fun b o hb ho => by
      rw [hs.2 b (Nat.ne_of_lt (Heap.lt_size ho)), Heap.get?_update_ne _ _ _ _ hb]
      exact Heap.get?_push_of_some _ ho
    exact hq h' tk' hp.objs.size kept (Nat.le_refl _) hne.symm ((hs.2 x hne).trans (Heap.get?_update_self _ old rfl)) hn'
end
open L2 (V Hp HO upd SqL SqT Rd VK XK TE TT TA TI TS TG TGs Ends WX Cx PE PT PA PI PS PSs PG PGs Inv OpR CallR RelV Vals R2 PC PW Gl Room exo exd)
structure ExB (B newId initId : String) (bmB : List Value) : Prop where
  base : ExcBaseFacts B newId initId bmB
  store : StoreFacts B bmB "object.__setattr__" "object"
  exc : bmB.contains (.type "BaseException") = true
structure ExC (K : PySem.W.Frag) (C : Addr) (newId : String) (bmB : List Value) : Prop where
  cls : ∃ nm q N bs bm sn sub ab col dd k0 k1 k2 k3 k5, K.lookup C = some (excClassObj nm q C N bs bm true sn sub ab col dd k0 k1 k2 k3 k5 newId) ∧ PySem.W.excTail bmB bm = true
  over : PySem.W.excOver K C bmB = true
  sa : PySem.W.findIn K (.ref C) "__setattr__" = some (some (.builtin "object.__setattr__"))
  exC : PySem.W.subIn K (.ref C) (.type "BaseException") = some true
  tyC : PySem.W.typeIn K (.ref C) = some (.type "type")
  kC : PySem.W.keepIn K (.ref C) = true
section
variable {X : Cx} {pins : List (Addr × PySem.Obj)} {σ : L2.St} {H : Hp} {s : Shared} {a C dx : Addr} {f : PySem.Str} {y : V} {u : Value} {Q : Unit → Shared → Prop} {E : Value → Shared → Prop} {A : Around} {B newId initId : String} {bmB : List Value}
theorem inv_first {h' : Heap} {t' : Nat} (I : Inv X pins σ H s) (e : H a = some (exo a C none)) (ry : RelV y u) (k : ∀ b o, b ≠ a → s.heap.get? b = some o → h'.get? b = some o) (dn : s.heap.objs.size ≤ dx)
    {t1 : Addr} (hx : h'.get? a = some { cls := .ref C, dict := some dx, data := .fields #[.ref t1, .none, .none, .none, .bool false, .none] }) (hn : h'.Ns1 dx fun z => if z = f then some u else none) :
    Inv X pins σ (upd (upd H dx (exd dx [(f, y)])) a (exo a C (some dx))) { s with heap := h', toks := t' } := by
  have nd : H dx = none := I.hok.fresh dn
  have olderNe : ∀ {b : Addr} {o : PySem.Obj}, s.heap.get? b = some o → b ≠ dx := fun q z => absurd (Heap.lt_size q) (by rw [z]; exact Nat.not_lt.mpr dn)
  have freeNe : ∀ {b : Addr}, H b = none → b ≠ a := fun n z => by rw [z, e] at n; cases n
  have other : ∀ {b : Addr} {u : HO}, H b = some u → b ≠ a → upd (upd H dx (exd dx [(f, y)])) a (exo a C (some dx)) b = some u := fun {b u} q na => by rw [L2.upd_ne na, L2.upd_ne (L2.ne_of_none q nd)]; exact q
  refine I.un (t' := t') ⟨fun b o q n _ _ => k b o (freeNe n) q, fun b o q n _ _ => ⟨o.slots, k b o (freeNe n) q⟩, fun b o q n _ => by rw [L2.upd_ne (freeNe n), L2.upd_ne (olderNe q)]; exact n, fun b o q _ => ?_, fun b xs q => other q (L2.at_ne e q L2.exo_tup), fun b o v q => other q (L2.at_ne e q L2.exo_frz), fun b ps q => ⟨#[], by rw [other q (L2.at_ne e q L2.exo_tbl)]; simp⟩⟩ fun b o q => ?_
  · by_cases hb : b = a
    · exact ⟨_, by rw [hb]; exact hx⟩
    · exact ⟨o, k b o hb q⟩
  · by_cases hb : b = a
    · subst hb
      rw [L2.upd_same] at q
      cases q
      exact L2.exo_ok hx
    · rw [L2.upd_ne hb] at q
      by_cases hd : b = dx
      · subst hd
        rw [L2.upd_same] at q
        cases q
        exact L2.exd_ok hn (L2.relO_put (fs := []) ry fun g => True.intro)
      · rw [L2.upd_ne hd] at q
        refine (I.hok b o q).stay (fun c v hc z => k c v ?_ z) (fun c hc => other hc (L2.at_ne e hc L2.exo_own)) fun c xs hc => other hc (L2.at_ne e hc L2.exo_tup)
        rcases hc with hc | hc
        · rw [hc]; exact hb
        · exact L2.at_ne e hc L2.exo_own
theorem set_first (FB : ExB B newId initId bmB) (T : ExC X.K C newId bmB) (I : Inv X pins σ H s) (e : H a = some (exo a C none)) (hno : PySem.W.findIn X.K (.ref C) f = some none) (ry : RelV y u)
    (h : ∀ dx s', H dx = none → dx ≠ a → Inv X pins σ (upd (upd H dx (exd dx [(f, y)])) a (exo a C (some dx))) s' → Q () s') : wpAny (model X.prog X.w) A (setAttr (.ref a) f u) Q E s := by
  obtain ⟨nm, q, N, bs, bm, sn, sub, ab, col, dd, k0, k1, k2, k3, k5, hC, hbm⟩ := T.cls
  have hcl : PySem.W.clsIn X.K C = some { name := nm, bases := bs, mro := .ref C :: bm, ns := N, qualname := q, hasDict := true, slotNames := sn, subclasses := sub, abstract := ab, collection := col, hasDel := false } := by
    unfold PySem.W.clsIn
    rw [hC] <;> rfl
  obtain ⟨t1, ho⟩ := L2.exo_at I.hok e
  obtain ⟨hp, g, d, t, os⟩ := s
  refine PySem.W.set_plain I.kIn (ox := { cls := .ref C, dict := none, data := .fields #[.ref t1, .none, .none, .none, .bool false, .none] }) (od := none) ⟨ho, rfl, rfl, trivial⟩ T.sa ?_
  refine exc_first FB.store I.kIn ho T.over hcl rfl hno fun h' tk' dx k dn dne hx hn => ?_
  exact h dx _ (I.hok.fresh dn) dne (inv_first (s := ⟨hp, g, d, t, os⟩) (t' := tk') I e ry k dn hx hn)
end
section
variable {X : Cx} {B newId initId : String} {bmB : List Value} {o e : Expr} {to te : TE} {f : PySem.Str} {p' pos : Pos}
def tFirst (K : PySem.W.Frag) (newId : String) (bmB : List Value) (f : PySem.Str) (to te : TE) : TS := fun Z σ H => te σ H fun y H1 => to σ H1 fun x H2 => ∃ a C : Addr, x = .ref a ∧ ExC K C newId bmB ∧ PySem.W.findIn K (.ref C) f = some none ∧ H2 a = some (exo a C none) ∧
  ∀ dx, H2 dx = none → dx ≠ a → Z.nx σ (upd (upd H2 dx (exd dx [(f, y)])) a (exo a C (some dx)))
theorem ps_first (FB : ExB B newId initId bmB) (ho : PE X o to) (he : PE X e te) (hs : swapsWith e (some (.Attribute o f p')) pos.line X.env = pure false) : PS X (.Assign [.Attribute o f p'] e pos) (tFirst X.K newId bmB f to te) := by
  refine ⟨fun pins s σ H Z I h => ?_⟩
  refine plainObj_wpAny_Assign_Attribute (L2.thn (he.run pins s σ H _ I h) fun v s1 ⟨y, H1, I1, r1, q1⟩ => L2.thn (ho.run pins s1 σ H1 _ I1 q1) fun u s2 ⟨x, H2, I2, r2, q2⟩ => ?_) hs
  obtain ⟨a, C, ex, T, hno, ea, q⟩ := q2
  subst ex
  have eu : u = Value.ref a := r2
  subst eu
  exact set_first FB T I2 ea hno r1 fun dx s' n ne J => ⟨σ, _, J, q dx n ne⟩
end
def spInit (K : PySem.W.Frag) (newId : String) (bmB : List Value) (f : PySem.Str) : L2.Sp := fun vs H Q _ => ∃ a C y, vs = [.ref a, y] ∧ ExC K C newId bmB ∧ PySem.W.findIn K (.ref C) f = some none ∧ H a = some (exo a C none) ∧ ∀ dx, H dx = none → dx ≠ a → Q .non (upd (upd H dx (exd dx [(f, y)])) a (exo a C (some dx)))
theorem init_ok {P : Program} {w : World} {K : PySem.W.Frag} {mg : PySem.Str → Option Value} {base : Heap} {k : Nat} {fI : Addr} {name qual : PySem.Str} {params : Arguments} {scope : Scope} {dV kV doc pm cdv ct oc : Value} {an od : Option Addr} {osl : Array (Option Value)} {B newId initId : String} {bmB : List Value} {x1 x2 f : PySem.Str} {p1 p2 p3 pos : Pos}
    (FB : ExB B newId initId bmB) (lk : K.lookup fI = some ⟨oc, od, .func (PySem.W.fnOf name qual params [.Assign [.Attribute (.Name x1 p1) f p3] (.Name x2 p2) pos] scope dV kV doc pm an cdv ct), osl⟩) (hcd : PySem.W.codeIn K cdv qual = true) (S : L2.FnScope [x1, x2] [x1, x2] scope)
    (h1 : (x1 == ("__debug__" : PySem.Str)) = false) (h2 : (x1 == ("__classdict__" : PySem.Str)) = false) (h3 : (x2 == ("__debug__" : PySem.Str)) = false) (h4 : (x2 == ("__classdict__" : PySem.Str)) = false) :
    L2.FnOk P w K mg base (L2N.CX P w) (k + 1) fI (PySem.W.fnOf name qual params [.Assign [.Attribute (.Name x1 p1) f p3] (.Name x2 p2) pos] scope dV kV doc pm an cdv ct) [x1, x2] (spInit K newId bmB f) := by
  have vis : ∀ x ∈ [x1, x2], L2.Vis scope x := fun x hx => (S.par x hx).elim .inl fun z => .inr (.inl z)
  refine L2.fn_of lk hcd S (fun vs H Q E h => ?_) fun A outer s H vs Q E hr h => ?_
  · obtain ⟨a, C, y, rfl, _⟩ := h
    rfl
  · obtain ⟨a, C, y, rfl, T, hno, ea, q⟩ := h
    refine ⟨_, L2.pss_one (ps_first FB (L2.pe_var (i := 0) rfl (vis x1 (by simp)) h1 h2) (L2.pe_var (i := 1) rfl (vis x2 (by simp)) h3 h4) rfl), ?_⟩
    exact ⟨y, rfl, .ref a, rfl, a, C, rfl, T, hno, ea, q⟩
end G
namespace G
open PySem PySem.Spec PyProof.Rows
open L2 (V Hp HO upd SqL SqT Rd VK XK TE TT TA TI TS TG TGs Ends WX Cx PE PT PA PI PS PSs PG PGs Inv OpR CallR RelV Vals R2 PC PW Gl Room exo exd)
structure ErrOk (Y : Wd) (k : Nat) (C : Addr) (f : PySem.Str) : Prop where
  ex : ∃ (B newId initId : String) (bmB : List Value) (fI : Addr) (fd : FuncData) (x1 x2 : PySem.Str), ExB B newId initId bmB ∧ ExC Y.K C newId bmB ∧ PySem.W.findIn Y.K (.ref C) f = some none ∧ PySem.W.findIn Y.K (.ref C) "__init__" = some (some (.ref fI)) ∧ PySem.W.typeIn Y.K (.ref fI) = some (.type "function") ∧
    L2.FnOk Y.P Y.w Y.K Y.mg Y.base (L2N.CX Y.P Y.w) k fI fd [x1, x2] (spInit Y.K newId bmB f) ∧ L2.Binds Y.K fd [x1, x2] []
theorem mk_endN {X : Cx} {pins : List (Addr × PySem.Obj)} {σ : L2.St} {H1 H2 : Hp} {Q : XK} {hp hp2 h2 : Heap} {g1 g2 : Array GenState} {d1 d2 : Drawn} {t1 t2 : Nat} {os1 os2 : OsState} {a C d : Addr} {fs : List (PySem.Str × V)} (T : L2.Raises X (.ref C)) (I1 : Inv X pins σ H1 ⟨hp, g1, d1, t1, os1⟩)
    (ha : hp.objs.size ≤ a) (k : ∀ b o, hp.get? b = some o → hp2.get? b = some o) (un : L2.Un (L2.frs X.stack) [] (upd H1 a (exo a C none)) H2 hp2 h2) (hok : L2.HOk X.prog X.w H2 h2) (ho : os2 = os1) (hb : AllBare g2)
    (ea : H2 a = some (exo a C (some d))) (ed : H2 d = some (exd d fs)) (hd1 : H1 d = none) (q : Q (.ref C) (some d) (upd (L2.del H2 a) d (.xd fs))) : L2N.MkP X pins σ Q (.ref a) ⟨h2, g2, d2, t2, os2⟩ := by
  obtain ⟨t0, G, J, kG, ge, hoe, na⟩ := L2.mk_end0 (d2 := d2) (t2 := t2) I1 ha k un hok ho hb ea ed hd1
  exact ⟨a, _, _, ⟨G, g2, d2, t2, os2⟩, _, .ref C, some d, rfl, J, kG, ge, hoe, ⟨rfl, rfl, fun vs e => by cases e; rfl⟩, rfl, rfl, na, rfl, hb, T, q⟩
section
variable {X : Cx} {Y : Wd} {W : WX} {N : List PySem.Str} {sc : Scope} {n k : Nat} {Γ : Ctx} {x f : PySem.Str} {e : Expr} {te : TE} {p pos cpos : Pos} {s : G.Sem} {C : Addr}
theorem pmk_err (M : CxY X Y W N sc n) (G0 : ErrOk Y k C f) (hk : k + 1 ≤ n) (hg : Gl X x) (hm : Y.mg x = some (.ref C)) (hd : (x == ("__debug__" : PySem.Str)) = false) (hpl : plainE e = true) (he : PE X e te) :
    L2N.PMk X (.Call (.Name x p) [e] [] pos) (fun σ H Q => te σ H fun y H1 => ∀ dx, H1 dx = none → Q (.ref C) (some dx) (upd H1 dx (.xd [(f, y)]))) := by
  intro pins s0 σ H Q I h
  obtain ⟨B, newId, initId, bmB, fI, fd, x1, x2, FB, T0, hno0, iC0, tI0, F0, hb0⟩ := G0.ex
  have T : ExC X.K C newId bmB := by rw [M.eKY]; exact T0
  have hno : PySem.W.findIn X.K (.ref C) f = some none := by rw [M.eKY]; exact hno0
  have iC : PySem.W.findIn X.K (.ref C) "__init__" = some (some (.ref fI)) := by rw [M.eKY]; exact iC0
  have tI : PySem.W.typeIn X.K (.ref fI) = some (.type "function") := by rw [M.eKY]; exact tI0
  have F1 : L2.FnOk X.prog X.w X.K X.mg X.base (L2N.CX X.prog X.w) k fI fd [x1, x2] (spInit X.K newId bmB f) := by
    rw [M.eP, M.ew, M.eKY, M.em, M.eb]; exact F0
  have hb : L2.Binds X.K fd [x1, x2] [] := by rw [M.eKY]; exact hb0
  have hr : Room (k + 1) X.A := M.room.mono hk
  obtain ⟨nm, q, N0, bs, bm, sn, sub, ab, col, dd, k0, k1, k2, k3, k5, hC, hbm⟩ := T.cls
  refine wpAny_Call_Name_kw (L2.ld_glob I hg (by rw [M.em]; exact hm) ?_ hd)
  refine PySem.W.callWith_K (h₀ := X.base) I.ok.mod.kin T.kC (L2.thn ((L2.pa_cons he L2.pa_nil (plain_star hpl _ _)).run pos pins s0 σ H (fun vs H1 => match vs with
    | [y] => ∀ dx, H1 dx = none → Q (.ref C) (some dx) (upd H1 dx (.xd [(f, y)]))
    | _ => False) I h) fun us s1 ⟨vs, H1, I1, r1, q1⟩ => ⟨I1.kIn, ?_⟩) (plain_star hpl _ _) (by rfl)
  obtain ⟨y, rfl⟩ : ∃ y, vs = [y] := by
    match vs, q1 with
    | [y], _ => exact ⟨y, rfl⟩
  obtain ⟨u, rfl, ru⟩ := r1.one
  show wpAny _ _ (PySem.call (.ref C) [u]) _ _ _
  obtain ⟨hp, g, dr, tk, os⟩ := s1
  generalize hae : hp.objs.size + 1 = ae
  have hae2 : hp.objs.size ≤ ae := by omega
  have fresh : H1 ae = none := I1.hok.fresh hae2
  have kk : ∀ b o, hp.get? b = some o → ((hp.push (PySem.W.kdv_tup [u])).push (PySem.HandSPX.excO C hp.objs.size)).get? b = some o := fun b o e => Heap.get?_push_of_some _ (Heap.get?_push_of_some _ e)
  have hget : ((hp.push (PySem.W.kdv_tup [u])).push (PySem.HandSPX.excO C hp.objs.size)).get? ae = some (PySem.HandSPX.excO C hp.objs.size) := by rw [← hae]; heap_get
  have I2 : Inv X pins σ (upd H1 ae (exo ae C none)) ⟨(hp.push (PySem.W.kdv_tup [u])).push (PySem.HandSPX.excO C hp.objs.size), g, dr, tk, os⟩ :=
    I1.laid (t' := tk) (a := ae) (o := exo ae C none) (h' := (hp.push (PySem.W.kdv_tup [u])).push (PySem.HandSPX.excO C hp.objs.size)) kk hae2 (L2.exo_ok hget)
  -- what the class's __init__ is to do
  have want : spInit X.K newId bmB f [.ref ae, y] (upd H1 ae (exo ae C none))
      (fun v H2 => v = .non ∧ ∃ d fs, H2 ae = some (exo ae C (some d)) ∧ H2 d = some (exd d fs) ∧ H1 d = none ∧ Q (.ref C) (some d) (upd (L2.del H2 ae) d (.xd fs))) (fun _ _ _ => False) := by
    refine ⟨ae, C, y, rfl, T, hno, L2.upd_same, fun dx hdx hne => ⟨rfl, dx, [(f, y)], L2.upd_same, ?_, ?_, ?_⟩⟩
    · rw [L2.upd_ne hne, L2.upd_same]
    · rw [L2.upd_ne hne] at hdx; exact hdx
    · have hdx1 : H1 dx = none := by rw [L2.upd_ne hne] at hdx; exact hdx
      have eH : upd (L2.del (upd (upd (upd H1 ae (exo ae C none)) dx (exd dx [(f, y)])) ae (exo ae C (some dx))) ae) dx (.xd [(f, y)]) = upd H1 dx (.xd [(f, y)]) := by
        funext b
        by_cases h1 : b = dx
        · rw [h1, L2.upd_same, L2.upd_same]
        · rw [L2.upd_ne h1, L2.upd_ne h1]
          by_cases h2 : b = ae
          · rw [h2, L2.del_same, fresh]
          · rw [L2.del_ne h2, L2.upd_ne h2, L2.upd_ne h1, L2.upd_ne h2]
      rw [eH]
      exact q1 dx hdx1
  have bind : BindsTo ⟨(hp.push (PySem.W.kdv_tup [u])).push (PySem.HandSPX.excO C hp.objs.size), g, dr, tk, os⟩ fd ⟨[.ref ae, u], []⟩ ([x1, x2].zip [.ref ae, u]) := by
    have z := hb _ [.ref ae, u] I2.kIn rfl
    rw [List.append_nil] at z
    exact z
  have go := F1.run (X.A.under (.builtin "type.__call__" ⟨.ref C :: [u], []⟩)) X.stack _ _ ⟨[.ref ae, u], []⟩ [.ref ae, u] [.ref ae, y] _ (fun _ _ _ => False) (hr.make C [u] []) (I2.env0.make C [u] []) bind (.cons rfl (.cons ru .nil)) want
  subst hae
  refine wpAny_call (PySem.HandSPX.call_own FB.base (fun Z => PySem.W.excTail_contains Z bm hbm) (I1.kIn _ _ hC) (PySem.W.looks_findIn I1.kIn iC) (fun self => PySem.W.bind_fn I1.kIn self tI) (by show 1 ≤ sizeLine; rw [sizeLine_eq]; omega) (codeAny_mono go fun r s' hq' => ?_))
  cases r with
  | error er =>
    obtain ⟨_, _, _, _, _, _, _, _, _, _, _, _, z⟩ := hq'
    exact z.elim
  | ok fl =>
    cases fl with
    | ret u2 =>
      obtain ⟨v, H2, os2, bare2, un2, hok2, rv, ev, d, fs, ea, ed, hd1, q2⟩ := hq'
      subst ev
      obtain ⟨h2, g2, d2, t2, os'⟩ := s'
      exact ⟨rv, mk_endN (L2.raises_own T.exC T.tyC) I1 (Nat.le_succ _) kk un2 hok2 os2 bare2 ea ed hd1 q2⟩
    | _ => exact hq'.elim
theorem js_raise {Ow0 : List Addr} {frr : Bool} {c : Nat} {fn : Nm} {q : Xc} (CS : CxS X ⟨Y.T, Y.xf, W, Ow0, frr⟩ N sc n) (M : CxY X Y W N sc n) (hq : Γ.exs c = some q) (hf : q.field = [fn]) (hxf : Y.xf c = [fn]) (hnm : Y.T.nm fn = f) (hC : Y.T.exc c = C) (G0 : ErrOk Y k C f) (hk : k + 1 ≤ n) (hg : Gl X x) (hm : Y.mg x = some (.ref C)) (hd : (x == ("__debug__" : PySem.Str)) = false)
    (hpl : plainE e = true) (j : JE X Y.T Y.xf W e s true) : JS X ⟨Y.T, Y.xf, W, Ow0, frr⟩ (.Raise (some (.Call (.Name x p) [e] [] cpos)) none pos) fun env st => (args [s] env st).run env fun ds st => match Γ.exs c with
      | some k => if k.field.length = ds.length then .ex env c ds st else .bad
      | none => .bad :=
  PS.imp (L2N.ps_raise CS.calm CS.tk (pmk_err M G0 hk hg hm hd hpl j.val)) fun Z σ H ⟨env, st, ρ, Ow, fr, po⟩ => by
    have po1 := PostR.run fr po
    have po2 := Post.bind po1
    refine ⟨env, st, ρ, Ow, fr.en, fr.sr, po2.mono fun d st1 H1 ρ1 e1 s1 q1 v r dx hdx => ?_⟩
    have q2 := Post.ok s1 q1
    obtain ⟨f1, q4⟩ := q2
    rw [hq] at q4
    have q5 : PostR ⟨Y.T, Y.xf, W, Ow0, frr⟩ H1 ρ1 Ow Z (if q.field.length = [d].length then .ex env c [d] st1 else .bad) := q4
    rw [hf, if_pos (show [fn].length = [d].length from rfl)] at q5
    have r' : RV Y.T H1 ρ1 Ow v d := r
    have en := Ext.new (ρ := ρ1) (o := HO.xd [(f, v)]) hdx
    have sn : StR Y.T (upd H1 dx (.xd [(f, v)])) ρ1 Ow st1 := s1.new hdx
    refine q5 (.ref C) (some dx) σ _ ρ1 Ow (f1.step en) (f1.ext en sn) ⟨by rw [hC], ?_⟩
    show match Y.xf c, [d], some dx with
      | [], [], none => True
      | [f], [d], some x => ∃ v', upd H1 dx (.xd [(_, v)]) x = some (.xd [(Y.T.nm f, v')]) ∧ x ∉ ρ1 ∧ x ∉ Ow ∧ RV Y.T _ ρ1 Ow v' d
      | _, _, _ => False
    rw [hxf]
    exact ⟨v, by rw [L2.upd_same, hnm], (s1.fresh hdx).1, (s1.fresh hdx).2, r'.ext en⟩
end
end G
namespace G
open PySem PySem.Spec PyProof.Rows
open L2 (V Hp HO upd SqL SqT Rd VK XK TE TT TA TI TS TG TGs Ends WX Cx PE PT PA PI PS PSs PG PGs Inv OpR CallR RelV Vals R2 PC PW Gl Room)
open LamX (TabB lamEnv TabS Tabs CodeO)
end G
namespace G
open PySem PySem.Spec PyProof.Rows
open L2 (V Hp HO upd SqL SqT Rd VK XK Inv RelV Vals Gl Room Env0 Mod HOk)
section
variable {P : Program} {w : World} {K : PySem.W.Frag} {mg mb : PySem.Str → Option Value} {k : Nat} {fa a : Addr} {fd : FuncData} {x : PySem.Str} {s : Shared} {vs : List Value} {ns : List Int} {T : Tb} {xf : Nat → List Nm} {cs : List (Addr × Addr)}
def Trues (c : Fd) (ns : List Int) : Prop := ∃ st, c [.fl (ns.map .int)] [] = .ok (.bl true) st
structure TabsAt (h : Heap) (K : PySem.W.Frag) (T : Tb) (cs : List (Addr × Addr)) : Prop where
  hT : ∀ p ∈ cs, h.get? p.2 = some { cls := .none, data := .fields #[] }
  nT : ∀ p ∈ cs, K.lookup p.2 = none
  code : ∀ p ∈ cs, PySem.W.CodeHd h p.1 p.2
  eT : T.tabs.map (·.1) = cs.map (·.2)
  nd : (cs.map (·.2)).Nodup
theorem law_callG {c : Fd} (KX : K.In s.heap) (hns : s.heap.Ns mainGlobals mg) (hb : s.heap.Ns builtinsNs mb) (hbb : ∀ x : PySem.Str, x ≠ "__name__" → mb x = bootBuiltins x) (hlim : s.heap.NoLimit) (hg : s.gens = #[]) (Z : TabsAt s.heap K T cs)
    (hbm : ∃ (bm : Addr) (ob : PySem.Obj), mg "__builtins__" = some (.ref bm) ∧ bm ≠ builtinsNs ∧ s.heap.get? bm = some ob ∧ ob.cls = .type "module" ∧ ob.dict = some builtinsNs ∧ ob.data = .plain)
    (ha : s.heap.get? a = some { cls := .type "list", data := .seq vs.toArray }) (hi : IntsAre vs ns) (hl : ns.length ≤ sizeLine) (hr : Room k callerA) (eK : T.K = K)
    (F : ∀ base : Heap, K.In base → base.Ns mainGlobals mg → (∀ p ∈ cs, LamX.TabB base mg p.1 p.2) → FnG ⟨P, w, K, mg, base, T, xf⟩ k fa fd [x] c) (hbind : ∀ (s : Shared) (u : Value), BindsTo s fd ⟨[u], []⟩ [(x, u)]) (ht : Trues c ns) :
    codeAny (model P w) callerA (.call (.ref fa) ⟨[.ref a], []⟩) (fun r s' => r = .ok (.ret (.bool true)) ∧ OldK s.heap s'.heap ∧ s'.os = s.os ∧ AllBare s'.gens) s := by
  have rv := L2.vals_ints hi
  have hlen := hi.length
  have isT : ∀ b : Addr, b ∈ cs.map (·.2) → s.heap.get? b = some { cls := .none, data := .fields #[] } := fun b hb => by
    obtain ⟨p, hp, e⟩ := List.mem_map.mp hb
    rw [← e]
    exact Z.hT p hp
  have aT : a ∉ cs.map (·.2) := fun z => by
    have q := isT a z
    rw [ha] at q
    have z' : Data.seq vs.toArray _ = Data.fields #[] := congrArg PySem.Obj.data (Option.some.inj q)
    cases z'
  have memT : ∀ p ∈ cs, p.2 ∈ cs.map (·.2) := fun p hp => List.mem_map.mpr ⟨p, hp, rfl⟩
  have core : ∀ H : Hp, (∀ b ∈ cs.map (·.2), H b = some (.tbl #[])) → (∀ b, H b = none ∨ b ∈ cs.map (·.2) ∨ ∃ o xs, H b = some (.frz o (.lst xs))) → StL T.K H (cs.map (·.2)) a (ns.map V.int) → HOk P w H s.heap → (∀ b, H b ≠ none → b = a ∨ b ∈ cs.map (·.2)) → (H a ≠ none → K.lookup a = none) →
      codeAny (model P w) callerA (.call (.ref fa) ⟨[.ref a], []⟩) (fun r s' => r = .ok (.ret (.bool true)) ∧ OldK s.heap s'.heap ∧ s'.os = s.os ∧ AllBare s'.gens) s := by
    intro H hH hO hS hok hA hK
    have base_of : ∀ {b : Addr} {o : PySem.Obj}, s.heap.get? b = some o → H b = none → (L2.hidT s.heap H).get? b = some o := fun e n => L2.hidT_get e n
    have noD : ∀ {b : Addr} {o : PySem.Obj}, s.heap.get? b = some o → (∀ vs n, o.data ≠ .seq vs n) → o.data ≠ .fields #[] → H b = none := fun {b o} e h1 h2 => by
      cases q : H b with
      | none => rfl
      | some u =>
        rcases hA b (by rw [q]; simp) with e' | e'
        · rw [e', ha] at e
          cases e
          exact (h1 _ _ rfl).elim
        · rw [isT b e'] at e
          cases e
          exact (h2 rfl).elim
    have noA : ∀ {b : Addr} {o : PySem.Obj} {es : Array DictEntry} {ep : Nat}, s.heap.get? b = some o → o.data = .dict es ep → H b = none := fun {b o es ep} e d => by
      refine noD e (fun vs n z => ?_) fun z => ?_
      · rw [d] at z; cases z
      · rw [d] at z; cases z
    have nsK : ∀ {b : Addr} {m : PySem.Str → Option Value}, s.heap.Ns b m → (L2.hidT s.heap H).Ns b m := fun {b m} ⟨o, es, ep, e, d, r⟩ => ⟨o, es, ep, base_of e (noA e d), d, r⟩
    have KB : K.In (L2.hidT s.heap H) := fun b o e => base_of (KX b o e) (by
      cases q : H b with
      | none => rfl
      | some u =>
        rcases hA b (by rw [q]; simp) with e' | e'
        · rw [e'] at e q
          rw [hK (by rw [q]; simp)] at e
          cases e
        · obtain ⟨p, hp, ep⟩ := List.mem_map.mp e'
          rw [← ep, Z.nT p hp] at e
          cases e)
    have M : Mod K mg (L2.hidT s.heap H) := ⟨KB, nsK hns, ⟨mb, nsK hb, hbb⟩, let ⟨mc, h1, h2⟩ := hlim; ⟨mc, nsK h1, h2⟩⟩
    have TB : ∀ p ∈ cs, LamX.TabB (L2.hidT s.heap H) mg p.1 p.2 := fun p hp => by
      have hTp := Z.hT p hp
      refine ⟨?_, ?_, fun z => ?_⟩
      · obtain ⟨o, us, file, tf, flags, tg, inF, text, tt, e1, r1, r2, r3, r4, r5, r6, r7, r8, hne⟩ := Z.code p hp
        refine ⟨o, us, file, tf, flags, tg, inF, text, tt, base_of e1 (noD e1 (fun vs n z => ?_) fun z => ?_), r1, r2, r3, r4, r5, r6, r7, r8, hne⟩
        · rw [r2] at z; cases z
        · rw [r2] at z
          cases z
          simp at r3
      · obtain ⟨bm, ob, b1, b2, b3, b4, b5, b6⟩ := hbm
        have nG : bm ≠ mainGlobals := fun q => by
          obtain ⟨o, es, ep, e, hd, _⟩ := hns
          rw [q, e] at b3
          cases b3
          rw [hd] at b6
          cases b6
        have nP : bm ≠ p.2 := fun q => by
          rw [q, hTp] at b3
          cases b3
          cases b6
        refine ⟨bm, ob, b1, b2, nG, nP, base_of b3 (noD b3 (fun vs n z => ?_) fun z => ?_), b4, b5, b6⟩
        · rw [b6] at z; cases z
        · rw [b6] at z; cases z
      · obtain ⟨o, es, ep, e, hd, _⟩ := hns
        rw [z, hTp] at e
        cases e
        cases hd
    have e0 : Env0 P w K mg (L2.hidT s.heap H) callerA [] s H := ⟨rfl, M, fun b o e => L2.of_hidT e, Nat.le_of_eq (L2.hidT_size _ _), trivial, fun b hb => by simp [L2.frs] at hb, hok, .of_eq hg⟩
    have want : Want T xf c [.ref a] H (fun v _ => v = .bl true) fun _ _ _ => False := by
      obtain ⟨st, e⟩ := ht
      have lenT : (cs.map (·.2)).length = T.tabs.length := by rw [← Z.eT, List.length_map]
      refine ⟨[], cs.map (·.2), [], [.fl (ns.map .int)], ⟨by rw [lenT]; simp, Z.nd, by simp, by simp, by simp, fun i p hp => ?_⟩, .cons (.fl hS (by rw [lim_line, List.length_map]; exact hl) (rvs_ints ns)) .nil, ?_⟩
      · have h1 : (cs.map (·.2))[i]? = some p.1 := by rw [← Z.eT, List.getElem?_map, hp]; rfl
        refine ⟨h1, #[], hH _ (List.mem_of_getElem? h1), trivial, fun pos cv hc => ?_⟩
        have z : codeAmong pos [] = some cv := hc
        simp [codeAmong] at z
      · rw [e]
        intro H' ρ' _ _ v r
        cases r
        rfl
    refine codeAny_mono ((F _ KB (nsK hns) TB).run callerA [] s H ⟨[.ref a], []⟩ [.ref a] [.ref a] _ _ hr rfl e0 (hbind s (.ref a)) (.cons rfl .nil) rfl want) fun r s' h => ?_
    cases r with
    | error e =>
      obtain ⟨_, _, _, _, _, _, _, _, _, _, _, _, z⟩ := h
      exact z.elim
    | ok fl =>
      cases fl with
      | ret u =>
        obtain ⟨v, H', os, bare, un, hok', r', q⟩ := h
        have q' : v = .bl true := q
        subst q'
        have eu : u = Value.bool true := r'
        subst eu
        have key : ∀ b o, b ∉ cs.map (·.2) → s.heap.get? b = some o → s'.heap.get? b = some o := fun b o nb e => by
          cases q : H b with
          | none => exact un.keep b o e q (by simp [L2.frs]) (by simp)
          | some u =>
            rcases hO b with z | z | ⟨ob, xs, z⟩
            · rw [q] at z; cases z
            · exact absurd z nb
            · have z2 := un.frzs b ob _ z
              obtain ⟨e1, _⟩ := hok b _ z
              obtain ⟨e2, _⟩ := hok' b _ z2
              rw [e] at e1; cases e1
              exact e2
        have grown : ∀ b ∈ cs.map (·.2), ∃ more : Array Value, s'.heap.get? b = some { cls := .none, data := .fields more } := fun b hb => by
          obtain ⟨more, z⟩ := un.tbls b #[] (hH b hb)
          exact ⟨_, hok' b _ z⟩
        refine ⟨rfl, ⟨fun b o e => ?_, fun b o e => ?_⟩, os, bare⟩
        · by_cases hb : b ∈ cs.map (·.2)
          · obtain ⟨p, hp, ep⟩ := List.mem_map.mp hb
            obtain ⟨more, hm⟩ := grown b hb
            rw [← ep] at e hm ⊢
            rw [Z.hT p hp] at e
            cases e
            exact .inr (.inl ⟨((Z.code p hp).tab (Z.hT p hp)).isCodeTable, rfl, #[], more, rfl, by rw [Array.empty_append]; exact hm⟩)
          · exact .inl (key b o hb e)
        · by_cases hb : b ∈ cs.map (·.2)
          · obtain ⟨more, hm⟩ := grown b hb
            exact ⟨_, hm⟩
          · exact ⟨o, key b o hb e⟩
      | _ => exact h.elim
  cases hk : K.lookup a with
  | some o =>
    have e := KX a o hk
    rw [ha] at e
    cases e
    refine core (fun b => if b ∈ cs.map (·.2) then some (.tbl #[]) else none) (fun b hb => if_pos hb) (fun b => ?_) (.inr fun H' => by rw [eK]; exact .inr ⟨_, vs.toArray, _, hk, rfl, rfl, rfl, by rw [List.size_toArray, hlen]; exact hl, by simpa using rv⟩) (fun b u z => ?_) (fun b z => ?_)
      fun z => absurd (show (if a ∈ cs.map (·.2) then some (HO.tbl #[]) else none) = none from if_neg aT) z
    · by_cases hb : b ∈ cs.map (·.2)
      · exact .inr (.inl hb)
      · exact .inl (if_neg hb)
    · by_cases hb : b ∈ cs.map (·.2)
      · have z' := (if_pos hb).symm.trans z
        cases z'
        exact isT b hb
      · have z' := (if_neg hb).symm.trans z
        cases z'
    · by_cases hb : b ∈ cs.map (·.2)
      · exact .inr hb
      · exact absurd (if_neg hb) z
  | none =>
    refine core (fun b => if b = a then some (.frz { cls := .type "list", data := .seq vs.toArray } (.lst (ns.map V.int))) else if b ∈ cs.map (·.2) then some (.tbl #[]) else none) (fun b hb => (if_neg (show ¬ b = a from fun z => aT (by rw [← z]; exact hb))).trans (if_pos hb)) (fun b => ?_)
      (.inl ⟨⟨{ cls := .type "list", data := .seq vs.toArray }, if_pos rfl⟩, aT⟩) (fun b u z => ?_) (fun b z => ?_) fun _ => hk
    · by_cases hb : b = a
      · exact .inr (.inr ⟨_, _, if_pos hb⟩)
      · by_cases hb2 : b ∈ cs.map (·.2)
        · exact .inr (.inl hb2)
        · exact .inl ((if_neg hb).trans (if_neg hb2))
    · by_cases hb : b = a
      · have z' := (if_pos hb).symm.trans z
        cases z'
        rw [hb]
        exact ⟨ha, by rw [List.length_map]; exact hl, vs, _, rv, ha⟩
      · have z1 := (if_neg hb).symm.trans z
        by_cases hb2 : b ∈ cs.map (·.2)
        · have z' := (if_pos hb2).symm.trans z1
          cases z'
          exact isT b hb2
        · have z' := (if_neg hb2).symm.trans z1
          cases z'
    · by_cases hb : b = a
      · exact .inl hb
      · by_cases hb2 : b ∈ cs.map (·.2)
        · exact .inr hb2
        · exact absurd ((if_neg hb).trans (if_neg hb2)) z
theorem walk_ofG {l : PySem.W.OpenLaw} {n k : Nat} {q : Program} {loose : List PySem.Str} {XP : (PySem.Str → Option Value) → Heap → Prop} {YP : World → Heap → Prop} {d : DefRec} {x : PySem.Str}
    (hn : l.most = some n) (hn2 : n ≤ sizeLine) (hdf : d.params.defaults = []) (hr : Room k callerA) {c : Fd}
    (F : ∀ (w : World) (mg : PySem.Str → Option Value) (fa : Addr) (h : Heap), YP w h → h.Ns mainGlobals mg → mg d.name = some (.ref fa) →
      ∃ (K : PySem.W.Frag) (T : Tb) (xf : Nat → List Nm) (fd : FuncData) (cs : List (Addr × Addr)), K.In h ∧ T.K = K ∧ TabsAt h K T cs ∧ (∀ (s : Shared) (u : Value), BindsTo s fd ⟨[u], []⟩ [(x, u)]) ∧
        ∀ base : Heap, K.In base → base.Ns mainGlobals mg → (∀ p ∈ cs, LamX.TabB base mg p.1 p.2) → FnG ⟨l.prog, w, K, mg, base, T, xf⟩ k fa fd [x] c)
    (ht : ∀ ns : List Int, ns.length ≤ n → Trues c ns) :
    PySem.W.WalkO q loose XP YP l.row.toRowW d [] (fun f vs => PySem.call f vs) := by
  refine Att.attach_call hn hdf fun w s₀ s₁ mg mb fa o pm cd doc a vs ns G Y ho hd hcd hmg hobj hints hlen hg => ?_
  obtain ⟨K, T, xf, fd, cs, KX, eK, Z, hb, hF⟩ := F w mg fa _ Y G.T.g hmg
  exact law_callG KX G.T.g G.T.b G.T.builtins G.T.nolimit hg Z G.T.bmain hobj hints (Nat.le_trans hlen hn2) hr eK hF hb (ht ns hlen)
end
end G
namespace G
open PySem PySem.Spec PyProof.Rows
open L2 (V Hp HO upd SqL SqT Rd VK XK TE TT TA TI TS TG TGs Ends WX Cx PE PT PA PI PS PSs PG PGs Inv OpR CallR RelV Vals R2 PC PW)
section
variable {T : Tb} {H : Hp} {ρ Ow Ow0 : List Addr} {σ : L2.St} {env : Env} {st : Store}
end
theorem frz_imp {w : WS} {i : Nat} {f : StS} : ∀ (Z : Ends) (σ : L2.St) (H : Hp), tStm w (frzS i f) Z σ H → tStm w f Z σ H := fun Z σ H ⟨env, st, ρ, Ow, fr, p⟩ => by
  have p : PostR w H ρ Ow Z (match env[i]? with
    | some (.own xs) => f (env.set i (.v (.lst xs))) st
    | _ => .bad) := p
  cases e : env[i]? with
  | none => rw [e] at p; exact p.elim
  | some s =>
    rw [e] at p
    cases s with
    | own xs =>
      obtain ⟨Ow', s1, f1⟩ := fr.frz e
      exact ⟨_, st, ρ, Ow', f1, PostR.later s1 p⟩
    | _ => exact p.elim
theorem jss_frz {X : Cx} {w : WS} {ss : List Stmt} {f : StS} (i : Nat) (j : JSs X w ss f) : JSs X w ss (frzS i f) := PSs.imp j frz_imp
end G
namespace G
open PySem PySem.Spec PyProof.Rows
open L2 (V Hp HO upd SqL SqT Rd VK XK TE TT TA TI TS TG TGs Ends WX Cx PE PT PA PI PS PSs PG PGs Inv OpR CallR RelV Vals R2 PC PW Gl Room Env0)
end G
namespace G
open PySem PySem.Spec PyProof.Rows
open L2 (V Hp HO upd SqL SqT Rd VK XK TE TT TA TI TS TG TGs Ends WX Cx PE PT PA PI PS PSs PG PGs Inv OpR CallR RelV Vals R2 PC PW Gl)
end G
namespace G
open PySem PySem.Spec PyProof.Rows
open L2 (V Hp HO upd SqL SqT Rd VK XK TE TT TA TI TS TG TGs Ends WX Cx PE PT PA PI PS PSs PG PGs Inv OpR CallR RelV Vals R2 PC PW Gl Room)
end G
namespace G
open PySem PySem.Spec PyProof.Rows
open L2 (V Hp HO upd SqL SqT Rd VK XK TE TT TA TI TS TG TGs Ends WX Cx PE PT PA PI PS PSs PG PGs Inv OpR CallR RelV Vals R2 PC PW Gl Room Env0)
end G
namespace G
open PySem PySem.Spec PyProof.Rows
open L2 (V Hp HO upd SqL SqT Rd VK XK TE TT TA TI TS TG TGs Ends WX Cx PE PT PA PI PS PSs PG PGs Inv OpR CallR RelV Vals R2 PC PW Gl)
end G
namespace G
open PySem PySem.Spec PyProof.Rows
open L2 (V Hp HO upd SqL SqT Rd VK XK TE TT TA TI TS TG TGs Ends WX Cx PE PT PA PI PS PSs PG PGs Inv OpR CallR RelV Vals R2 PC PW Sp Room Env0 CR FnScope cxOf Binds Gl)
section
variable {Y : Wd} {N ps : List PySem.Str} {qual : PySem.Str} {scope : Scope} {f : Addr} {cdv : Value} {k : Nat}
theorem start_xc {T : Tb} {H : Hp} {ρ Ow : List Addr} {vs : List V} {ds : List D} {st : Store} {m : Nat} {a : Addr} {dx : Option Addr} {cn : Nat} {fl : List Nm} {fs : List D} (hm : N.length = m) (hl : vs.length + 1 ≤ m) (hx : T.hx = some (a, dx, cn, fl)) (xr : XcR T H ρ Ow dx fl fs) (sr : StR T H ρ Ow st) (rs : RVs T H ρ Ow vs ds) :
    Fr T Ow H ρ Ow (L2.start N (.ref a :: vs)) (.xc cn fs :: (ds.map Sl.v ++ List.replicate (m - (ds.length + 1)) .em)) st := by
  have e1 := rs.length
  have tail : ∀ (i : Nat) (s : Sl), (ds.map Sl.v ++ List.replicate (m - (ds.length + 1)) Sl.em)[i]? = some s → (∃ d, s = .v d ∧ ds[i]? = some d) ∨ s = .em := fun i s h => by
    by_cases hi : i < (ds.map Sl.v).length
    · rw [List.getElem?_append_left hi, List.getElem?_map] at h
      obtain ⟨d, h1, h2⟩ := Option.map_eq_some_iff.mp h
      exact .inl ⟨d, h2.symm, h1⟩
    · rw [List.getElem?_append_right (by omega), List.getElem?_replicate] at h
      split at h
      · exact .inr (Option.some.inj h).symm
      · cases h
  have own0 : ∀ (i : Nat) (xs : List D), (Sl.xc cn fs :: (ds.map Sl.v ++ List.replicate (m - (ds.length + 1)) .em))[i]? ≠ some (.own xs) := fun i xs h => by
    cases i with
    | zero => cases h
    | succ i =>
      rw [List.getElem?_cons_succ] at h
      rcases tail i _ h with ⟨d, z, _⟩ | z <;> cases z
  refine ⟨⟨?_, fun i s h => ?_, fun i j xs ys b h1 _ _ _ => absurd h1 (own0 i xs)⟩, sr, fun b hb => hb, fun i xs b h1 _ => absurd h1 (own0 i xs)⟩
  · unfold L2.start
    simp only [List.length_append, List.length_map, List.length_replicate, List.length_cons]
    omega
  · cases i with
    | zero =>
      rw [List.getElem?_cons_zero] at h
      cases h
      exact ⟨dx, fl, hx, xr⟩
    | succ i =>
      rw [List.getElem?_cons_succ] at h
      rcases tail i _ h with ⟨d, rfl, hd⟩ | rfl
      · obtain ⟨v, hv, r⟩ := rs.get hd
        have hi2 := (List.getElem?_eq_some_iff.mp hv).1
        have e2 : (L2.start N (.ref a :: vs))[i + 1]? = some (some v) := by
          unfold L2.start
          rw [List.getElem?_append_left (by simpa using hi2), List.getElem?_map, List.getElem?_cons_succ, hv]; rfl
        rw [e2]
        exact r
      · cases (L2.start N (.ref a :: vs))[i + 1]? with
        | none => trivial
        | some o => cases o <;> trivial
theorem fnHot_of {name : PySem.Str} {params : Arguments} {body : List Stmt} {dV kV doc pm ct oc : Value} {an od : Option Addr} {osl : Array (Option Value)} {g : StS} {c : Fd} {m : Nat}
    (lk : Y.K.lookup f = some ⟨oc, od, .func (PySem.W.fnOf name qual params body scope dV kV doc pm an cdv ct), osl⟩) (hcd : PySem.W.codeIn Y.K cdv qual = true) (S : FnScope N ps scope) (hm : N.length = m) (eK : Y.K = Y.T.K)
    (hc : ∀ cn fs ds st, ds.length + 1 = ps.length → c (.exc (cn + 1) fs :: ds) st = (match g (.xc cn fs :: (ds.map Sl.v ++ List.replicate (m - (ds.length + 1)) .em)) st with
      | .rt d st => .ok d st
      | .nx _ st => .ok .non st
      | _ => .bad))
    (hbody : ∀ (X : Cx) (a : Addr) (dx : Option Addr) (cn : Nat) (Ow0 : List Addr), CxG X (Y.T.hot Y.xf a dx cn) N scope k → (∀ x, X.fn x = true) → HotAt X (Y.T.hot Y.xf a dx cn) Y.xf → X.prog = Y.P → X.w = Y.w → X.K = Y.K → X.mg = Y.mg → X.base = Y.base → JSs X ⟨Y.T.hot Y.xf a dx cn, Y.xf, W0, Ow0, false⟩ body g) :
    FnHot Y (k + 1) f (PySem.W.fnOf name qual params body scope dV kV doc pm an cdv ct) ps c := by
  refine ⟨fun A outer s H args us vs Q a dx cn oe hr hgd hpin hz hf hh0 e0 hb r hl ⟨st, ρ, Ow, ds, fs, sr, rs, xr, p⟩ => ?_⟩
  have grown : ∀ b o, Y.base.get? b = some o → s.heap.get? b = some o := fun b o e => (e0.bs b o e).1
  have KX : Y.K.In s.heap := e0.mod.kin.keeps grown
  have kinds : ∀ z ∈ ps.zip (.ref a :: us), scope.names.lookup z.1 = some .local ∨ (scope.names.lookup z.1 = some .cell ∧ ((cellsFrom (s.heap.objs.size + 1) scope.names []).lookup z.1).isSome = true) := by
    rintro ⟨x, v⟩ hz
    rcases S.par x (List.of_mem_zip hz).1 with q | q
    · exact .inl q
    · exact .inr ⟨q, PySem.W.cellsFrom_some _ _ _ (.inl q)⟩
  have hpl : ps.length ≤ m := by
    have q := congrArg List.length S.pre
    rw [List.length_take, hm] at q
    omega
  refine codeAny_call_function hr.depth (KX _ _ lk) rfl S.co S.gen rfl (PySem.W.codeRec_of KX hcd) (hb _ _ _ _ (wpAny_newFunctionEnv_cells S.kind kinds fun env he s1 x => ?_))
  subst he
  refine ⟨(e0.mod.nolimit.keeps grown).keeps x.toInCall.keep, codeAny_func ?_⟩
  have hlen : (V.ref a :: vs).length = ps.length := hl
  generalize hX : L2H.cxH (L2N.CX Y.P Y.w) Y.P Y.w Y.K Y.mg Y.base N qual scope f cdv A outer s H (fun _ _ _ => False) (a, oe) = X
  have I : Inv X [] (L2.start N (.ref a :: vs)) H s1 := by rw [← hX]; exact L2H.inv_startH S hpin e0 hlen (.cons rfl r) x
  have C0 : CxG X (Y.T.hot Y.xf a dx cn) N scope k := by
    subst hX
    exact ⟨eK, rfl, S.nd, rfl, hr.deeper _, hgd⟩
  have J := hbody X a dx cn Ow C0 (fun _ => by rw [← hX]; rfl) ⟨a, dx, cn, oe, rfl, by rw [← hX]; exact List.mem_cons_self, hz, hf, by rw [← hX]; exact hh0⟩ (by rw [← hX]; rfl) (by rw [← hX]; rfl) (by rw [← hX]; rfl) (by rw [← hX]; rfl) (by rw [← hX]; rfl)
  have hds : ds.length + 1 = ps.length := by rw [← rs.length]; exact hl
  have wish : tStm ⟨Y.T.hot Y.xf a dx cn, Y.xf, W0, Ow, false⟩ g { nx := fun _ H' => Q .non H', rt := Q } (L2.start N (.ref a :: vs)) H := by
    refine ⟨_, st, ρ, Ow, start_xc hm (by rw [hl]; exact hpl) rfl xr sr rs, ?_⟩
    rw [hc cn fs ds st hds] at p
    revert p
    generalize g (.xc cn fs :: (ds.map Sl.v ++ List.replicate (m - (ds.length + 1)) .em)) st = r0
    intro p
    cases r0 with
    | rt d st1 => exact body_want (xf := Y.xf) (E := fun _ _ _ => False) (r := .rt d st1) sr.disj rfl p
    | nx e st1 => exact body_want (xf := Y.xf) (E := fun _ _ _ => False) (r := .nx e st1) sr.disj rfl p
    | _ => exact p.elim
  have done := J.run [] s1 _ H _ I wish
  subst hX
  refine wpAny_mono done (fun fl s' hs => ?_) fun e s' hs => hs
  cases fl with
  | ret u =>
    obtain ⟨v, σ', H', I', rv, q⟩ := hs
    exact ⟨v, H', I'.os, I'.bare, I'.base, I'.hok, rv, q⟩
  | next =>
    obtain ⟨σ', H', I', q⟩ := hs
    exact ⟨V.non, H', I'.os, I'.bare, I'.base, I'.hok, rfl, q⟩
  | brk =>
    obtain ⟨_, _, _, q⟩ := hs
    exact q.elim
  | cont =>
    obtain ⟨_, _, _, q⟩ := hs
    exact q.elim
end
end G
namespace G
open PySem PySem.Spec PyProof.Rows
open L2 (V Hp HO upd SqL SqT Rd VK XK TE TT TA TI TS TG TGs Ends WX Cx PE PT PA PI PS PSs PG PGs Inv OpR CallR RelV Vals R2 PC PW Sp Room Env0 CR FnScope cxOf Binds Gl Names SP frs)
open L2N (Takes Zn)
section
variable {X : Cx} {w : WS} {N : List PySem.Str} {sc : Scope} {k : Nat} {n : PySem.Str} {i : Nat} {body : List Stmt} {hds : List ExceptHandler} {gs : List (Nat × StS)} {pos : Pos} {f : StS}
end
end G
namespace G
open PySem PySem.Spec PyProof.Rows
open L2 (V Hp HO upd SqL SqT Rd VK XK TE TT TA TI TS TG TGs Ends WX Cx PE PT PA PI PS PSs PG PGs Inv OpR CallR RelV Vals R2 PC PW Gl Room FunD Binds)
theorem nmOf_inj {l : List PySem.Str} (h : okNms l = true) {i j : Nat} (e : nmOf l i = nmOf l j) : i = j := by
  unfold okNms at h
  rw [Bool.and_eq_true, decide_eq_true_eq, List.all_eq_true] at h
  obtain ⟨nd, hc⟩ := h
  have far : ∀ {x : PySem.Str} {k : Nat}, x ∈ l → x ≠ ⟨#[1114112 + k]⟩ := fun {x k} hx e => by
    have := hc x hx
    rw [e] at this
    simp [okCode] at this
    omega
  unfold nmOf at e
  cases hi : l[i]? with
  | none =>
    cases hj : l[j]? with
    | none =>
      rw [hi, hj] at e
      simp at e
      exact e
    | some y =>
      rw [hi, hj] at e
      exact absurd e.symm (far (List.mem_of_getElem? hj))
  | some x =>
    cases hj : l[j]? with
    | none =>
      rw [hi, hj] at e
      exact absurd e (far (List.mem_of_getElem? hi))
    | some y =>
      rw [hi, hj] at e
      have e' : x = y := e
      subst e'
      obtain ⟨h1, e1⟩ := List.getElem?_eq_some_iff.mp hi
      obtain ⟨h2, e2⟩ := List.getElem?_eq_some_iff.mp hj
      exact (List.getElem_inj nd).mp (e1.trans e2.symm)
theorem fn_says {K : PySem.W.Frag} {d : Df} (e : fnA K (d.pa.ad K) = d.val) (c : fnB K (d.pa.ad K) d.qual (d.dvs K) = true) : ∃ fd, FunD K d.name d.qual d.params d.body d.scope (d.dvs K) [] (d.pa.ad K) fd := by
  obtain ⟨kp, c2⟩ := He.ba c
  unfold fnA at e
  cases q : K.lookup (d.pa.ad K) with
  | none =>
    rw [q] at c2
    cases c2
  | some o =>
    obtain ⟨oc, od, dt, osl⟩ := o
    rw [q] at c2 e
    cases dt with
    | func fd =>
      obtain ⟨n1, n2, n3, n4, n5, n6, n7, n8, n9, n10, n11, n12, n13, n14, n15⟩ := fd
      have e2 : (some (n1, n2, n3, n4, n5, n6, n7, n15) : He.FnW) = some (d.name, d.qual, d.params, .stmts d.body, d.scope, mainGlobals, [], builtinsNs) := e
      simp only [Option.some.injEq, Prod.mk.injEq] at e2
      obtain ⟨h1, h2, h3, h4, h5, h6, h7, h8⟩ := e2
      subst h1 h2 h3 h4 h5 h6 h7 h8
      have c3 : (PySem.W.codeIn K n13 d.qual && He.dflB K n8 (d.dvs K)) = true := c2
      obtain ⟨k1, k2⟩ := He.ba c3
      exact ⟨_, ⟨oc, od, n8, n9, n10, n11, n12, n13, n14, osl, rfl, q, k1, He.dflB_ok k2, .inl rfl⟩, kp⟩
    | _ => cases c2
theorem prop_ok {K : PySem.W.Frag} {C : Addr} {f : PySem.Str} (h : propB K C f = true) : L2.PropOf K C f (He.ma K C f) (recG K (He.ma K C f) "property") := by
  obtain ⟨h1, h⟩ := He.ba h
  obtain ⟨h2, h⟩ := He.ba h
  obtain ⟨h3, h4⟩ := He.ba h
  refine ⟨He.eqO_ok h1, He.eqO_ok h2, of_decide_eq_true h3, ?_⟩
  unfold recG
  cases e : PySem.W.recIn K (He.ma K C f) "property" with
  | none => rw [e] at h4; cases h4
  | some l =>
    rw [e] at h4
    cases l with
    | nil => cases h4
    | cons v r => cases v <;> first | exact ⟨r, rfl⟩ | cases h4
end G
namespace G
open PySem PySem.Spec PyProof.Rows
open L2 (V Hp HO upd SqL SqT Rd VK XK TE TT TA TI TS TG TGs Ends WX Cx PE PT PA PI PS PSs PG PGs Inv OpR CallR RelV Vals R2 PC PW Gl Room FunD Binds)
def bId : Nat → String
  | 0 => "ValueError"
  | 1 => "LookupError"
  | _ => "ArithmeticError"
def bInit : Nat → String
  | 0 => "ValueError.__init__"
  | 1 => "LookupError.__init__"
  | _ => "ArithmeticError.__init__"
theorem exB : ∀ b : Nat, ExB (bId b) (bNew b) (bInit b) (bMro b)
  | 0 => ⟨PySem.F.excBase_ValueError, PySem.F.store_ValueError, rfl⟩
  | 1 => ⟨PySem.F.excBase_LookupError, PySem.F.store_LookupError, rfl⟩
  | _ + 2 => ⟨PySem.F.excBase_ArithmeticError, PySem.F.store_ArithmeticError, rfl⟩
theorem exc_ok {K : PySem.W.Frag} {C : Addr} {bmB : List Value} {newId : String} (h : excB K C bmB newId = true) : ExC K C newId bmB := by
  obtain ⟨q, h⟩ := He.ba h
  obtain ⟨h2, h⟩ := He.ba h
  obtain ⟨h3, h⟩ := He.ba h
  obtain ⟨h4, h⟩ := He.ba h
  obtain ⟨h5, h6⟩ := He.ba h
  refine ⟨?_, h2, He.eqO_ok h3, of_decide_eq_true h4, of_decide_eq_true h5, h6⟩
  split at q
  · rename_i dd cd sl ho
    split at q
    · rename_i C' bm k0 k1 k2 k3 n k5 hm hs
      simp only [Bool.and_eq_true, beq_iff_eq, Bool.not_eq_true'] at q
      obtain ⟨⟨⟨⟨rfl, rfl⟩, hdel⟩, hdict⟩, ht⟩ := q
      obtain ⟨nm, bs, mro, ns, qn, hd, sn, sub, ab, col, del⟩ := cd
      dsimp only at hm hdel hdict
      subst hm hdel hdict
      have hsl : sl = #[k0, k1, k2, k3, some (.builtin n), k5] := by
        obtain ⟨l⟩ := sl
        simp only at hs
        rw [hs]
      subst hsl
      exact ⟨nm, qn, ns, bs, bm, sn, sub, ab, col, dd, k0, k1, k2, k3, k5, ho, ht⟩
    · cases q
  · cases q
theorem obsPG_eq {n : Nat} {pt : PT} {g : Addr → Option PySem.Obj} {s : Shared} (h : ∀ a, g a = s.heap.get? a) : obsPG n pt g = (hookP n pt).obs s := by
  have e : g = s.heap.get? := funext h
  rw [e] <;> rfl
section
variable {pt : PT} {Y : Wd}
theorem St.chkT (S : St pt Y) : chkT pt Y.K = true := (He.ba S.chk0).1
theorem St.fd (S : St pt Y) {i : Nat} {d : Df} (h : pt.defs[i]? = some d) : ∃ fd, FunD Y.K d.name d.qual d.params d.body d.scope (d.dvs Y.K) [] (d.pa.ad Y.K) fd := by
  have e : pt.defs.map (fun d => fnA Y.K (d.pa.ad Y.K)) = pt.defs.map Df.val := congrArg (fun z : Bool × List He.FnW => z.2) S.says
  have e2 : (pt.defs.map fun d => fnA Y.K (d.pa.ad Y.K))[i]? = (pt.defs.map Df.val)[i]? := by rw [e]
  rw [List.getElem?_map, List.getElem?_map, h] at e2
  exact fn_says (Option.some.inj e2) (He.ba (He.ba (all_at (p := chkD1 Y.K) S.cs.2.1 h)).1).1
theorem St.gl (S : St pt Y) {x : PySem.Str} (h : glB Y.K x = true) : Y.mg x = some (.ref (He.ga Y.K x)) := He.glo_ok S.kin S.ns h
theorem St.fn_gl (S : St pt Y) {i : Nat} {d : Df} {x : PySem.Str} (h : pt.defs[i]? = some d) (e : d.pa = .glo x) : Y.mg x = some (.ref (d.pa.ad Y.K)) := by
  have h1 := (He.ba (all_at (p := chkD1 Y.K) S.cs.2.1 h)).2
  rw [e] at h1 ⊢
  exact S.gl h1
theorem St.gint (S : St pt Y) {i : Nat} {x : PySem.Str} {z : Int} (h : pt.gints[i]? = some (x, z)) : ∃ t, Y.mg x = some (.int z t) := He.int_ok S.kin S.ns (all_at (p := chkI1 Y.K) S.cs.2.2.2.2.2.1 h)
theorem St.gstr (S : St pt Y) {i : Nat} {x : PySem.Str} {z : List Nat} (h : pt.gstrs[i]? = some (x, z)) : (∃ t, Y.mg x = some (.str ⟨z.toArray⟩ t)) ∧ z.length ≤ 1000 ∧ z.all okCode = true := by
  obtain ⟨h1, h2⟩ := He.ba (all_at (p := chkS1 Y.K) S.cs.2.2.2.2.2.2.1 h)
  obtain ⟨h3, h4⟩ := He.ba h2
  exact ⟨He.str_ok S.kin S.ns h1, of_decide_eq_true h3, h4⟩
theorem kit_ok {K : PySem.W.Frag} {t u : Value} {b : Bool} (h : kitB K t u b = true) : PySem.W.kitOne K t u = some b := of_decide_eq_true h
theorem St.noe (S : St pt Y) {c : Nat} {t : ClT} (h : pt.cls[c]? = some t) (hb : t.cl.meths.lookup n_eq = none) : PySem.W.findIn Y.K (.ref (Y.T.cls c)) "__eq__" = some (some (.builtin "object.__eq__")) := by
  rw [S.t_cls h]
  have q : idB Y.K (He.ga Y.K t.x) t = true := (He.ba (He.ba (all_at S.cs.2.2.1 h)).1).2
  unfold idB at q
  rw [hb] at q
  exact of_decide_eq_true q
theorem St.nob (S : St pt Y) {c : Nat} {t : ClT} (h : pt.cls[c]? = some t) (hb : t.cl.meths.lookup n_bool = none) (hl : t.cl.meths.lookup n_len = none) : PySem.W.findIn Y.K (.ref (Y.T.cls c)) "__bool__" = some none ∧ PySem.W.findIn Y.K (.ref (Y.T.cls c)) "__len__" = some none := by
  rw [S.t_cls h]
  have q : noB Y.K (He.ga Y.K t.x) t = true := (He.ba (He.ba (He.ba (all_at S.cs.2.2.1 h)).1).1).2
  unfold noB at q
  rw [hb, hl] at q
  have q : (decide (PySem.W.findIn Y.K (.ref (He.ga Y.K t.x)) "__bool__" = some none) && decide (PySem.W.findIn Y.K (.ref (He.ga Y.K t.x)) "__len__" = some none)) = true := q
  obtain ⟨a, b⟩ := He.ba q
  exact ⟨of_decide_eq_true a, of_decide_eq_true b⟩
theorem St.t_flds (S : St pt Y) {c : Nat} {t : ClT} (h : pt.cls[c]? = some t) : Y.T.flds c = t.cl.fields := by rw [S.eT]; simp only [tbOf, h]
theorem St.t_exc (S : St pt Y) {c : Nat} {t : XcT} (h : pt.exs[c]? = some t) : Y.T.exc c = He.ga Y.K t.x := by rw [S.eT]; simp only [tbOf, h]
theorem St.t_K (S : St pt Y) : Y.T.K = Y.K := by rw [S.eT]; rfl
end
section
variable {pt : PT} {Y : Wd} {Γ : Ctx} {k : Nat}
theorem Fs.gc (F : Fs pt Y Γ k) {c : Nat} {q : Cl} (h : Γ.cls c = some q) : ∃ t, pt.cls[c]? = some t ∧ t.cl = q := by
  rw [F.cls] at h
  have h : (pt.cls[c]?).map (·.cl) = some q := h
  cases e : pt.cls[c]? with
  | none => rw [e] at h; cases h
  | some t =>
    rw [e] at h
    exact ⟨t, rfl, Option.some.inj h⟩
theorem Fs.at_c (F : Fs pt Y Γ k) {c : Nat} {t : ClT} (h : pt.cls[c]? = some t) : Γ.cls c = some t.cl := by rw [F.cls]; simp only [h, Option.map_some]
theorem Fs.at_x (F : Fs pt Y Γ k) {c : Nat} {t : XcT} (h : pt.exs[c]? = some t) : Γ.exs c = some t.q := by rw [F.exs]; simp only [h, Option.map_some]
theorem nodup_map {α β : Type} {f : α → β} {l : List α} (h : l.Nodup) (inj : ∀ a b, f a = f b → a = b) : (l.map f).Nodup := by
  induction l with
  | nil => exact List.nodup_nil
  | cons a r ih =>
    obtain ⟨h1, h2⟩ := List.nodup_cons.mp h
    rw [List.map_cons]
    refine List.nodup_cons.mpr ⟨fun hm => ?_, ih h2⟩
    obtain ⟨b, hb, e⟩ := List.mem_map.mp hm
    rw [inj b a e] at hb
    exact h1 hb
theorem Fs.gam (F : Fs pt Y Γ k) : GamOk Y Γ k := by
  have S := F.st
  refine ⟨fun f g e => by rw [S.t_nm] at e; exact nmOf_inj S.nms e, fun c q h => ?_, fun c q f g h hl => ?_⟩
  · obtain ⟨t, ht, rfl⟩ := F.gc h
    have Q := S.cl ht
    refine ⟨S.t_flds ht, by rw [S.t_cls ht]; exact Q.cls, ?_, fun f hf => ?_⟩
    · rw [S.t_flds ht, S.t_nm]
      exact nodup_map Q.nd fun a b e => nmOf_inj S.nms e
    · rw [S.t_flds ht] at hf
      rw [S.t_cls ht, S.t_nm]
      exact Q.no f hf
  · obtain ⟨t, ht, rfl⟩ := F.gc h
    obtain ⟨h1, h2⟩ := (S.cl ht).prop _ (mem_lookup hl)
    unfold defAt at h2
    cases e : pt.defs[g]? with
    | none => simp only [e] at h2; cases h2
    | some d =>
      simp only [e] at h2
      obtain ⟨h3, h4⟩ := He.ba h2
      have h3 := of_decide_eq_true h3
      have h4 := of_decide_eq_true h4
      obtain ⟨fd, D, B, G0⟩ := F.fn g d e
      rw [h3] at G0
      match hp : d.ps, h4 with
      | [x], _ =>
        rw [hp] at G0 B
        exact ⟨_, _, fd, x, by rw [S.t_cls ht, S.t_nm]; exact prop_ok h1, G0, B⟩
theorem Fs.mkg (F : Fs pt Y Γ k) {c : Nat} {t : ClT} {d : Df} {x : PySem.Str} {ps : List PySem.Str} (h : pt.cls[c]? = some t) (hd : pt.defs[t.cl.init]? = some d) (hp : d.ps = x :: ps) : MkG Y k c (Γ.call t.cl.init) ps := by
  have Q := F.st.cl h
  obtain ⟨d', e1, e2⟩ := Q.init
  rw [hd] at e1
  cases e1
  obtain ⟨fd, D, B, G0⟩ := F.fn _ d hd
  rw [e2] at G0
  rw [hp] at G0 B
  exact ⟨_, fd, x, by rw [F.st.t_cls h]; exact Q.mkr, G0, B⟩
theorem Fs.isi (F : Fs pt Y Γ k) {i : Nat} {τ : Ty} (h : pt.tys[i]? = some τ) : IsOk Y.K Y.T Γ τ (tyV pt Y.K τ) := by
  have S := F.st
  have h1 := all_at S.cs.2.2.2.2.2.2.2 h
  obtain ⟨g1, h1⟩ := He.ba h1
  obtain ⟨g2, h1⟩ := He.ba h1
  obtain ⟨g3, h1⟩ := He.ba h1
  obtain ⟨g4, h1⟩ := He.ba h1
  obtain ⟨g5, h1⟩ := He.ba h1
  obtain ⟨g6, h1⟩ := He.ba h1
  obtain ⟨g8, g7⟩ := He.ba h1
  refine ⟨kit_ok g1, kit_ok g2, kit_ok g3, kit_ok g4, kit_ok g5, kit_ok g6, kit_ok g8, fun c q hc => ?_⟩
  obtain ⟨t, ht, rfl⟩ := F.gc hc
  refine ⟨by rw [S.t_cls ht]; exact (S.cl ht).ty, ?_⟩
  have hl : c < pt.cls.length := (List.getElem?_eq_some_iff.mp ht).1
  rw [S.eT]
  exact kit_ok (List.all_eq_true.mp g7 c (List.mem_range.mpr hl))
theorem Fs.fk (F : Fs pt Y Γ k) {i : Nat} {d : Df} {x : PySem.Str} (h : pt.defs[i]? = some d) (e : d.pa = .glo x) (hx : (x == ("__debug__" : PySem.Str)) = false) : ∃ fd, Fk Y x (d.pa.ad Y.K) fd d.ps ∧ FnG Y k (d.pa.ad Y.K) fd d.ps (Γ.call i) := by
  obtain ⟨fd, D, B, G0⟩ := F.fn i d h
  exact ⟨fd, ⟨F.st.fn_gl h e, D.kp, B, hx⟩, G0⟩
theorem Fs.err (F : Fs pt Y Γ k) {c : Nat} {t : XcT} {f : Nm} (h : pt.exs[c]? = some t) (hf : t.q.field = [f]) : ErrOk Y k (He.ga Y.K t.x) (nmOf pt.nms f) := by
  have S := F.st
  have h1 := all_at S.cs.2.2.2.1 h
  obtain ⟨g1, h1⟩ := He.ba h1
  obtain ⟨g2, h1⟩ := He.ba h1
  rw [hf] at h1
  obtain ⟨g3, h1⟩ := He.ba h1
  obtain ⟨g4, h1⟩ := He.ba h1
  obtain ⟨g5, h1⟩ := He.ba h1
  obtain ⟨d, x1, x2, p1, p2, p3, pos, hd, hb, hp, hsc, n1, n2, n3, n4⟩ := (F.xok t (List.mem_of_getElem? h) f hf).ex
  obtain ⟨d', e1, e2⟩ := def_is h1
  rw [hd] at e1
  cases e1
  obtain ⟨fd, D, B, _⟩ := F.fn _ d hd
  have Q := He.meth_ok g4
  rw [e2] at D
  obtain ⟨k', rfl⟩ : ∃ k', k = k' + 1 := ⟨k - 1, by have := F.pos; omega⟩
  obtain ⟨oc, od, dV, kV, doc, pm, an, cdv, ct, osl, rfl, lk, hcd, _, _⟩ := D.ex
  rw [hb] at lk B
  rw [hp] at B
  refine ⟨bId t.q.base, bNew t.q.base, bInit t.q.base, bMro t.q.base, _, _, x1, x2, exB t.q.base, exc_ok g2, He.eqO_ok g3, Q.at_, of_decide_eq_true g5, init_ok (k := k') (exB t.q.base) lk hcd hsc n1 n2 n3 n4, B⟩
end
structure LmX (d : Df) (Y : Wd) (X : Cx) : Prop where
  qual : X.env.qual = d.qual ++ ".<locals>."
  code : X.env.code = codeAd Y.K (d.pa.ad Y.K)
  stk : X.stack = X.env :: X.outer
  frm : X.env.frame = some X.env.locals
structure DfOk (pt : PT) (d : Df) : Prop where
  sc : L2.FnScope d.N d.ps d.scope
  bd : ∀ (kV doc pm : Value) (an : Option Addr) (cdv ct : Value) (us : List Value), us.length = d.ps.length → bindArgs (PySem.W.fnOf d.name d.qual d.params d.body d.scope .none kV doc pm an cdv ct) ⟨us, []⟩ = pure (d.ps.zip us)
  ok : d.hot = false → ∀ (Y : Wd) (Γ : Ctx) (k : Nat) (X : Cx) (W : WX) (Ow0 : List Addr) (fr : Bool), (fr = true → d.fre = true) → Fs pt Y Γ k → CxS X ⟨Y.T, Y.xf, W, Ow0, fr⟩ d.N d.scope (k + 1) → CxY X Y W d.N d.scope (k + 1) → LmX d Y X → JSs X ⟨Y.T, Y.xf, W, Ow0, fr⟩ d.body (d.sem Γ)
  okh : d.hot = true → d.fre = false ∧ ∀ (Y : Wd) (Γ : Ctx) (k : Nat) (X : Cx) (Ow0 : List Addr), FsH pt Y Γ k → CxH X Y d.N d.scope (k + 1) → JSs X ⟨Y.T, Y.xf, W0, Ow0, false⟩ d.body (d.sem Γ)
  bd1 : d.dv = true → ∀ (T : Addr) (kV doc pm : Value) (an : Option Addr) (cdv ct : Value) (us : List Value) (it : Value), us.length = d.ps.length → ∃ k, bindArgs (PySem.W.fnOf d.name d.qual d.params d.body d.scope (.ref T) kV doc pm an cdv ct) ⟨us, []⟩ = seqItems? (.ref T) >>= k ∧ k (some [it].toArray) = pure (d.ps.zip us)
  bd0 : d.dv = true → ∀ (T : Addr) (kV doc pm : Value) (an : Option Addr) (cdv ct : Value) (us : List Value) (it : Value), us.length + 1 = d.ps.length → ∃ k, bindArgs (PySem.W.fnOf d.name d.qual d.params d.body d.scope (.ref T) kV doc pm an cdv ct) ⟨us, []⟩ = seqItems? (.ref T) >>= k ∧ k (some [it].toArray) = pure (d.ps.zip (us ++ [it]))
theorem DfOk.binds {pt : PT} {d : Df} (O : DfOk pt d) {K : PySem.W.Frag} {a : Addr} {fd : FuncData} (D : FunD K d.name d.qual d.params d.body d.scope (d.dvs K) [] a fd) : Binds K fd d.ps [] := by
  cases h : d.dv with
  | false =>
    have e : d.dvs K = [] := by unfold Df.dvs; rw [h]
    rw [e] at D
    exact D.bindsN O.bd
  | true =>
    have e : d.dvs K = [.ref (nilA K (d.pa.ad K))] := by unfold Df.dvs; rw [h]
    rw [e] at D
    obtain ⟨ds, r, b⟩ := D.binds1 (ps := d.ps) d.ps.length 1 (by simp) (by simp) fun T kV doc pm an cdv ct us its hu hi => by
      obtain ⟨it, rfl⟩ : ∃ it, its = [it] := by
        match its, hi with
        | [it], _ => exact ⟨it, rfl⟩
      obtain ⟨k, h1, h2⟩ := O.bd1 h T kV doc pm an cdv ct us it hu
      exact ⟨k, h1, by rw [show ([it] : List Value).drop 1 = [] from rfl, List.append_nil]; exact h2⟩
    cases r
    exact b
theorem DfOk.binds0 {pt : PT} {d : Df} (O : DfOk pt d) (h : d.dv = true) {K : PySem.W.Frag} {a : Addr} {fd : FuncData} (hl : 1 ≤ d.ps.length) (D : FunD K d.name d.qual d.params d.body d.scope (d.dvs K) [] a fd) : Binds K fd d.ps [.ref (nilA K (d.pa.ad K))] := by
  have e : d.dvs K = [.ref (nilA K (d.pa.ad K))] := by unfold Df.dvs; rw [h]
  rw [e] at D
  obtain ⟨ds, r, b⟩ := D.binds1 (ps := d.ps) (d.ps.length - 1) 0 (by simp) (by simp; omega) fun T kV doc pm an cdv ct us its hu hi => by
    obtain ⟨it, rfl⟩ : ∃ it, its = [it] := by
      match its, hi with
      | [it], _ => exact ⟨it, rfl⟩
    exact O.bd0 h T kV doc pm an cdv ct us it (by omega)
  cases r with
  | cons r rs =>
    cases rs
    have r : _ = Value.ref (nilA K (d.pa.ad K)) := r
    subst r
    exact b
theorem runH_bad {np ns : Nat} {g : StS} {ds : List D} {st : Store} {T : Tb} {H : Hp} {ρ Ow : List Addr} {vs : List V} (r : RVs T H ρ Ow vs ds) : runH np ns g ds st = .bad := by
  cases r with
  | nil => rfl
  | cons r _ => cases r <;> rfl
theorem all_ok {pt : PT} (ok : ∀ d ∈ pt.defs, DfOk pt d) (xok : XOk pt) {Y : Wd} (S : St pt Y) (hx0 : Y.T.hx = none) (tb : ∀ i ∈ pt.tabs, LamX.TabB Y.base Y.mg (cAd Y.K (pt.dAd Y.K i)) (tabAd Y.K (pt.dAd Y.K i))) : ∀ n, Fs pt Y (pt.ctx (pt.call n)) (2 * n + 1)
  | 0 => by
    refine ⟨S, hx0, tb, xok, Nat.le_refl _, rfl, rfl, fun i d h => ?_, fun i d h _ fd D => ?_, fun i d h _ fd D => ?_, fun i d h hv hl fd D => (ok d (List.mem_of_getElem? h)).binds0 hv hl D⟩
    · obtain ⟨fd, D⟩ := S.fd h
      exact ⟨fd, D, (ok d (List.mem_of_getElem? h)).binds D, ⟨fun A outer s H args us vs Q E _ _ _ _ _ _ ⟨_, _, _, _, _, _, p⟩ => p.elim⟩⟩
    · exact ⟨fun A outer s H args us vs Q a dx cn oe _ _ _ _ _ _ _ _ _ _ ⟨_, _, _, _, _, _, _, _, p⟩ => p.elim⟩
    · exact ⟨fun A outer s H args us vs Q E _ _ _ _ _ _ ⟨_, _, _, _, _, _, p⟩ => p.elim⟩
  | n + 1 => by
    have F := all_ok ok xok S hx0 tb n
    have call : ∀ (i : Nat) (d : Df), pt.defs[i]? = some d → (pt.ctx (pt.call (n + 1))).call i = d.run (pt.ctx (pt.call n)) := fun i d h => by
      show (match pt.defs[i]? with
        | some d => d.run (pt.ctx (pt.call n))
        | none => fun _ _ => G.O.bad) = _
      rw [h]
    have main : ∀ (fr : Bool) (i : Nat) (d : Df), pt.defs[i]? = some d → (fr = true → d.fre = true) → ∀ fd, FunD Y.K d.name d.qual d.params d.body d.scope (d.dvs Y.K) [] (d.pa.ad Y.K) fd → FnX fr Y (2 * n + 2 + 1) (d.pa.ad Y.K) fd d.ps ((pt.ctx (pt.call (n + 1))).call i) := fun fr i d h hf fd D => by
      have O1 := ok d (List.mem_of_getElem? h)
      rw [call i d h]
      cases hh : d.hot with
      | true =>
        have e : d.run (pt.ctx (pt.call n)) = runH d.ps.length d.N.length (d.sem (pt.ctx (pt.call n))) := by unfold Df.run; rw [hh]
        rw [e]
        exact ⟨fun A outer s H args us vs Q E _ _ _ _ _ _ ⟨_, _, _, _, _, rs, p⟩ => by
          rw [runH_bad rs] at p
          exact p.elim⟩
      | false =>
        obtain ⟨oc, od, dV, kV, doc, pm, an, cdv, ct, osl, rfl, lk, hcd, _, _⟩ := D.ex
        refine fnX_of fr (g := d.sem (pt.ctx (pt.call n))) (m := d.N.length) lk hcd O1.sc rfl S.t_K.symm hx0 (fun ds st hl => ?_) fun X W Ow0 C eP ew eK em eb eq ec es ef => O1.ok hh Y _ (2 * n + 1) X W Ow0 fr hf F C (C.y eP ew eK em eb) ⟨eq, by rw [ec]; unfold codeAd; rw [lk], es, ef⟩
        have e : d.run (pt.ctx (pt.call n)) = runF d.ps.length d.N.length (d.sem (pt.ctx (pt.call n))) := by unfold Df.run; rw [hh]
        rw [e]
        unfold runF
        rw [if_pos hl]
        all_goals rfl
    refine ⟨S, hx0, tb, xok, Nat.le_add_left _ _, rfl, rfl, fun i d h => ?_, fun i d h hh fd D => ?_, fun i d h hf fd D => main true i d h (fun _ => hf) fd D, fun i d h hv hl fd D => (ok d (List.mem_of_getElem? h)).binds0 hv hl D⟩
    · obtain ⟨fd, D⟩ := S.fd h
      have O1 := ok d (List.mem_of_getElem? h)
      exact ⟨fd, D, O1.binds D, (main false i d h (fun h => by cases h) fd D).g⟩
    · have O1 := ok d (List.mem_of_getElem? h)
      rw [call i d h]
      obtain ⟨oc, od, dV, kV, doc, pm, an, cdv, ct, osl, rfl, lk, hcd, _, _⟩ := D.ex
      refine fnHot_of (g := d.sem (pt.ctx (pt.call n))) (m := d.N.length) lk hcd O1.sc rfl S.t_K.symm (fun cn fs ds st hl => ?_) fun X a dx cn Ow0 C fn hot eP ew eK em eb => (O1.okh hh).2 (Y.hot a dx cn) _ (2 * n + 1) X Ow0 (F.hot a dx cn) ⟨C, fn, hot, eP, ew, eK, em, eb⟩
      have e : d.run (pt.ctx (pt.call n)) = runH d.ps.length d.N.length (d.sem (pt.ctx (pt.call n))) := by unfold Df.run; rw [hh]
      rw [e]
      unfold runH
      simp only [if_pos hl]
      all_goals rfl
end G
namespace G
open PySem PySem.Spec PyProof.Rows
open L2 (V Hp HO upd SqL SqT Rd VK XK TE TT TA TI TS TG TGs Ends WX Cx PE PT PA PI PS PSs PG PGs Inv OpR CallR RelV Vals R2 PC PW Gl Room FunD Binds PK)
section
variable {X : Cx} {Y : Wd} {W : WX} {N : List PySem.Str} {sc : Scope} {n k : Nat} {Γ : Ctx}
theorem run_makeGK {c : Nat} {q : Cl} {ps : List PySem.Str} {pins : List (Addr × PySem.Obj)} {σ : L2.St} {H : Hp} {s : Shared} {Q : VK} {pos us : List Value} {kw : List (PySem.Str × Value)} {vs : List V} {f : Addr} {fd : FuncData} {x : PySem.Str} (M : CxY X Y W N sc n) (hq : Γ.cls c = some q) (hfl : Y.T.flds c = q.fields) (Mk : L2.Mk Y.K (Y.T.cls c) f) (F : FnG Y k f fd (x :: ps) (Γ.call q.init)) (hb : ∀ (s : Shared) (z : Value), Y.K.In s.heap → BindsTo s fd ⟨z :: pos, kw⟩ ((x :: ps).zip (z :: us))) (hk : k + 1 ≤ n)
    (I : Inv X pins σ H s) (r : Vals vs us) (hl : vs.length = ps.length)
    (h : ∃ st ρ Ow ds, StR Y.T H ρ Ow st ∧ RVs Y.T H ρ Ow vs ds ∧ Post ⟨Y.T, Y.xf, W, σ⟩ H ρ Ow (fun d _ H' ρ' => ∀ v, RX true Y.T H' ρ' Ow v d → Q v H') (mkObj Γ c ds st)) :
    wpAny (model X.prog X.w) X.A (PySem.call (.ref (Y.T.cls c)) pos kw) (L2.EP X pins σ Q) X.xe s := by
  obtain ⟨st, ρ, Ow, ds, sr, rs, po⟩ := h
  have I2 := L2.Inv.made (C := Y.T.cls c) I
  have na : H (s.heap.objs.size + 1) = none := I.hok.fresh (Nat.le_succ _)
  have nx : H s.heap.objs.size = none := I.hok.fresh (Nat.le_refl _)
  have ne : s.heap.objs.size ≠ s.heap.objs.size + 1 := Nat.ne_of_lt (Nat.lt_succ_self _)
  generalize hp : s.heap.objs.size + 1 = p at I2 na ne
  generalize hx0 : s.heap.objs.size = x0 at I2 nx ne
  have na1 : upd H x0 (.own p) p = none := by rw [L2.upd_ne (Ne.symm ne)]; exact na
  have e1 : Ext H ρ (upd H x0 (.own p)) ρ := Ext.new nx
  have s1 : StR Y.T (upd H x0 (.own p)) ρ Ow st := sr.new nx
  have e2 : Ext (upd H x0 (.own p)) ρ (upd (upd H x0 (.own p)) p (.ins (Y.T.cls c) x0 [])) (ρ ++ [p]) := Ext.newS na1
  have s2 : StR Y.T (upd (upd H x0 (.own p)) p (.ins (Y.T.cls c) x0 [])) (ρ ++ [p]) Ow (st ++ [.ins c []]) := s1.push na1 ⟨rfl, x0, [], L2.upd_same, rfl, by decide, .nil⟩
  have rs2 := (rs.ext e1).ext e2
  have here : RV Y.T (upd (upd H x0 (.own p)) p (.ins (Y.T.cls c) x0 [])) (ρ ++ [p]) Ow (.ref p) (.loc st.length) := .loc (by rw [← sr.len, List.getElem?_concat_length])
  have want : Want Y.T Y.xf (Γ.call q.init) (.ref p :: vs) (upd (upd H x0 (.own p)) p (.ins (Y.T.cls c) x0 [])) (fun v H2 => v = .non ∧ Q (.ref p) H2) (L2.WE W σ) := by
    refine ⟨_, _, _, _, s2, .cons here rs2, ?_⟩
    have e12 := e1.trans e2
    have po' : Post ⟨Y.T, Y.xf, W, σ⟩ H ρ Ow (fun d _ H' ρ' => ∀ v, RX true Y.T H' ρ' Ow v d → Q v H') (match Γ.call q.init (.loc st.length :: ds) (st ++ [.ins c []]) with
      | .ok .non st' => if q.frozen then (match st'[st.length]? with
          | some (.ins b fs) => if b = c ∧ fs.map (·.1) = q.fields ∧ st'.length = st.length + 1 then .ok (.obj c (fs.map (·.2))) (st'.take st.length) else .bad
          | _ => .bad) else .ok (.loc st.length) st'
      | .ex b fs st' => .ex b fs st'
      | _ => .bad) := by
      unfold mkObj at po
      rw [hq] at po
      exact po
    cases hc : Γ.call q.init (.loc st.length :: ds) (st ++ [.ins c []]) with
    | bad => rw [hc] at po'; exact po'.elim
    | ex b fs st' =>
      rw [hc] at po'
      exact fun cls dx H' ρ' e s' x => po' cls dx H' ρ' (e12.trans e) s' x
    | ok d st' =>
      rw [hc] at po'
      cases d with
      | non =>
        have po2 : Post ⟨Y.T, Y.xf, W, σ⟩ H ρ Ow (fun d _ H' ρ' => ∀ v, RX true Y.T H' ρ' Ow v d → Q v H') (if q.frozen then (match st'[st.length]? with
          | some (.ins b fs) => if b = c ∧ fs.map (·.1) = q.fields ∧ st'.length = st.length + 1 then .ok (.obj c (fs.map (·.2))) (st'.take st.length) else .bad
          | _ => .bad) else .ok (.loc st.length) st') := po'
        intro H' ρ' e s' v rv
        cases rv
        refine ⟨rfl, ?_⟩
        obtain ⟨more, hpre⟩ := e.pre
        split at po2
        · cases hst : st'[st.length]? with
          | none => rw [hst] at po2; exact po2.elim
          | some ob =>
            cases ob with
            | lst xs => rw [hst] at po2; exact po2.elim
            | dic z ks => rw [hst] at po2; exact po2.elim
            | ins b fs =>
              rw [hst] at po2
              have po3 : Post ⟨Y.T, Y.xf, W, σ⟩ H ρ Ow (fun d _ H' ρ' => ∀ v, RX true Y.T H' ρ' Ow v d → Q v H') (if b = c ∧ fs.map (·.1) = q.fields ∧ st'.length = st.length + 1 then .ok (.obj c (fs.map (·.2))) (st'.take st.length) else .bad) := po2
              split at po3
              · rename_i hh
                obtain ⟨rfl, hf, hl'⟩ := hh
                -- the store did not grow
                have hm : more = [] := by
                  have h1 := s'.len
                  rw [hpre, hl'] at h1
                  simp only [List.length_append, List.length_singleton, sr.len] at h1
                  exact List.eq_nil_of_length_eq_zero (by omega)
                subst hm
                rw [List.append_nil] at hpre
                subst hpre
                have at_ := s'.at_ st.length p _ (by rw [← sr.len, List.getElem?_concat_length]) hst
                obtain ⟨lt, dx, ws, q1, q2, q3, q4⟩ := at_
                have lt' : ltLocs (ρ.length - Y.T.tabs.length) (fs.map (·.2)) = true := by rw [sr.len, Nat.add_sub_cancel]; exact lt
                have nρ : p ∉ ρ := (sr.fresh na).1
                have e3 : Ext H ρ H' ρ := ⟨fun a o h m => ⟨((e12.trans e).keep a o h m).1, m⟩, ⟨[], by simp⟩, (e12.trans e).frz⟩
                refine po3 H' ρ e3 (s'.shrink sr.len hl') (.ref p) (RV.obj (dx := dx) (by rw [hfl, ← hf, List.map_map]; exact q1) nρ (s'.apart p (by simp)) (by rw [q2, hfl, ← hf, List.length_map]) (q4.shrink lt'))
              · exact po3.elim
        · exact po2 H' ρ' (e12.trans e) s' (.ref p) (.loc (by rw [hpre, List.getElem?_append_left (by simp [sr.len]), ← sr.len, List.getElem?_concat_length]))
      | _ => exact po'.elim
  have hr : Room (k + 1) X.A := M.room.mono hk
  have e0 : L2.Env0 Y.P Y.w Y.K Y.mg Y.base (X.A.under (.builtin "type.__call__" ⟨.ref (Y.T.cls c) :: pos, kw⟩)) X.stack { s with heap := (s.heap.push PySem.W.emptyDict).push (PySem.W.instObj (Y.T.cls c) x0) } (upd (upd H x0 (.own p)) p (.ins (Y.T.cls c) x0 [])) := by
    have z := I2.env0.make (Y.T.cls c) pos kw
    rw [M.eP, M.ew, M.eKY, M.em, M.eb] at z
    exact z
  have hlen : (Value.ref p :: us).length = (x :: ps).length := by rw [List.length_cons, List.length_cons, ← r.length, hl]
  have b0 : BindsTo { s with heap := (s.heap.push PySem.W.emptyDict).push (PySem.W.instObj (Y.T.cls c) x0) } fd ⟨.ref p :: pos, kw⟩ ((x :: ps).zip (.ref p :: us)) := by
    exact hb _ _ (by rw [← M.eKY]; exact I2.kIn)
  have go := F.run (X.A.under (.builtin "type.__call__" ⟨.ref (Y.T.cls c) :: pos, kw⟩)) X.stack _ _ ⟨.ref p :: pos, kw⟩ (.ref p :: us) (.ref p :: vs) _ (L2.WE W σ) (hr.make (Y.T.cls c) pos kw) (make_guards M.guards) e0 b0 (.cons rfl r) (by rw [List.length_cons, List.length_cons, hl]) want
  rw [← M.eP, ← M.ew] at go
  subst hx0 hp
  refine wpAny_call (L2.make_map (f := f) I.kIn (by rw [M.eKY]; exact Mk.makes) (by rw [M.eKY]; exact Mk.init) (beq_iff_eq.mp (by rw [M.eKY]; exact Mk.fn)) (codeAny_mono go fun res s' hq' => ?_))
  cases res with
  | error e => exact M.pass σ pins _ _ e s' I2 hq'
  | ok fl =>
    cases fl with
    | ret u =>
      obtain ⟨v, H', I3, rv, ev, q3⟩ := I2.after hq'
      subst ev
      exact ⟨rv, ⟨V.ref (s.heap.objs.size + 1), H', I3, rfl, q3⟩⟩
    | _ => exact hq'.elim
theorem pick_vals {is : List Nat} {vs : List V} {us : List Value} (r : Vals vs us) : Vals (pick .non is vs) (pick .none is us) := by
  have at_ : ∀ i, RelV (vs.getD i .non) (us.getD i .none) := fun i => by
    induction r generalizing i with
    | nil => rfl
    | cons r rs ih =>
      cases i with
      | zero => exact r
      | succ i => exact ih i
  induction is with
  | nil => exact .nil
  | cons i is ih => exact .cons (at_ i) ih
theorem pick_rvs {T : Tb} {H : Hp} {ρ Ow : List Addr} {is : List Nat} {vs : List V} {ds : List D} (r : RVs T H ρ Ow vs ds) : RVs T H ρ Ow (pick .non is vs) (pick .non is ds) := by
  have at_ : ∀ i, RV T H ρ Ow (vs.getD i .non) (ds.getD i .non) := fun i => by
    by_cases h : i < ds.length
    · obtain ⟨v, h1, h2⟩ := r.get (List.getElem?_eq_getElem h)
      rw [List.getD_eq_getElem?_getD, List.getD_eq_getElem?_getD, h1, List.getElem?_eq_getElem h]
      exact h2
    · rw [List.getD_eq_getElem?_getD, List.getD_eq_getElem?_getD, List.getElem?_eq_none (l := vs) (by rw [r.length]; omega), List.getElem?_eq_none (l := ds) (by omega)]
      exact .non
  induction is with
  | nil => exact .nil
  | cons i is ih => exact .cons (at_ i) ih
theorem pk_args {T : Tb} {xf : Nat → List Nm} : ∀ {kws : List Keyword} {ks : List PySem.Str} {ss : List G.Sem}, JKs X T xf W kws ks ss → PK X kws (tArg T xf W (args ss))
  | _, _, _, .nil => ⟨fun pos pins s σ H Q I ⟨env, st, ρ, Ow, en, sr, p⟩ => L2.pk_nil.run pos pins s σ H Q I (Post.ok sr p [] .nil)⟩
  | _, _, _, .cons j js => ⟨fun pos pins s σ H Q I ⟨env, st, ρ, Ow, en, sr, p⟩ => (L2.pk_cons j.val (pk_args js)).run pos pins s σ H Q I (by
    refine ⟨env, st, ρ, Ow, en, sr, (Post.bind p).mono fun d st1 H1 ρ1 e1 s1 q v r => ?_⟩
    refine ⟨env, st1, ρ1, Ow, en.ext e1 sr.disj, s1, (Post.bind q).mono fun ds st2 H2 ρ2 e2 s2 q2 vs rs => ?_⟩
    exact Post.ok s2 q2 _ (.cons (RV.ext e2 r) rs))⟩
theorem kw_names {T : Tb} {xf : Nat → List Nm} {pos : Pos} : ∀ {kws : List Keyword} {ks : List PySem.Str} {ss : List G.Sem}, JKs X T xf W kws ks ss → (backToKw pos (keywordEach kws X.env)).all (·.1.isSome) = true ∧ (backToKw pos (keywordEach kws X.env)).filterMap (·.1) = ks ∧ (backToKw pos (keywordEach kws X.env)).any (·.1.isNone) = false
  | _, _, _, .nil => ⟨rfl, rfl, rfl⟩
  | _, _, _, .cons (x := x) (ks := ks) j js => by
    obtain ⟨h1, h2, h3⟩ := kw_names (pos := pos) js
    refine ⟨?_, ?_, ?_⟩
    · show (true && _) = true
      rw [Bool.true_and]; exact h1
    · show x :: _ = x :: ks
      exact congrArg (x :: ·) h2
    · show (false || _) = false
      rw [Bool.false_or]; exact h3
structure BdM (K : PySem.W.Frag) (fd : FuncData) (ps : List PySem.Str) (ks : List PySem.Str) (is : List Nat) : Prop where
  to : ∀ (s : Shared) (z : Value) (us : List Value), K.In s.heap → us.length = ks.length → BindsTo s fd ⟨[z], ks.zip us⟩ (ps.zip (z :: pick .none is us))
  len : is.length + 1 = ps.length
variable {x : PySem.Str} {f : Addr} {fd : FuncData} {ps ks : List PySem.Str} {c : Fd} {p pos : Pos} {kws : List Keyword} {ss : List G.Sem} {is : List Nat}
theorem je_mkK {cc : Nat} {q : Cl} {x0 : PySem.Str} (M : CxY X Y W N sc n) (hq : Γ.cls cc = some q) (hfl : Y.T.flds cc = q.fields) (Mk : L2.Mk Y.K (Y.T.cls cc) f) (F : FnG Y k f fd (x0 :: ps) (Γ.call q.init)) (hb : BdM Y.K fd (x0 :: ps) ks is) (hk : k + 1 ≤ n) (hm : Y.mg x = some (.ref (Y.T.cls cc))) (hd : (x == ("__debug__" : PySem.Str)) = false) (hg : Gl X x)
    (js : JKs X Y.T Y.xf W kws ks ss) : JE X Y.T Y.xf W (.Call (.Name x p) [] kws pos) (G.Sem.of (many ss fun ds st => mkObj Γ cc (pick .non is ds) st)) true := by
  refine .of M.toCxG ⟨fun pins s σ H Q I q0 => ?_⟩
  have hkp : PySem.W.keepIn X.K (.ref (Y.T.cls cc)) = true := by rw [M.eKY]; exact Mk.kp
  obtain ⟨n1, n2, n3⟩ := kw_names (pos := pos) js
  have q1 : tArg Y.T Y.xf W (args ss) σ H fun vs H1 => vs.length = ks.length ∧ ∃ st ρ Ow ds, StR Y.T H1 ρ Ow st ∧ RVs Y.T H1 ρ Ow (pick .non is vs) ds ∧ Post ⟨Y.T, Y.xf, W, σ⟩ H1 ρ Ow (fun d _ H' ρ' => ∀ v, RX true Y.T H' ρ' Ow v d → Q v H') (mkObj Γ cc ds st) := by
    obtain ⟨env, st, ρ, Ow, en, sr, po⟩ := q0
    refine ⟨env, st, ρ, Ow, en, sr, (Post.bind po).eqn.mono fun ds st2 H2 ρ2 e2 s2 q3 vs rs => ?_⟩
    obtain ⟨eq, q3⟩ := q3
    exact ⟨by rw [rs.length, args_len eq, js.len], st2, ρ2, Ow, _, s2, pick_rvs rs, q3⟩
  refine wpAny_Call_Name_kw (L2.ld_glob I hg (by rw [M.em]; exact hm) ?_ hd)
  refine PySem.W.callWith_KW0 (h₀ := X.base) I.ok.mod.kin hkp n1 ?_ (by rw [n3]; rfl)
  refine L2.thn ((pk_args js).run pos pins s σ H _ I q1) fun us s1 ⟨vs, H1, I1, r, h1, h2⟩ => ⟨I1.kIn, ?_⟩
  rw [n2]
  refine run_makeGK (us := pick .none is us) (vs := pick .non is vs) M hq hfl Mk F (fun s z hK => ?_) hk I1 (pick_vals r) (by rw [pick, List.length_map]; have := hb.len; simpa using this) h2
  exact hb.to s z us hK (by rw [← r.length]; exact h1)
end
end G
namespace G
open PySem PySem.Spec PyProof.Rows
open L2 (V Hp HO upd SqL SqT Rd VK XK TE TT TA TI TS TG TGs Ends WX Cx PE PT PA PI PS PSs PG PGs Inv OpR CallR RelV Vals R2 PC PW Gl Room FunD Binds PK)
def isRp : Bi → Bool
  | .repr => true
  | _ => false
def debB (x : PySem.Str) : Bool := !(x == ("__debug__" : PySem.Str))
def nmB (N : List PySem.Str) (sc : Scope) (i : Nat) (x : PySem.Str) : Bool := decide (N[i]? = some x) && ((kindB sc x .local || (kindB sc x .cell || kindB sc x .free)) && (debB x && !(x == ("__classdict__" : PySem.Str))))
def glbB (sc : Scope) (x : PySem.Str) : Bool := kindB sc x .globalImplicit
theorem nB {b : Bool} (h : (!b) = true) : b = false := by
  cases b with
  | true => cases h
  | false => rfl
theorem nm_ok {N : List PySem.Str} {sc : Scope} {i : Nat} {x : PySem.Str} (h : nmB N sc i x = true) : N[i]? = some x ∧ L2.Vis sc x ∧ (x == ("__debug__" : PySem.Str)) = false ∧ (x == ("__classdict__" : PySem.Str)) = false := by
  obtain ⟨h1, h⟩ := He.ba h
  obtain ⟨h2, h⟩ := He.ba h
  obtain ⟨h3, h4⟩ := He.ba h
  refine ⟨of_decide_eq_true h1, ?_, nB h3, nB h4⟩
  rcases Bool.or_eq_true_iff.mp h2 with h | h
  · exact .inl (kind_ok h)
  rcases Bool.or_eq_true_iff.mp h with h | h
  · exact .inr (.inl (kind_ok h))
  · exact .inr (.inr (kind_ok h))
section
variable {pt : G.PT} {Y : Wd} {Γ : Ctx} {k : Nat} {N : List PySem.Str} {X : Cx} {W : WX} {sc scope : Scope} {Ow0 : List Addr}
theorem En.cc (E : En pt Y Γ k N X W sc) : CxC X Y.T N sc (k + 1) := E.M.toCxC
theorem En.gl (E : En pt Y Γ k N X W sc) {x : PySem.Str} (h : glbB sc x = true) : Gl X x := by
  show X.env.scope.names.lookup x = some .globalImplicit
  rw [E.M.eS]
  exact kind_ok h
theorem En.mg0 (E : En pt Y Γ k N X W sc) {x : PySem.Str} (h : pt.free.contains x = true) : X.mg x = none := by rw [E.M.em]; exact E.F.st.free h
theorem Blk.cy {X' : Cx} (M : CxY X Y W N sc (k + 1)) (b : Blk X scope X') : CxY X' Y W0 N (L2.relS scope sc) (k + 1) := by
  have C := Blk.cx M.toCxC b
  obtain ⟨s, H, a, cl, fp, rfl⟩ := b
  exact ⟨C, M.eP, M.ew, M.eKY, M.em, M.eb, fun σ pins H s e s' I h => by
    obtain ⟨_, _, _, _, _, _, _, _, _, _, _, _, z⟩ := h
    exact z.elim⟩
theorem En.blk (E : En pt Y Γ k N X W sc) {X' : Cx} (b : Blk X scope X') : En pt Y Γ k N X' W0 (L2.relS scope sc) := ⟨E.F, Blk.cy E.M b⟩
variable (E : En pt Y Γ k N X W sc)
include E
variable {x : PySem.Str} {i j : Nat} {pos p p2 p3 apos cpos : Pos} {e a b c o : Expr} {es : List Expr} {s sa sb sc' so : G.Sem} {ss : List G.Sem} {str ra rb rc : Bool}
theorem r_v (h : nmB N sc i x = true) : JE X Y.T Y.xf W (.Name x pos) (vE i) true := je_v E.c (nm_ok h).1 (nm_ok h).2.1 (nm_ok h).2.2.1 (nm_ok h).2.2.2
theorem r_pk (h : nmB N sc i x = true) : JE X Y.T Y.xf W (.Name x pos) (pkE i) false := je_pk E.c (nm_ok h).1 (nm_ok h).2.1 (nm_ok h).2.2.1 (nm_ok h).2.2.2
theorem r_k {u : Const} {d : G.D} {m : Nat} (h : conD u = some d) : JE X Y.T Y.xf W (.Constant u m pos) (kE d) true := je_k E.c h
theorem r_gi {z : Int} (m : Nat) (h : pt.gints[m]? = some (x, z)) (hg : glbB sc x = true) (hd : debB x = true) : JE X Y.T Y.xf W (.Name x pos) (kE (.int z)) true := by
  obtain ⟨t, ht⟩ := E.F.st.gint h
  exact je_g (i := 0) E.c (E.gl hg) (by rw [E.M.em]; exact ht) (v := .int z) ⟨t, rfl⟩ (nB hd) fun _ _ _ => .int z
theorem r_gs {z : List Nat} (m : Nat) (h : pt.gstrs[m]? = some (x, z)) (hg : glbB sc x = true) (hd : debB x = true) : JE X Y.T Y.xf W (.Name x pos) (kE (.str z)) true := by
  obtain ⟨⟨t, ht⟩, h2, h3⟩ := E.F.st.gstr h
  exact je_g (i := 0) E.c (E.gl hg) (by rw [E.M.em]; exact ht) (v := .str ⟨z.toArray⟩) ⟨t, rfl⟩ (nB hd) fun _ _ _ => .str z (lim_k h2) h3
theorem r_op {op : Op2} {q : Operator} (h : binOf op = some q) (ja : JE X Y.T Y.xf W a sa ra) (jb : JE X Y.T Y.xf W b sb rb) : JE X Y.T Y.xf W (.BinOp a q b pos) (opE op sa sb) true := je_bin E.c h ja jb
theorem r_ix (hb : plainE b = true) (ja : JE X Y.T Y.xf W a sa ra) (jb : JE X Y.T Y.xf W b sb rb) : JE X Y.T Y.xf W (.Subscript a b pos) (opE .idx sa sb) true := je_ix E.c hb ja jb
theorem r_cmp {op : Op2} {q : CmpOp} (h : cmpOf op = some q) (hb : plainE b = true) (ja : JE X Y.T Y.xf W a sa ra) (jb : JE X Y.T Y.xf W b sb rb) : JE X Y.T Y.xf W (.Compare a [q] [b] pos) (opE op sa sb) true := je_cmp0 E.c h hb ja jb
theorem r_chain {op op2 : Op2} {q q2 : CmpOp} (h : cmpOf op = some q) (h' : cmpOf op2 = some q2) (hc : plainE c = true) (ja : JE X Y.T Y.xf W a sa ra) (jb : JE X Y.T Y.xf W b sb rb) (jc : JE X Y.T Y.xf W c sc' rc) :
    JE X Y.T Y.xf W (.Compare a [q, q2] [b, c] pos) (chE op op2 sa sb sc') true := je_chain E.c h h' hc ja jb jc
theorem r_no (ja : JE X Y.T Y.xf W a sa ra) : JE X Y.T Y.xf W (.UnaryOp .Not a pos) (Sem.no sa) true := je_no E.c ja
theorem r_ifeS (jc : JE X Y.T Y.xf W c sc' rc) (ja : JE X Y.T Y.xf W a sa true) (jb : JE X Y.T Y.xf W b sb true) : JE X Y.T Y.xf W (.IfExp c a b pos) (Sem.ife sc' sa sb) true := je_ife E.c jc ja jb
theorem r_and (h : es.isEmpty = false) (js : JEs X Y.T Y.xf W es ss) : JE X Y.T Y.xf W (.BoolOp .And es pos) (Sem.bop true ss) true := je_bop true js (by intro z; rw [z] at h; cases h)
theorem r_or (h : es.isEmpty = false) (js : JEs X Y.T Y.xf W es ss) : JE X Y.T Y.xf W (.BoolOp .Or es pos) (Sem.bop false ss) true := je_bop false js (by intro z; rw [z] at h; cases h)
theorem r_tup {m : Nat} (hs : Nat.ble ss.length 1000 = true) (js : JEs X Y.T Y.xf W es ss) : JE X Y.T Y.xf W (.Tuple es m pos) (tupE ss) true := je_tup E.c (Nat.le_of_ble_eq_true hs) js
theorem r_lst (hs : Nat.ble ss.length 1000 = true) (js : JEs X Y.T Y.xf W es ss) : JE X Y.T Y.xf W (.List es pos) (lstE ss) true := je_lst E.c (Nat.le_of_ble_eq_true hs) js
theorem r_new (js : JEs X Y.T Y.xf W es ss) : JE X Y.T Y.xf W (.List es pos) (newE ss) true := je_new E.c js
theorem r_bi (f : Bi) (hf : isRp f = false) (hg : glbB sc (biNm f) = true) (hm : pt.free.contains (biNm f : PySem.Str) = true) (hne : es.isEmpty = false) (js : JWs X Y.T Y.xf W es ss) : JE X Y.T Y.xf W (.Call (.Name (biNm f) p) es [] pos) (biE f ss) true :=
  je_bi E.cc (by intro z; rw [z] at hf; cases hf) (E.gl hg) (E.mg0 hm) (by intro z; rw [z] at hne; cases hne) js
theorem r_repr (hg : glbB sc (biNm .repr) = true) (hm : pt.free.contains (biNm .repr : PySem.Str) = true) (hne : es.isEmpty = false) (js : JWs X Y.T Y.xf W es ss) : JE X Y.T Y.xf W (.Call (.Name (biNm .repr) p) es [] pos) (biE .repr ss) true :=
  je_biR (f := .repr) E.c (cr_repr E.c) (E.gl hg) (E.mg0 hm) (by intro z; rw [z] at hne; cases hne) js
theorem r_call (m : Nat) {d : Df} (h : pt.defs[m]? = some d) (e : d.pa = .glo x) (hd : debB x = true) (hg : glbB sc x = true) (hl : ss.length = d.ps.length) (js : JEs X Y.T Y.xf W es ss) : JE X Y.T Y.xf W (.Call (.Name x p) es [] pos) (callE (Γ.call m) ss) true := by
  obtain ⟨fd, B, G0⟩ := E.F.fk h e (nB hd)
  exact je_call E.M G0 (Nat.le_succ k) B (E.gl hg) hl js
theorem r_mk (m : Nat) {t : ClT} {d : Df} {y : PySem.Str} {ps : List PySem.Str} (h : pt.cls[m]? = some t) (hd : pt.defs[t.cl.init]? = some d) (hp : d.ps = y :: ps) (hx : t.x = x) (hb : debB x = true) (hg : glbB sc x = true) (hl : ss.length = ps.length) (js : JEs X Y.T Y.xf W es ss) :
    JE X Y.T Y.xf W (.Call (.Name x p) es [] pos) (mkE Γ m ss) true := by
  subst hx
  exact je_mk E.M (E.F.at_c h) (E.F.st.t_flds h) (E.F.mkg h hd hp) (Nat.le_refl _) (by rw [E.F.st.t_cls h]; exact E.F.st.gl (E.F.st.cl h).gl) (nB hb) (E.gl hg) hl js
def tyNm : Ty → String
  | .int => "int" | .bool => "bool" | .str => "str" | .tuple => "tuple" | _ => ""
def tyBlt : Ty → Bool
  | .int | .bool | .str | .tuple => true
  | _ => false
omit E in
theorem ty_boot {τ : Ty} (h : tyBlt τ = true) : bootBuiltins (tyNm τ) = some (.type (tyNm τ)) ∧ (tyNm τ : PySem.Str) ≠ "__name__" ∧ ((tyNm τ : PySem.Str) == ("__debug__" : PySem.Str)) = false := by
  cases τ with
  | int => exact ⟨PyProof.Rows.boot_int, by decide, by decide⟩
  | bool => exact ⟨PyProof.Rows.boot_bool, by decide, by decide⟩
  | str => exact ⟨PyProof.Rows.boot_str, by decide, by decide⟩
  | tuple => exact ⟨PyProof.Rows.boot_tuple, by decide, by decide⟩
  | _ => cases h
theorem r_isi (τ : Ty) (m : Nat) (hτ : pt.tys[m]? = some τ) (hb : tyBlt τ = true) (hg : glbB sc "isinstance" = true) (hm : pt.free.contains ("isinstance" : PySem.Str) = true) (hg2 : glbB sc (tyNm τ) = true) (hm2 : pt.free.contains (tyNm τ : PySem.Str) = true) (h : plainE e = true) (j : JE X Y.T Y.xf W e s str) :
    JE X Y.T Y.xf W (.Call (.Name "isinstance" p) [e, .Name (tyNm τ) p2] [] pos) (isiE Γ s τ) true := by
  obtain ⟨h1, h2, h3⟩ := ty_boot hb
  have e1 : tyV pt Y.K τ = .type (tyNm τ) := by cases τ <;> first | rfl | cases hb
  exact je_isi E.M (by have q := E.F.isi hτ; rw [e1] at q; exact q) (c := .ty (tyNm τ)) (.ty _) (E.gl hg) (E.mg0 hm) h (L2.pe_bltn (E.gl hg2) (E.mg0 hm2) h1 rfl h2 h3) j
theorem r_at (f : Nm) (hx : nmOf pt.nms f = x) (hp : plainO e = true) (j : JE X Y.T Y.xf W e s true) : JE X Y.T Y.xf W (.Attribute e x pos) (atE Γ f s) true :=
  je_at E.M E.F.gam (Nat.le_refl _) (by rw [E.F.st.t_nm]; exact hx) hp j
theorem r_me (cc : Nat) (m : Nm) (f : Nat) {t : ClT} {d : Df} {pl : PySem.Sem Bool} (h : pt.cls[cc]? = some t) (hm : t.cl.meths.lookup m = some f) (hd : pt.defs[f]? = some d) (hp : d.ps.length = ss.length + 1) (hno : t.cl.fields.contains m = false) (hx : nmOf pt.nms m = x)
    (jo : JE X Y.T Y.xf W o so true) (js : JEs X Y.T Y.xf W es ss)
    (ht : eval (.Call (.Attribute o x apos) es [] pos) X.env = (do
      let ov ← eval o X.env
      standAt apos.atName
      let (f, first) ← holding [ov] (getMethod ov x pl)
      callWith pos f first (backTo pos (starEach es X.env)) (backToKw pos (keywordEach [] X.env)))) : JE X Y.T Y.xf W (.Call (.Attribute o x apos) es [] pos) (meE Γ cc m so ss) true :=
  je_me E.M E.F.gam (E.F.at_c h) hm (E.F.me h hm hd hp) (fun hmem => by
    have := List.contains_iff_mem.mpr hmem
    rw [hno] at this; cases this) (Nat.le_succ k) (by rw [E.F.st.t_nm]; exact hx) jo js ht
theorem r_sl {eo1 eo2 : Option Expr} {s1 s2 : List G.Sem} (j : JE X Y.T Y.xf W e s str) (jl : JP X Y.T Y.xf W eo1 s1) (jh : JP X Y.T Y.xf W eo2 s2) : JE X Y.T Y.xf W (.Subscript e (.Slice eo1 eo2 none p2) pos) (slE s s1 s2) true := je_sl E.c j jl jh
variable {tg e2 : Expr} {elts : List Expr} {kk : Nat} {tpos : Pos} {t1 t2 : G.Sem}
theorem i_of (j : JE X Y.T Y.xf W e s str) : JI X Y.T Y.xf W tg e s str := ji_of j
theorem i_rng1 (hg : glbB sc "range" = true) (hm : pt.free.contains ("range" : PySem.Str) = true) (h : plainE a = true) (j : JE X Y.T Y.xf W a s true) : JI X Y.T Y.xf W tg (.Call (.Name "range" p) [a] [] pos) (rngE [s]) str := ji_rng1 E.c (E.gl hg) (E.mg0 hm) h j
theorem i_enum (hg : glbB sc "enumerate" = true) (hm : pt.free.contains ("enumerate" : PySem.Str) = true) (h : plainE e = true) (j : JE X Y.T Y.xf W e s str) : JI X Y.T Y.xf W (.Tuple elts kk tpos) (.Call (.Name "enumerate" p) [e] [] pos) (enumE s) str := ji_enum E.c (E.gl hg) (E.mg0 hm) h j
theorem p_nm (h : pnB N sc i x = true) : PG X (.Name x pos) (tPt Y.T Ow0 (.nm i)) := pt_nm (E.nml h)
theorem p_tp {ps : List Pt} {m : Nat} (hp : es.all plainT = true) (hl : es.length = ps.length) (ts : PGs X es (tPts Y.T Ow0 ps)) : PG X (.Tuple es m pos) (tPt Y.T Ow0 (.tp ps)) := pt_tp E.M.calm E.M.eK hp hl ts
def blkB (N : List PySem.Str) (sc scope : Scope) (own : List (PySem.Str × Nat)) : Bool := decide (scope.kind = .function) && ((scope.names.all fun y => decide (scope.names.lookup y.1 = some y.2)) && ((own.all fun p => decide (N[p.2]? = some p.1)) &&
  ((scope.names.all fun y => !decide (y.2 = .free) || (kindB sc y.1 .cell || kindB sc y.1 .free)) && (scope.names.all fun y => !(decide (y.2 = .local) || decide (y.2 = .cell)) || ((own.map (·.1)).contains y.1 || !N.contains y.1)))))
omit E in
theorem blk_ok {own : List (PySem.Str × Nat)} (h : blkB N sc scope own = true) : L2.BlkOk N sc scope own := by
  obtain ⟨h1, h⟩ := He.ba h
  obtain ⟨h2, h⟩ := He.ba h
  obtain ⟨h3, h⟩ := He.ba h
  obtain ⟨h4, h5⟩ := He.ba h
  refine ⟨of_decide_eq_true h1, fun y hy => of_decide_eq_true (List.all_eq_true.mp h2 y hy), fun p hp => of_decide_eq_true (List.all_eq_true.mp h3 p hp), fun y hy e => ?_, fun y hy e => ?_⟩
  · have q := List.all_eq_true.mp h4 y hy
    rw [e] at q
    rcases Bool.or_eq_true_iff.mp q with q | q
    · simp at q
    · rcases Bool.or_eq_true_iff.mp q with q | q
      · exact .inl (kind_ok q)
      · exact .inr (kind_ok q)
  · have q := List.all_eq_true.mp h5 y hy
    rcases Bool.or_eq_true_iff.mp q with q | q
    · rcases e with e | e <;> rw [e] at q <;> simp at q
    · rcases Bool.or_eq_true_iff.mp q with q | q
      · exact .inl (by simpa using q)
      · exact .inr (by simpa using q)
def slotsB (p : Pt) (own : List (PySem.Str × Nat)) : Bool := (ptSlots p).all fun j => (own.map (·.2)).contains j
theorem lc_ok {elt iter : Expr} {ifs : List Expr} {sI sE : G.Sem} {p : Pt} {own : List (PySem.Str × Nat)} {rI : Bool} (hf : plainE iter = true) (hb : blkB N sc scope own = true) (hs : slotsB p own = true) (ji : JI X Y.T Y.xf W tg iter sI rI)
    (jt : ∀ X', En pt Y Γ k N X' W0 (L2.relS scope sc) → (∀ x, scope.names.lookup x = some .cell → X'.fn x = true) → PG X' tg (tPt Y.T [] p)) (jf : ∀ X', En pt Y Γ k N X' W0 (L2.relS scope sc) → JIf X' Y.T Y.xf W0 ifs ss) (je : ∀ X', En pt Y Γ k N X' W0 (L2.relS scope sc) → JE X' Y.T Y.xf W0 elt sE true) :
    LcOk X Y.T Y.xf W N sc scope elt tg iter ifs own sI sE p ss rI :=
  ⟨hf, blk_ok hb, ji, fun j hj => by simpa using List.all_eq_true.mp hs j hj, fun X' b => jt X' (E.blk b) (by
    obtain ⟨s, H, a, cl, fp, rfl⟩ := b
    intro x hx
    show (scope.names.lookup x == some .cell) = true
    rw [hx]; rfl), fun X' b => jf X' (E.blk b), fun X' b => je X' (E.blk b)⟩
theorem r_lc {elt iter : Expr} {ifs : List Expr} {sI sE : G.Sem} {p : Pt} {own : List (PySem.Str × Nat)} {rI : Bool} (L : LcOk X Y.T Y.xf W N sc scope elt tg iter ifs own sI sE p ss rI) :
    JE X Y.T Y.xf W (.ListComp elt [⟨tg, iter, ifs, 0⟩] scope pos) (lcE sI sE (own.map (·.2)) p ss) true := je_lc E.cc L
theorem r_tindex {o a : Expr} {so sa : G.Sem} {ro ra : Bool} {apos pos : Pos} (hp : plainO o = true) (hl : (apos.endLine == pos.line) = true) (he : plainE a = true) (jo : JE X Y.T Y.xf W o so ro) (j : JE X Y.T Y.xf W a sa ra) :
    JE X Y.T Y.xf W (.Call (.Attribute o "index" apos) [a] [] pos) (tindexE so sa) true := je_tindex E.c hp hl he jo j
theorem f_lst (hs : Nat.ble ss.length 1000 = true) (js : JEs X Y.T Y.xf W es ss) : JF X Y.T Y.xf W (.List es pos) (lstE ss) := jf_lst (Nat.le_of_ble_eq_true hs) js
theorem r_mkK (cc : Nat) (is : List Nat) {t : ClT} {d : Df} {y : PySem.Str} {ps : List PySem.Str} {kws : List Keyword} {ks : List PySem.Str} (h : pt.cls[cc]? = some t) (hd : pt.defs[t.cl.init]? = some d) (hp : d.ps = y :: ps) (hx : t.x = x) (hb : debB x = true) (hg : glbB sc x = true)
    (hk : ∀ fd, FunD Y.K d.name d.qual d.params d.body d.scope (d.dvs Y.K) [] (d.pa.ad Y.K) fd → BdM Y.K fd d.ps ks is) (js : JKs X Y.T Y.xf W kws ks ss) : JE X Y.T Y.xf W (.Call (.Name x p) [] kws pos) (mkKE Γ cc is ss) true := by
  subst hx
  have Q := E.F.st.cl h
  obtain ⟨d', e1, e2⟩ := Q.init
  rw [hd] at e1
  cases e1
  obtain ⟨fd, D, B, G0⟩ := E.F.fn _ d hd
  have b := hk fd D
  rw [e2] at G0
  rw [hp] at G0 b
  exact je_mkK E.M (E.F.at_c h) (E.F.st.t_flds h) (by rw [E.F.st.t_cls h]; exact Q.mkr) G0 b (Nat.le_refl _) (by rw [E.F.st.t_cls h]; exact E.F.st.gl Q.gl) (nB hb) (E.gl hg) js
end
theorem bdM_of {pt : PT} {Y : Wd} {d : Df} {fd : FuncData} {ks : List PySem.Str} {is : List Nat} (D : FunD Y.K d.name d.qual d.params d.body d.scope (d.dvs Y.K) [] (d.pa.ad Y.K) fd) (hv : d.dv = false) (hl : is.length + 1 = d.ps.length)
    (h : ∀ (kV doc pm : Value) (an : Option Addr) (cdv ct : Value) (z : Value) (us : List Value), us.length = ks.length → bindArgs (PySem.W.fnOf d.name d.qual d.params d.body d.scope .none kV doc pm an cdv ct) ⟨[z], ks.zip us⟩ = pure (d.ps.zip (z :: pick .none is us))) : BdM Y.K fd d.ps ks is := by
  refine ⟨fun s z us K hu => ?_, hl⟩
  have e0 : d.dvs Y.K = [] := by unfold Df.dvs; rw [hv]
  rw [e0] at D
  obtain ⟨oc, od, dV, kV, doc, pm, an, cdv, ct, osl, rfl, lk, hcd, hD, hK⟩ := D.ex
  rcases hD with ⟨_, rfl⟩ | ⟨e, _⟩
  · exact .of_eq (h kV doc pm an cdv ct z us hu)
  · exact absurd rfl e
end G
namespace G
open PySem PySem.Spec PyProof.Rows
open L2 (V Hp HO upd SqL SqT Rd VK XK TE TT TA TI TS TG TGs Ends WX Cx PE PT PA PI PS PSs PG PGs Inv OpR CallR RelV Vals R2 PC PW Gl Room FunD Binds PK)
theorem not_fr {d : Df} {fr : Bool} (h : d.fre = false) (hf : fr = true → d.fre = true) : fr = false := by
  cases fr with
  | false => rfl
  | true => rw [hf rfl] at h; cases h
def envS (sc : Scope) : PySem.Env := { (default : PySem.Env) with scope := sc }
theorem sw_env {ts : List Expr} {v : Expr} {env : PySem.Env} {sc : Scope} (h : env.scope = sc) : swappedStores ts v env = swappedStores ts v (envS sc) := by
  subst h
  unfold swappedStores
  rfl
theorem lst_sh {ss : List G.Sem} : ∀ env st d st', (lstE ss).val env st = .ok d st' → ∃ xs, d = .lst xs := fun env st d st' h => by
  have h : ((args ss env st).bind fun ds st => O.ok (G.D.lst ds) st) = .ok d st' := h
  cases e : args ss env st with
  | ok ds st1 => rw [e] at h; cases h; exact ⟨_, rfl⟩
  | ex c fs st1 => rw [e] at h; cases h
  | bad => rw [e] at h; cases h
section
variable {pt : G.PT} {Y : Wd} {Γ : Ctx} {k : Nat} {N : List PySem.Str} {X : Cx} {W : WX} {sc scope : Scope} {Ow0 : List Addr}
variable {fr : Bool} (B : Eb pt Y Γ k N X W sc Ow0 fr)
variable {x y z : PySem.Str} {i j l : Nat} {pos pos' p p2 p3 apos cpos : Pos} {e a b c o tg : Expr} {es vs : List Expr} {s sa sb sc' so : G.Sem} {ss : List G.Sem} {str ra rb rc : Bool} {f g : StS} {st : Stmt} {sts sts2 : List Stmt}
include B
theorem s_nil : JSs X B.w [] passS := jss_nil
theorem s_cons (j : JS X B.w st f) (js : JSs X B.w sts g) : JSs X B.w (st :: sts) (seqS f g) := jss_cons j js
theorem s_bads : JSs X B.w sts badS := jss_bad
theorem s_frzs (i : Nat) (j : JSs X B.w sts f) : JSs X B.w sts (frzS i f) := jss_frz i j
theorem s_pass : JS X B.w (.Pass pos) passS := js_pass
theorem s_ret (hw : fr = false) (j : JE X Y.T Y.xf W e s true) : JS X B.w (.Return (some e) pos) (retS s) := js_ret hw j
theorem s_ex (h : noComp e = true) (j : JE X Y.T Y.xf W e s str) : JS X B.w (.Expr e pos) (exS s) := js_ex h j
theorem s_if (jc : JE X Y.T Y.xf W c s str) (ja : JSs X B.w sts f) (jb : JSs X B.w sts2 g) : JS X B.w (.If c sts sts2 pos) (ifS s f g) := js_if jc ja jb
theorem s_for {pt0 : Pt} (hf : plainE e = true) (j : JI X Y.T Y.xf W tg e s true) (t : PG X tg (tPt Y.T Ow0 pt0)) (jb : JSs X B.w sts f) : JS X B.w (.For tg e sts [] pos) (forS pt0 s f) := js_for B.S hf j t jb
theorem s_whl (jc : JE X Y.T Y.xf W c s str) (jb : JSs X B.w sts f) : JS X B.w (.While c sts [] pos) (whlS s f) := js_while B.S jc jb
theorem s_app (h : nmB N sc i x = true) (he : plainE e = true) (hl : (apos.endLine == cpos.line) = true) (j : JE X Y.T Y.xf W e s true) : JS X B.w (.Expr (.Call (.Attribute (.Name x p) "append" apos) [e] [] cpos) pos) (appS i s) :=
  js_app he hl (L2.pe_var (by rw [B.M.eN]; exact (nm_ok h).1) (by rw [B.M.eS]; exact (nm_ok h).2.1) (nm_ok h).2.2.1 (nm_ok h).2.2.2) j
theorem s_aug {op : Op2} {q : Operator} (h : locB N sc i x = true) (ho : (op = .add ∧ q = .Add) ∨ (op = .sub ∧ q = .Sub)) (j : JE X Y.T Y.xf W e s str) : JS X B.w (.AugAssign (.Name x p) q e pos) (augS i op s) := js_aug (B.nml h) ho j
theorem s_nm (h : locB N sc i x = true) (hc : noComp e = true) (j : JE X Y.T Y.xf W e s true) : JS X B.w (.Assign [.Name x p] e pos) (nmS i s) :=
  js_asg (noComp_swaps hc _ _ _) (.inl rfl) rfl j (jt_nm (B.nml h))
theorem s_own (h : locB N sc i x = true) (hc : noComp e = true) (j : JF X Y.T Y.xf W e s) : JS X B.w (.Assign [.Name x p] e pos) (ownS i s) := js_own (B.nml h) (noComp_swaps hc _ _ _) j
def lcB (sc scope : Scope) (y : PySem.Str) : Bool := decide (sc.kind = .function) && (kindB sc y .local && !(scope.names.any fun x => match x with
  | (n, k) => n == y && (k == NameKind.local || k == NameKind.cell)))
theorem sw_lc {elt : Expr} {gs : List Comprehension} {cp py : Pos} {y : PySem.Str} {n : Nat} (h : lcB sc scope y = true) (hl : (py.line == cp.line) = true) : swapsWith (.ListComp elt gs scope cp) (some (.Name y py)) n X.env = pure true := by
  obtain ⟨h1, h⟩ := He.ba h
  obtain ⟨h2, h3⟩ := He.ba h
  exact L2.sw_true (by rw [B.M.eS]; exact of_decide_eq_true h1) (by rw [B.M.eS]; exact kind_ok h2) hl (nB h3)
theorem s_lcN {elt iter : Expr} {ifs : List Expr} {sI sE : G.Sem} {p0 : Pt} {own : List (PySem.Str × Nat)} {rI : Bool} {py spos : Pos} (h : locB N sc i y = true) (hl : lcB sc scope y = true) (hl2 : (py.line == pos.line) = true) (L : LcOk X Y.T Y.xf W N sc scope elt tg iter ifs own sI sE p0 ss rI) :
    JS X B.w (.Assign [.Name y py] (.ListComp elt [⟨tg, iter, ifs, 0⟩] scope pos) spos) (nmS i (lcE sI sE (own.map (·.2)) p0 ss)) :=
  js_lcN B.S.toCxC (B.nml h) (by rw [B.M.eS]; exact kind_ok (He.ba (He.ba hl).2).1) (sw_lc B hl hl2) L
theorem p_nmB {pos : Pos} (h : locB N sc i x = true) : PG X (.Name x pos) (tPt Y.T Ow0 (.nm i)) := pt_nm (B.nml h)
theorem t_sub (hb : plainE b = true) (ja : JE X Y.T Y.xf W a sa true) (j : JE X Y.T Y.xf W b sb true) : JT X B.w (.Subscript a b pos) (subR sa sb) := jt_sub hb ja j
theorem s_tg {f : D → StS} (hc : noComp e = true) (ht : isTup tg = false ∨ isTup e = false) (he : (assignEach [tg] X.env).map (·.2) = [assign tg X.env]) (j : JE X Y.T Y.xf W e s true) (t : JT X B.w tg f) : JS X B.w (.Assign [tg] e pos) (tgS f s) :=
  js_asg (noComp_swaps hc _ _ _) ht he j t
theorem s_unp {fs : List (D → StS)} {m : Nat} (hc : noComp e = true) (ht : isTup e = false) (j : JE X Y.T Y.xf W e s true) (t : JTs X B.w es fs) : JS X B.w (.Assign [.Tuple es m p] e pos) (unpS fs s) := js_unp B.S.toCxC hc ht j t
theorem s_par2 {px py : Pos} {kt k2 : Nat} {oi oj : Bool} (hi : locB N sc i x = true) (hj : locB N sc j y = true) (hij : i ≠ j) (hx : kindB sc x .local = true) (hy : kindB sc y .local = true) (hw : swappedStores [.Tuple [.Name x px, .Name y py] kt p] (.Tuple [a, b] k2 p2) (envS sc) = pure (some [x, y])) (js : JOs X Y.T Y.xf W [oi, oj] [a, b] ss) :
    JS X B.w (.Assign [.Tuple [.Name x px, .Name y py] kt p] (.Tuple [a, b] k2 p2) pos) (parS [(oi, i), (oj, j)] ss) :=
  js_par2 B.S.calm (B.nml hi) (B.nml hj) hij (by rw [B.M.eS]; exact kind_ok hx) (by rw [B.M.eS]; exact kind_ok hy) ((sw_env B.M.eS).trans hw) js
theorem s_parN {kt k2 : Nat} {ts : List (Bool × Nat)} (hw : swappedStores [.Tuple es kt p] (.Tuple vs k2 p2) (envS sc) = pure none) (hs : Nat.ble ts.length 1000 = true) (hn : NmLs X es ts) (js : JOs X Y.T Y.xf W (ts.map (·.1)) vs ss) : JS X B.w (.Assign [.Tuple es kt p] (.Tuple vs k2 p2) pos) (parS ts ss) :=
  js_parN B.S.calm ((sw_env B.M.eS).trans hw) (Nat.le_of_ble_eq_true hs) hn js
theorem s_fld (f : Nm) (hx : nmOf pt.nms f = x) (hc : noComp e = true) (jo : JE X Y.T Y.xf W o so true) (j : JE X Y.T Y.xf W e s true) : JS X B.w (.Assign [.Attribute o x p] e pos) (fldS Γ f so s) :=
  js_fld B.S.toCxG rfl B.M.eKY B.F.gam (by show Y.T.nm f = x; rw [B.F.st.t_nm]; exact hx) (noComp_swaps hc _ _ _) jo j
theorem s_raise (cc : Nat) {fn : Nm} {t : XcT} (h : pt.exs[cc]? = some t) (hf : t.q.field = [fn]) (hx : t.x = x) (hd : debB x = true) (hg : glbB sc x = true) (hpl : plainE e = true) (j : JE X Y.T Y.xf W e s true) :
    JS X B.w (.Raise (some (.Call (.Name x p) [e] [] cpos)) none pos) (raiseS Γ cc [s]) := by
  subst hx
  have h1 := all_at B.F.st.cs.2.2.2.1 h
  exact js_raise B.S B.M (B.F.at_x h) hf (by rw [B.F.st.exf]; simp only [xfOf, h, hf]) (by rw [B.F.st.t_nm]) (B.F.st.t_exc h) (B.F.err h hf) (Nat.le_refl _) (B.gl hg) (B.F.st.gl (He.ba h1).1) (nB hd) hpl j
end
end G
namespace G
open PySem PySem.Spec PyProof.Rows
open L2 (V Hp HO upd SqL SqT Rd VK XK TE TT TA TI TS TG TGs Ends WX Cx PE PT PA PI PS PSs PG PGs Inv OpR CallR RelV Vals R2 PC PW Gl Room FunD Binds PK FunD)
open L2N (Takes Zn)
section
variable {pt : G.PT} {Y : Wd} {Γ : Ctx} {k : Nat} {N : List PySem.Str} {X : Cx} {sc : Scope} {Ow0 : List Addr} {fr : Bool}
theorem EnH.gl (E : EnH pt Y Γ k N X sc) {x : PySem.Str} (h : glbB sc x = true) : Gl X x := by
  show X.env.scope.names.lookup x = some .globalImplicit
  rw [E.M.eS]
  exact kind_ok h
theorem EnH.mg0 (E : EnH pt Y Γ k N X sc) {x : PySem.Str} (h : pt.free.contains x = true) : X.mg x = none := by rw [E.M.em]; exact E.F.st.free h
variable (E : EnH pt Y Γ k N X sc)
include E
variable {x y : PySem.Str} {i j : Nat} {pos p p2 py apos cpos : Pos} {e a b c o : Expr} {es : List Expr} {s sa sb sc' : G.Sem} {ss : List G.Sem} {str ra rb rc : Bool} {f g : StS} {st : Stmt} {sts sts2 : List Stmt}
end
end G
namespace G
open PySem PySem.Spec PyProof.Rows
open L2 (V Hp HO upd SqL SqT Rd VK XK Inv RelV Vals Gl Room Env0 Mod HOk FunD Binds)
theorem law_glue {l : PySem.W.OpenLaw} {pt : PT} {nH n iL k : Nat} {q : Program} {loose : List PySem.Str} {XP : (PySem.Str → Option Value) → Heap → Prop} {d : DefRec} {dL : Df} {x : PySem.Str}
    (hn : l.most = some 63) (hdf : d.params.defaults = []) (hr : Room (2 * n + 1) callerA) (hL : pt.defs[iL]? = some dL) (pL : dL.pa = .glo d.name) (sL : dL.ps = [x])
    (ok : ∀ d ∈ pt.defs, DfOk pt d) (xok : XOk pt) (ht : ∀ ns : List Int, ns.length ≤ 63 → Trues (pt.call n iL) ns) (vL : dL.dv = false) :
    PySem.W.WalkO q loose XP (hookP nH pt).says l.row.toRowW d [] (fun f vs => PySem.call f vs) := by
  refine walk_ofG (x := x) (k := 2 * n + 1) (c := pt.call n iL) hn (by decide +kernel) hdf hr (fun w mg fa h Y hns hmg => ?_) ht
  obtain ⟨K, KX, says, htab⟩ := Y
  have S0 : St pt ⟨l.prog, w, K, mg, h, tbOf pt K, xfOf pt⟩ := ⟨rfl, rfl, KX, hns, says⟩
  have eg := S0.fn_gl hL pL
  have e2 : fa = dL.pa.ad K := by
    have := hmg.symm.trans eg
    cases this
    rfl
  subst e2
  obtain ⟨fd, D⟩ := S0.fd hL
  have e0 : dL.dvs K = [] := by unfold Df.dvs; rw [vL]
  have hb := FunD.bindsA (ps := [x]) (by rw [← e0]; exact D) (by have b := (ok dL (List.mem_of_getElem? hL)).bd; rw [sL] at b; exact b)
  obtain ⟨hc1, hc2⟩ := He.ba S0.chkT
  have Z : TabsAt h K (tbOf pt K) (pt.tabs.map fun i => (cAd K (pt.dAd K i), tabAd K (pt.dAd K i))) := by
    refine ⟨fun p hp => ?_, fun p hp => ?_, fun p hp => ?_, ?_, ?_⟩
    · obtain ⟨i, hi, rfl⟩ := List.mem_map.mp hp
      exact htab i hi
    · obtain ⟨i, hi, rfl⟩ := List.mem_map.mp hp
      have h3 := (He.ba (He.ba (List.all_eq_true.mp hc1 i hi)).2).2
      cases e : K.lookup (tabAd K (pt.dAd K i)) with
      | none => rfl
      | some o => exact absurd h3 (by show ¬ (match K.lookup (tabAd K (pt.dAd K i)) with | none => true | some _ => false) = true; rw [e]; simp)
    · obtain ⟨i, hi, rfl⟩ := List.mem_map.mp hp
      exact PySem.W.codeHd_of_K KX (He.ba (He.ba (List.all_eq_true.mp hc1 i hi)).2).1
    · simp only [tbOf, List.map_map]; rfl
    · have := of_decide_eq_true hc2
      rw [List.map_map]
      exact this
  refine ⟨K, tbOf pt K, xfOf pt, fd, _, KX, rfl, Z, fun s u => hb s [u] rfl, fun base KB hbs TB => ?_⟩
  have S : St pt ⟨l.prog, w, K, mg, base, tbOf pt K, xfOf pt⟩ := ⟨rfl, rfl, KB, hbs, says⟩
  obtain ⟨fd2, D2, _, G0⟩ := (all_ok ok xok S rfl (fun i hi => TB (cAd K (pt.dAd K i), tabAd K (pt.dAd K i)) (List.mem_map.mpr ⟨i, hi, rfl⟩)) n).fn iL dL hL
  obtain ⟨oc, od, dV, kV, doc, pm, an, cdv, ct, osl, rfl, lk, _⟩ := D.ex
  obtain ⟨oc2, od2, dV2, kV2, doc2, pm2, an2, cdv2, ct2, osl2, rfl, lk2, _⟩ := D2.ex
  have el := lk.symm.trans lk2
  rw [sL] at G0
  injection el with el
  injection el with _ _ e3
  injection e3 with e3
  rw [e3]
  exact G0
theorem al_nil {α : Type} {P : α → Prop} : ∀ d ∈ ([] : List α), P d := fun _ h => by cases h
theorem al_cons {α : Type} {P : α → Prop} {a : α} {l : List α} (h : P a) (hs : ∀ d ∈ l, P d) : ∀ d ∈ a :: l, P d := fun d hd => by
  rcases List.mem_cons.mp hd with e | hd
  · rw [e]; exact h
  · exact hs d hd
end G
namespace G
open PySem PySem.Spec PyProof PyProof.Rows
end G
namespace G
open PySem PySem.Spec PyProof.Rows
open L2 (V Hp HO upd SqL SqT Rd VK XK TE TT TA TI TS TG TGs Ends WX Cx PE PT PA PI PS PSs PG PGs Inv OpR CallR RelV Vals R2 PC PW Gl)
end G
namespace G
open PySem PySem.Spec PyProof.Rows
open L2 (V Hp HO upd SqL SqT Rd VK XK TE TT TA TI TS TG TGs Ends WX Cx PE PT PA PI PS PSs PG PGs Inv OpR CallR RelV Vals R2 PC PW Gl)
end G
namespace G
open PySem PySem.Spec PyProof.Rows
open L2 (V Hp HO upd SqL SqT Rd VK XK TE TT TA TI TS TG TGs Ends WX Cx PE PT PA PI PS PSs PG PGs Inv OpR CallR RelV Vals R2 PC PW Gl Room FunD Binds PK)
end G
namespace G
open PySem PySem.Spec PyProof.Rows
open L2 (V Hp HO upd SqL SqT Rd VK XK TE TT TA TI TS TG TGs Ends WX Cx PE PT PA PI PS PSs PG PGs Inv OpR CallR RelV Vals R2 PC PW Gl Room FunD Binds PK)
end G
namespace G
open PySem PySem.Spec PyProof.Rows
open L2 (V Hp HO upd SqL SqT Rd VK XK TE TT TA TI TS TG TGs Ends WX Cx PE PT PA PI PS PSs PG PGs Inv OpR CallR RelV Vals R2 PC PW Gl Room FunD Binds PK)
end G
namespace G
open PySem PySem.Spec PyProof PyProof.Rows
end G
namespace G
open PySem PySem.Spec PyProof.Rows
open L2 (V Hp HO upd SqL SqT Rd VK XK TE TT TA TI TS TG TGs Ends WX Cx PE PT PA PI PS PSs PG PGs Inv OpR CallR RelV Vals R2 PC PW Gl Room)
end G
namespace G
open PySem PySem.Spec PyProof.Rows
open L2 (V Hp HO upd SqL SqT Rd VK XK TE TT TA TI TS TG TGs Ends WX Cx PE PT PA PI PS PSs PG PGs Inv OpR CallR RelV Vals R2 PC PW Gl)
end G
namespace G
open PySem PySem.Spec PyProof.Rows
open L2 (V Hp HO upd SqL SqT Rd VK XK TE TT TA TI TS TG TGs Ends WX Cx PE PT PA PI PS PSs PG PGs Inv OpR CallR RelV Vals R2 PC PW Gl)
end G
namespace G
end G
namespace G
open PySem PySem.Spec PyProof.Rows
open L2 (V Hp HO upd SqL SqT Rd VK XK TE TT TA TI TS TG TGs Ends WX Cx PE PT PA PI PS PSs PG PGs Inv OpR CallR RelV Vals R2 PC PW Gl)
end G
namespace G
open PySem PySem.Spec PyProof.Rows
open L2 (V Hp HO upd SqL SqT Rd VK XK TE TT TA TI TS TG TGs Ends WX Cx PE PT PA PI PS PSs PG PGs Inv OpR CallR RelV Vals R2 PC PW Gl Room FunD Binds PK)
section
variable {X : Cx} {Y : Wd} {W : WX} {N : List PySem.Str} {sc : Scope} {n k : Nat} {Γ : Ctx} {o : Expr} {so : G.Sem} {apos pos : Pos} {x : PySem.Str}
theorem je_meK {c : Nat} {m : Nm} {q : Cl} {f : Nat} {pl : PySem.Sem Bool} {fa : Addr} {fd : FuncData} {ps ks : List PySem.Str} {is : List Nat} {kws : List Keyword} {ss : List G.Sem} (M : CxY X Y W N sc n) (O : GamOk Y Γ k) (hq : Γ.cls c = some q) (hm : q.meths.lookup m = some f)
    (hM : L2.Meth Y.K (Y.T.cls c) (Y.T.nm m) fa) (F : FnG Y k fa fd ps (Γ.call f)) (hb : BdM Y.K fd ps ks is) (hno : m ∉ q.fields) (hk : k ≤ n) (hx : Y.T.nm m = x)
    (jo : JE X Y.T Y.xf W o so true) (js : JKs X Y.T Y.xf W kws ks ss)
    (ht : eval (.Call (.Attribute o x apos) [] kws pos) X.env = (do
      let ov ← eval o X.env
      standAt apos.atName
      let (f, first) ← holding [ov] (getMethod ov x pl)
      callWith pos f first (backTo pos (starEach [] X.env)) (backToKw pos (keywordEach kws X.env)))) :
    JE X Y.T Y.xf W (.Call (.Attribute o x apos) [] kws pos) (meKE Γ c m so is ss) true := by
  subst hx
  refine .of M.toCxG ⟨fun pins s0 σ H Q I ⟨env, st, ρ, Ow, en, sr, po⟩ => ?_⟩
  obtain ⟨h5, h6⟩ := O.cls c q hq
  have h1 : tVal Y.T Y.xf W true so.val σ H fun v H1 => ∃ a dx fs, v = .ref a ∧ H1 a = some (.ins (Y.T.cls c) dx fs) ∧ fs.lookup (Y.T.nm m) = none ∧
      tArg Y.T Y.xf W (args ss) σ H1 fun vs H2 => vs.length = ss.length ∧ Want Y.T Y.xf (Γ.call f) (.ref a :: pick .non is vs) H2 Q (L2.WE W σ) := by
    refine ⟨env, st, ρ, Ow, en, sr, (Post.bind po).mono fun d st1 H1 ρ1 e1 s1 q1 v r => ?_⟩
    have r' : RV Y.T H1 ρ1 Ow v d := r
    have q2 : Post ⟨Y.T, Y.xf, W, σ⟩ H1 ρ1 Ow (fun d _ H' ρ' => ∀ v, RX true Y.T H' ρ' Ow v d → Q v H') (meKV Γ c m is ss env d st1) := q1
    have nolook : ∀ (gs : List PySem.Str) (vs : List V), (∀ g ∈ gs, g ≠ Y.T.nm m) → (gs.zip vs).lookup (Y.T.nm m) = none := by
      intro gs
      induction gs with
      | nil => intro vs _; rfl
      | cons g gs ih =>
        intro vs hg
        cases vs with
        | nil => rfl
        | cons v vs =>
          rw [List.zip_cons_cons, List.lookup_cons, beq_false_of_ne (Ne.symm (hg g (by simp)))]
          exact ih vs fun z hz => hg z (by simp [hz])
    cases d with
    | obj b fs2 =>
      by_cases hbc : b = c
      · subst hbc
        have em : ((Γ.cls b).bind fun k => k.meths.lookup m) = some f := by rw [hq]; exact hm
        have e2 : meKV Γ b m is ss env (.obj b fs2) st1 = (args ss env st1).bind fun ds st => Γ.call f (.obj b fs2 :: pick .non is ds) st := by
          unfold meKV
          rw [em]
          exact if_pos rfl
        rw [e2] at q2
        cases r' with
        | @obj a dx _ vs _ qd n1 n2 z rs =>
          refine ⟨a, dx, _, rfl, qd, nolook _ _ fun g hg e => ?_, env, st1, ρ1, Ow, en.ext e1 sr.disj, s1, (Post.bind q2).eqn.mono fun ds st2 H2 ρ2 e2 s2 q3 vs2 rs2 => ?_⟩
          · obtain ⟨f0, hf0, rfl⟩ := List.mem_map.mp hg
            rw [O.inj _ _ e] at hf0
            rw [h5] at hf0
            exact hno hf0
          · obtain ⟨eq, q3⟩ := q3
            refine ⟨by rw [rs2.length, args_len eq], st2, ρ2, Ow, _, s2, .cons (RV.ext e2 (.obj qd n1 n2 z rs)) (pick_rvs rs2), ?_⟩
            cases hc : Γ.call f (.obj b fs2 :: pick .non is ds) st2 with
            | ok d2 st3 => rw [hc] at q3; exact q3
            | ex c2 fs2 st3 => rw [hc] at q3; exact q3
            | bad => rw [hc] at q3; exact q3
      · have e2 : meKV Γ c m is ss env (.obj b fs2) st1 = .bad := if_neg hbc
        rw [e2] at q2; exact q2.elim
    | _ => exact q2.elim
  refine PySem.W.methodCall_KW (pl := pl) (L2.thn (jo.val.run pins s0 σ H _ I h1) fun u s1 ⟨v, H1, I1, rv, a, dx, fs, ev, ha, hl, q⟩ => ?_) ht
  subst ev
  obtain rfl : u = Value.ref a := rv
  have hM' : L2.Meth X.K (Y.T.cls c) (Y.T.nm m) fa := by rw [M.eKY]; exact hM
  refine L2.getmeth_ok I1 ha (by rw [M.eKY]; exact h6.cls) hM' hl ?_
  obtain ⟨n1, n2, n3⟩ := kw_names (pos := pos) js
  refine PySem.W.callWith_KW0 (first := [.ref a]) (h₀ := X.base) I.ok.mod.kin hM'.kp n1 ?_ (by rw [n3]; rfl)
  refine L2.thn ((pk_args js).run pos pins s1 σ H1 _ I1 q) fun us s2 ⟨vs, H2, I2, r, z1, z2⟩ => ⟨I2.kIn, ?_⟩
  rw [n2]
  have z1' : vs.length = ks.length := by rw [z1, js.len]
  exact run_fnG (us := .ref a :: pick .none is us) (vs := .ref a :: pick .non is vs) M F hk (hb.to s2 (.ref a) us (by rw [← M.eKY]; exact I2.kIn) (by rw [← r.length]; exact z1')) I2 (.cons rfl (pick_vals r)) (by rw [List.length_cons, pick, List.length_map]; have := hb.len; omega) z2
end
section
variable {pt : G.PT} {Y : Wd} {Γ : Ctx} {k : Nat} {N : List PySem.Str} {X : Cx} {W : WX} {sc : Scope} {o : Expr} {so : G.Sem} {apos pos : Pos} {x : PySem.Str} {ss : List G.Sem}
variable (E : En pt Y Γ k N X W sc)
include E
theorem r_meK (cc : Nat) (m : Nm) (f : Nat) (is : List Nat) {t : ClT} {d : Df} {pl : PySem.Sem Bool} {kws : List Keyword} {ks : List PySem.Str} (h : pt.cls[cc]? = some t) (hm : t.cl.meths.lookup m = some f) (hd : pt.defs[f]? = some d) (hno : t.cl.fields.contains m = false) (hx : nmOf pt.nms m = x)
    (hb : ∀ fd, FunD Y.K d.name d.qual d.params d.body d.scope (d.dvs Y.K) [] (d.pa.ad Y.K) fd → BdM Y.K fd d.ps ks is)
    (jo : JE X Y.T Y.xf W o so true) (js : JKs X Y.T Y.xf W kws ks ss)
    (ht : eval (.Call (.Attribute o x apos) [] kws pos) X.env = (do
      let ov ← eval o X.env
      standAt apos.atName
      let (f, first) ← holding [ov] (getMethod ov x pl)
      callWith pos f first (backTo pos (starEach [] X.env)) (backToKw pos (keywordEach kws X.env)))) : JE X Y.T Y.xf W (.Call (.Attribute o x apos) [] kws pos) (meKE Γ cc m so is ss) true := by
  obtain ⟨h1, d', e1, e2⟩ := (E.F.st.cl h).meth _ (mem_lookup hm)
  rw [hd] at e1
  cases e1
  obtain ⟨fd, D, B, G0⟩ := E.F.fn _ d hd
  have b := hb fd D
  rw [e2] at G0
  exact je_meK E.M E.F.gam (E.F.at_c h) hm (by rw [E.F.st.t_cls h, E.F.st.t_nm]; exact He.meth_ok h1) G0 b (fun hmem => by
    have := List.contains_iff_mem.mpr hmem
    rw [hno] at this; cases this) (Nat.le_succ k) (by rw [E.F.st.t_nm]; exact hx) jo js ht
end
end G
namespace G
open PySem PySem.Spec PyProof.Rows
open L2 (V Hp HO upd SqL SqT Rd VK XK TE TT TA TI TS TG TGs Ends WX Cx PE PT PA PI PS PSs PG PGs Inv OpR CallR RelV Vals R2 PC PW Gl FpOk PTs BlkOk EP tLc)
open L2H (PIH HotC)
section
variable {X : Cx} {T : Tb} {xf : Nat → List Nm} {W : WX} {N : List PySem.Str} {sc scope : Scope} {n : Nat} {a tg elt : Expr} {p pos : Pos} {x : PySem.Str} {i : Nat} {e : PySem.Obj}
end
end G
namespace L2
open PySem PySem.Spec PyProof.Rows
end L2
namespace G
open PySem PySem.Spec PyProof.Rows
open L2 (V Hp HO upd SqL SqT Rd VK XK TE TT TA TI TS TG TGs Ends WX Cx PE PT PA PI PS PSs PG PGs Inv OpR CallR RelV Vals R2 PC PW Gl Room FunD Binds PK)
end G
namespace G
section
open PySem PySem.W PySem.Calls Builtin
variable {prog : Program} {w : World} {A : Around} {E : Value → Shared → Prop} {K : Frag} {s : Shared} {x C : Addr} {ox : PySem.Obj} {od : Option PySem.Obj}
theorem kbn_call {Q : Value → Shared → Prop} (X : K.In s.heap) (I : InstAt s.heap x ox C od) (hb : findIn K (.ref C) "__bool__" = some none) (hl : findIn K (.ref C) "__len__" = some none)
    (h : Q (.bool true) s) : wpAny (model prog w) A (call (.type "bool") [.ref x]) Q E s := by
  refine callType_codes (T := "bool") (Bi := Builtin.«object.__init__») (Q₁ := fun r s₁ => ∃ y, r = .bool y ∧ Q r s₁) PySem.F.called_bool (PySem.F.typeCall_bool_1 _) PySem.F.entry_object_init ?_ ?_
  · refine codeAny_of_tree ?_
    show wpAny _ A.in1.in1 (do checkBuiltinCall "bool.__new__" ⟨[.type "bool", .ref x], []⟩; again (.builtin "bool.__new__" ⟨[.type "bool", .ref x], []⟩)) _ _ s
    refine wpAny_bind (wpAny_of_eq (PySem.F.newCall_bool_1 _) (wpAny_pure ⟨plainId_quiet (by decide +kernel) _, codeAny_builtin PySem.F.entry_bool_new ?_⟩))
    rw [Around.under_plainId (by decide +kernel) _]
    unfold Builtin.«bool.__new__»
    refine wpAny_bind (wpAny_pure ?_)
    refine wpAny_bind (wpAny_of_eq PySem.F.sub_bool_bool ?_)
    refine wpAny_bind (m := someArgs "bool" 0 1 { pos := [.ref x], kw := [] : Args }) (wpAny_pure ?_)
    have hsp : ∀ {Q' : Option Value → Shared → Prop} {E' : Value → Shared → Prop}, Q' none s → wpAny (model prog w) A.in1.in1 (specialOf (.ref x) "__len__") Q' E' s := fun q => by
      unfold specialOf
      exact wpAny_bind (I.type.here ((looks_findIn X hl).here q))
    refine wpAny_bind (m := truthy (.ref x)) ?_
    unfold truthy
    refine wpAny_bind (DSub.special_no (name := Str.ofString "__bool__") X I hb ?_)
    first
    | refine wpAny_bind (hsp ?_)
    | refine wpAny_bind (wpAny_pure (wpAny_bind (hsp ?_)))
    exact wpAny_pure (wpAny_pure ⟨_, rfl, h⟩)
  · rintro obj s₁ ⟨y, rfl, hq⟩
    exact ⟨typeIs_bool _ _, PySem.F.args_object_init_2 _ _, object_init_meets PySem.F.called_bool.init.lookup PySem.F.called_bool.made (by decide) prog w A.in1 _ s₁ ⟨typeIs_bool _ _, rfl, hq⟩⟩
end
open PySem PySem.Spec PyProof.Rows
open L2 (V Hp HO upd SqL SqT Rd VK XK TE TT TA TI TS TG TGs Ends WX Cx PE PT PA PI PS PSs PG PGs Inv OpR CallR RelV Vals R2 PC PW Gl Room)
section
variable {X : Cx} {Y : Wd} {W : WX} {N : List PySem.Str} {sc : Scope} {n k : Nat} {Γ : Ctx} {e : Expr} {p pos : Pos} {s : G.Sem} {str : Bool}
def rBoolN (T : Tb) (c : Nat) : List V → Hp → VK → Prop := fun xs H Q => ∃ a dx gs, xs = [.ref a] ∧ H a = some (.ins (T.cls c) dx gs) ∧ Q (.bl true) H
theorem cr_boolN {c : Nat} (eK : X.K = Y.K) (hb : PySem.W.findIn Y.K (.ref (Y.T.cls c)) "__bool__" = some none) (hl : PySem.W.findIn Y.K (.ref (Y.T.cls c)) "__len__" = some none) : CallR X (.type "bool") (rBoolN Y.T c) := by
  intro pins s σ H xs us Q I r ⟨a, dx, gs, ex, ha, hq⟩
  subst ex
  rw [L2.Vals.ref1 r]
  obtain ⟨mA, O, _, _, _, _⟩ := L2.ins_get I.hok ha
  obtain ⟨od, J, _⟩ := O.look
  exact kbn_call I.kIn J (by rw [eK]; exact hb) (by rw [eK]; exact hl) ⟨.bl true, H, I, rfl, hq⟩
theorem je_boolN {c : Nat} (M : CxY X Y W N sc n) (hb : PySem.W.findIn Y.K (.ref (Y.T.cls c)) "__bool__" = some none) (hl : PySem.W.findIn Y.K (.ref (Y.T.cls c)) "__len__" = some none) (hg : Gl X "bool") (hmg : X.mg "bool" = none) (h : plainE e = true) (j : JE X Y.T Y.xf W e s str) :
    JE X Y.T Y.xf W (.Call (.Name "bool" p) [e] [] pos) (boolNE c s) true :=
  .of M.toCxG (PE.imp (L2.pe_callTy (cr_boolN M.eKY hb hl) hg hmg (bi_blt .bool) (L2.pa_cons j.val L2.pa_nil (plain_star h _ _)) (by decide) (by decide) (plain_star h _ _) (by rfl)) fun σ H Q ⟨env, st, ρ, Ow, en, sr, po⟩ => by
    refine ⟨env, st, ρ, Ow, en, sr, (Post.bind po).mono fun d st1 H1 ρ1 e1 s1 q0 v r => ?_⟩
    unfold boolNV at q0
    cases ho : objv st1 d with
    | none => rw [ho] at q0; exact q0.elim
    | some bf =>
      obtain ⟨b0, fs⟩ := bf
      rw [ho] at q0
      simp only [] at q0
      split at q0
      · rename_i hbc
        subst hbc
        obtain ⟨a0, dx0, gs, rfl, ha, ry'⟩ := obj_at s1 r.w ho
        refine ⟨a0, dx0, gs, rfl, ha, ?_⟩
        exact q0 H1 ρ1 (Ext.refl _ _) s1 _ (RV.bl true)
      · exact q0.elim)
end
section
variable {pt : G.PT} {Y : Wd} {Γ : Ctx} {k : Nat} {N : List PySem.Str} {X : Cx} {W : WX} {sc : Scope} {e : Expr} {p pos : Pos} {s : G.Sem}
variable (E : En pt Y Γ k N X W sc)
include E
theorem r_boolN (cc : Nat) {t : ClT} (h : pt.cls[cc]? = some t) (hb : t.cl.meths.lookup n_bool = none) (hl : t.cl.meths.lookup n_len = none) (hg : glbB sc "bool" = true) (hmg : pt.free.contains ("bool" : PySem.Str) = true) (hp : plainE e = true) (j : JE X Y.T Y.xf W e s true) :
    JE X Y.T Y.xf W (.Call (.Name "bool" p) [e] [] pos) (boolNE cc s) true := je_boolN E.M (E.F.st.nob h hb hl).1 (E.F.st.nob h hb hl).2 (E.gl hg) (E.mg0 hmg) hp j
end
end G
namespace G
open PySem PySem.Spec PyProof.Rows
end G
namespace G
open PySem PySem.Spec PyProof.Rows
open L2 (V Hp HO upd SqL SqT Rd VK XK TE TT TA TI TS TG TGs Ends WX Cx PE PT PA PI PS PSs PG PGs Inv OpR CallR RelV Vals R2 PC PW Gl It Turn FpOk)
section
variable {X : Cx} {T : Tb} {xf : Nat → List Nm} {W : WX} {N : List PySem.Str} {sc : Scope} {n : Nat} {e k a b tg : Expr} {p p2 pos pos' : Pos} {str : Bool} {s t sa sb : G.Sem}
end
end G
namespace G
open PySem PySem.Spec PyProof.Rows
open L2 (V Hp HO upd SqL SqT Rd VK XK TE TT TA TI TS TG TGs Ends WX Cx PE PT PA PI PS PSs PG PGs Inv OpR CallR RelV Vals R2 PC PW Gl Room FunD Binds PK)
end G
namespace G
open PySem PySem.Spec PyProof.Rows
open L2 (V Hp HO upd SqL SqT Rd VK XK TE TT TA TI TS TG TGs Ends WX Cx PE PT PA PI PS PSs PG PGs Inv OpR CallR RelV Vals R2 PC PW Gl It Turn FpOk)
end G
namespace G
open PySem PySem.Spec PyProof.Rows
open L2 (V Hp HO upd SqL SqT Rd VK XK TE TT TA TI TS TG TGs Ends WX Cx PE PT PA PI PS PSs PG PGs Inv OpR CallR RelV Vals R2 PC PW Gl Room FunD Binds PK)
end G
namespace G
open PySem PySem.Spec PyProof.Rows
open L2 (V Hp HO upd SqL SqT Rd VK XK TE TT TA TI TS TG TGs Ends WX Cx PE PT PA PI PS PSs PG PGs Inv OpR CallR RelV Vals R2 PC PW Gl It Turn FpOk)
end G
namespace G
open PySem PySem.Spec PyProof.Rows
open L2 (V Hp HO upd SqL SqT Rd VK XK TE TT TA TI TS TG TGs Ends WX Cx PE PT PA PI PS PSs PG PGs Inv OpR CallR RelV Vals R2 PC PW Gl Room FunD Binds PK)
end G
namespace G
end G
namespace G
end G
namespace G
end G
namespace G
open PySem PySem.Spec PyProof.Rows
open L2 (V Hp HO upd SqL SqT Rd VK XK TE TT TA TI TS TG TGs Ends WX Cx PE PT PA PI PS PSs PG PGs Inv OpR CallR RelV Vals R2 PC PW Gl PET PAT PST PSsT SP thn)
section
variable {X : Cx} {w : WS} {T : Tb} {xf : Nat → List Nm} {W : WX} {N : List PySem.Str} {sc : Scope} {n k i : Nat} {e o a b : Expr} {es : List Expr} {p p2 pos apos cpos : Pos} {s sa sb : G.Sem} {ss : List G.Sem} {str ra rb : Bool} {x : PySem.Str}
end
end G
namespace G
open PySem PySem.Spec PyProof.Rows
open L2 (V Hp HO upd SqL SqT Rd VK XK TE TT TA TI TS TG TGs Ends WX Cx PE PT PA PI PS PSs PG PGs Inv OpR CallR RelV Vals R2 PC PW Gl Room FunD Binds PK)
end G
namespace G
open PySem PySem.Spec PyProof.Rows
open L2 (V Hp HO upd SqL SqT Rd VK XK TE TT TA TI TS TG TGs Ends WX Cx PE PT PA PI PS PSs PG PGs Inv OpR CallR RelV Vals R2 PC PW Gl Room FunD Binds PK)
end G
namespace G
section
open PySem PySem.W PySem.Calls Builtin
variable {prog : Program} {w : World} {A : Around} {E : Value → Shared → Prop} {s : Shared} {K : Frag} {x y C L : Addr} {ox oy : PySem.Obj} {od od' : Option PySem.Obj}
theorem eq_ifBound {Q : Option Value → Shared → Prop} (X : K.In s.heap) (I : InstAt s.heap x ox C od) (hs : findIn K (.ref C) "__eq__" = some (some (.builtin "object.__eq__"))) {args : List Value}
    (h : wpAny (model prog w) A (PySem.call (.builtin "object.__eq__") (.ref x :: args)) (fun v => Q (some v)) E s) : wpAny (model prog w) A (callSpecialIfBound? (.ref x) "__eq__" args) Q E s := by
  simp only [callSpecialIfBound?, bindSpecialIfBound?]
  refine wpAny_holding (wpAny_bind (wpAny_bind (wpAny_bind (I.type.here ((looks_findIn X hs).here ?_)))))
  refine wpAny_bind (wpAny_askSetting (wpAny_ite ?_))
  have fin : wpAny (model prog w) A (PySem.call (.builtin "object.__eq__") ([.ref x] ++ args) >>= fun v => pure (some v)) Q E s := wpAny_bind (wpAny_mono h (fun v s' h' => wpAny_pure h') fun _ _ h' => h')
  have hb : Looks (model prog w) s.heap (bindSpecial (.builtin "object.__eq__") (.ref x)) (.builtin "object.__eq__", [.ref x]) := Looks.of_pure (PySem.F.cmp_object.eq.bind (.ref x))
  split
  · exact wpAny_bind (hb.here (wpAny_pure (by exact fin)))
  · exact wpAny_tryCatch (wpAny_bind (hb.here (wpAny_pure (by exact fin))))
variable (X : K.In s.heap) (I : InstAt s.heap x ox C od) (ho : mroIn K C (.type "object") = some true) (he : findIn K (.ref C) "__eq__" = some (some (.builtin "object.__eq__"))) (hn : findIn K (.ref C) "__ne__" = some (some (.builtin "object.__ne__")))
include X I ho he
theorem spec_eq_same {Q : Option Value → Shared → Prop} (hq : Q (some (.bool true)) s) : wpAny (model prog w) A (callSpecialIfBound? (.ref x) "__eq__" [.ref x]) Q E s := by
  have t2 : Looks (model prog w) s.heap (isInstance (.ref x) (.type "object")) true := I.type.andThen (looks_subIn X ho)
  exact eq_ifBound X I he (wpAny_call (codeAny_call_builtin PySem.F.cmp_object.eq.plain PySem.F.cmpEntry_eq (check_slot PySem.F.cmpKind_eq PySem.F.cmpSplit_eq t2 (PySem.F.cmpArgs_eq _ _) (objEq_entry_same hq))))
theorem spec_eq_other (hxy : x ≠ y) (hy : s.heap.get? y = some oy) {Q : Option Value → Shared → Prop} (hq : Q (some .notImplemented) s) : wpAny (model prog w) A (callSpecialIfBound? (.ref x) "__eq__" [.ref y]) Q E s := by
  have t2 : Looks (model prog w) s.heap (isInstance (.ref x) (.type "object")) true := I.type.andThen (looks_subIn X ho)
  exact eq_ifBound X I he (wpAny_call (codeAny_call_builtin PySem.F.cmp_object.eq.plain PySem.F.cmpEntry_eq (check_slot PySem.F.cmpKind_eq PySem.F.cmpSplit_eq t2 (PySem.F.cmpArgs_eq _ _) (objEq_entry_other hxy I.at_ hy (by rw [I.cls]; intro e; cases e) hq))))
theorem try_eq_same {Q : Option Value → Shared → Prop} (hq : Q (some (.bool true)) s) : wpAny (model prog w) A (tryCompare (.ref x) "__eq__" (.ref x)) Q E s := by
  simp only [tryCompare]
  exact wpAny_bind (spec_eq_same X I ho he (wpAny_pure hq))
theorem try_eq_other (hxy : x ≠ y) (hy : s.heap.get? y = some oy) {Q : Option Value → Shared → Prop} (hq : Q none s) : wpAny (model prog w) A (tryCompare (.ref x) "__eq__" (.ref y)) Q E s := by
  simp only [tryCompare]
  exact wpAny_bind (spec_eq_other X I ho he hxy hy (wpAny_pure hq))
include hn
theorem try_ne_same (hu : A.units + 1 < cLine) {Q : Option Value → Shared → Prop} (hq : Q (some (.bool false)) s) : wpAny (model prog w) A (tryCompare (.ref x) "__ne__" (.ref x)) Q E s := by
  have t2 : Looks (model prog w) s.heap (isInstance (.ref x) (.type "object")) true := I.type.andThen (looks_subIn X ho)
  have hu1 : A.in1.units < cLine := hu
  simp only [tryCompare]
  refine wpAny_bind (ne_ifBound X I hn (wpAny_call (codeAny_call_builtin PySem.F.cmp_object.ne.plain PySem.F.cmpEntry_ne (check_slot PySem.F.cmpKind_ne PySem.F.cmpSplit_ne t2 (PySem.F.cmpArgs_ne _ _) ?_))))
  unfold Builtin.«object.__ne__»
  repeat (first | with_reducible refine wpAny_cRoomFor hu1 ?_ | with_reducible refine spec_eq_same X I ho he ?_ | wp_step)
  exact hq
theorem try_ne_other (hxy : x ≠ y) (hy : s.heap.get? y = some oy) (hu : A.units + 1 < cLine) {Q : Option Value → Shared → Prop} (hq : Q none s) : wpAny (model prog w) A (tryCompare (.ref x) "__ne__" (.ref y)) Q E s := by
  have t2 : Looks (model prog w) s.heap (isInstance (.ref x) (.type "object")) true := I.type.andThen (looks_subIn X ho)
  have hu1 : A.in1.units < cLine := hu
  simp only [tryCompare]
  refine wpAny_bind (ne_ifBound X I hn (wpAny_call (codeAny_call_builtin PySem.F.cmp_object.ne.plain PySem.F.cmpEntry_ne (check_slot PySem.F.cmpKind_ne PySem.F.cmpSplit_ne t2 (PySem.F.cmpArgs_ne _ _) ?_))))
  unfold Builtin.«object.__ne__»
  repeat (first | with_reducible refine wpAny_cRoomFor hu1 ?_ | with_reducible refine spec_eq_other X I ho he hxy hy ?_ | wp_step)
  exact hq
theorem rich_same (op : CmpOp) (neg : Bool) (hop : op = if neg then .NotEq else .Eq) (hu : A.units + 1 < cLine) {Q : Value → Shared → Prop} (hq : Q (.bool (!neg)) s) : wpAny (model prog w) A (richCompare op (.ref x) (.ref x)) Q E s := by
  have hu0 : A.units < cLine := by omega
  subst hop
  cases neg
  · simp only [Bool.false_eq_true, if_false]
    simp only [richCompare, cmpInfo_Eq, oneThing_ref]
    refine wpAny_holding (wpAny_bind (wpAny_cRoomFor hu0 ?_))
    refine wpAny_bind (I.type.here (wpAny_bind (I.type.here ?_)))
    split
    · rename_i q
      simp at q
    · repeat (first | with_reducible refine try_eq_same X I ho he ?_ | wp_step)
      exact hq
  · simp only [if_true]
    simp only [richCompare, cmpInfo_NotEq, oneThing_ref]
    refine wpAny_holding (wpAny_bind (wpAny_cRoomFor hu0 ?_))
    refine wpAny_bind (I.type.here (wpAny_bind (I.type.here ?_)))
    split
    · rename_i q
      simp at q
    · repeat (first | with_reducible refine try_ne_same X I ho he hn hu ?_ | wp_step)
      exact hq
theorem rich_other (op : CmpOp) (neg : Bool) (hop : op = if neg then .NotEq else .Eq) (J : InstAt s.heap y oy C od') (hxy : x ≠ y) (hu : A.units + 1 < cLine) {Q : Value → Shared → Prop} (hq : Q (.bool neg) s) : wpAny (model prog w) A (richCompare op (.ref x) (.ref y)) Q E s := by
  have hu0 : A.units < cLine := by omega
  have nt : ox.cls ≠ .type "tuple" := by rw [I.cls]; intro e; cases e
  subst hop
  cases neg
  · simp only [Bool.false_eq_true, if_false]
    simp only [richCompare, cmpInfo_Eq, oneThing_ref]
    refine wpAny_holding (wpAny_bind (wpAny_cRoomFor hu0 ?_))
    refine wpAny_bind (I.type.here (wpAny_bind (J.type.here ?_)))
    split
    · rename_i q
      simp at q
    · repeat (first | with_reducible refine try_eq_other X I ho he hxy J.at_ ?_ | with_reducible refine try_eq_other X J ho he hxy.symm I.at_ ?_ | with_reducible refine wpAny_isSame_ref_other hxy I.at_ J.at_ nt ?_ | wp_step)
      exact hq
  · simp only [if_true]
    simp only [richCompare, cmpInfo_NotEq, oneThing_ref]
    refine wpAny_holding (wpAny_bind (wpAny_cRoomFor hu0 ?_))
    refine wpAny_bind (I.type.here (wpAny_bind (J.type.here ?_)))
    split
    · rename_i q
      simp at q
    · repeat (first | with_reducible refine try_ne_other X I ho he hn hxy J.at_ hu ?_ | with_reducible refine try_ne_other X J ho he hn hxy.symm I.at_ hu ?_ | with_reducible refine wpAny_isSame_ref_other hxy I.at_ J.at_ nt ?_ | wp_step)
      exact hq
end
end G
namespace G
open PySem PySem.Spec PyProof.Rows
open L2 (V Hp HO upd SqL SqT Rd VK XK TE TT TA TI TS TG TGs Ends WX Cx PE PT PA PI PS PSs PG PGs Inv OpR CallR RelV Vals R2 PC PW Gl Room)
section
variable {X : Cx} {Y : Wd} {T : Tb} {xf : Nat → List Nm} {W : WX} {N : List PySem.Str} {sc : Scope} {n k : Nat} {Γ : Ctx} {a b : Expr} {p p2 pos : Pos} {x y : PySem.Str} {i j c : Nat} {neg : Bool} {g : Env → Store → Option Bool}
def rId (T : Tb) (c : Nat) (neg : Bool) : R2 := fun x y H Q => ∃ a b dx gs dx2 gs2, x = .ref a ∧ y = .ref b ∧ H a = some (.ins (T.cls c) dx gs) ∧ H b = some (.ins (T.cls c) dx2 gs2) ∧ Q (.bl (decide (a = b) != neg)) H
theorem or_id (M : CxY X Y W N sc n) (ho : PySem.W.mroIn Y.K (Y.T.cls c) (.type "object") = some true) (he : PySem.W.findIn Y.K (.ref (Y.T.cls c)) "__eq__" = some (some (.builtin "object.__eq__")))
    (hn : PySem.W.findIn Y.K (.ref (Y.T.cls c)) "__ne__" = some (some (.builtin "object.__ne__"))) : OpR X (compareOp (if neg then .NotEq else .Eq)) (rId Y.T c neg) := by
  intro pins s σ H x y v u Q I rx ry ⟨a, b, dx, gs, dx2, gs2, ex, ey, ha, hb, hq⟩
  subst ex ey
  obtain rfl : v = Value.ref a := rx
  obtain rfl : u = Value.ref b := ry
  obtain ⟨mA, O, _, _, _, _⟩ := L2.ins_get I.hok ha
  obtain ⟨od, J, _⟩ := O.look
  obtain ⟨mA2, O2, _, _, _, _⟩ := L2.ins_get I.hok hb
  obtain ⟨od2, J2, _⟩ := O2.look
  have ho' : PySem.W.mroIn X.K (Y.T.cls c) (.type "object") = some true := by rw [M.eKY]; exact ho
  have he' : PySem.W.findIn X.K (.ref (Y.T.cls c)) "__eq__" = some (some (.builtin "object.__eq__")) := by rw [M.eKY]; exact he
  have hn' : PySem.W.findIn X.K (.ref (Y.T.cls c)) "__ne__" = some (some (.builtin "object.__ne__")) := by rw [M.eKY]; exact hn
  have hu := M.room.units
  have hu1 : X.A.units + 1 < cLine := by omega
  have ec : compareOp (if neg then .NotEq else .Eq) (Value.ref a) (Value.ref b) = richCompare (if neg then .NotEq else .Eq) (Value.ref a) (Value.ref b) := by cases neg <;> rfl
  rw [ec]
  by_cases e : a = b
  · subst e
    exact rich_same I.kIn J ho' he' hn' _ neg rfl hu1 ⟨.bl (!neg), H, I, rfl, by simpa using hq⟩
  · exact rich_other I.kIn J ho' he' hn' _ neg rfl J2 e hu1 ⟨.bl neg, H, I, rfl, by simpa [e] using hq⟩
theorem je_id (M : CxY X Y W N sc n) (ho : PySem.W.mroIn Y.K (Y.T.cls c) (.type "object") = some true) (he : PySem.W.findIn Y.K (.ref (Y.T.cls c)) "__eq__" = some (some (.builtin "object.__eq__")))
    (hn : PySem.W.findIn Y.K (.ref (Y.T.cls c)) "__ne__" = some (some (.builtin "object.__ne__"))) (hp : PE X (.Name x p) (L2.tVar i)) (hp2 : PE X (.Name y p2) (L2.tVar j))
    (hg : ∀ (σ : L2.St) (H : Hp) (ρ Ow : List Addr) (env : Env) (st : Store) (k : Bool), EnR Y.T H ρ Ow σ env → StR Y.T H ρ Ow st → g env st = some k → ∃ a b dx gs dx2 gs2, σ[i]? = some (some (.ref a)) ∧ σ[j]? = some (some (.ref b)) ∧ H a = some (.ins (Y.T.cls c) dx gs) ∧ H b = some (.ins (Y.T.cls c) dx2 gs2) ∧ (decide (a = b) != neg) = k) :
    JE X Y.T Y.xf W (.Compare (.Name x p) [if neg then .NotEq else .Eq] [.Name y p2] pos) (idE g) true := by
  have hm : behindInMarks (if neg then .NotEq else .Eq) (.Name y p2) = false := plain_marks rfl _
  have val : ∀ (σ : L2.St) (H : Hp) (Q : VK) (env : Env) (st : Store) (ρ Ow : List Addr) (k : Bool), EnR Y.T H ρ Ow σ env → StR Y.T H ρ Ow st → g env st = some k → Q (.bl k) H → L2.tOp (rId Y.T c neg) (L2.tVar i) (L2.tVar j) σ H Q := fun σ H Q env st ρ Ow k en sr hk hq => by
    obtain ⟨a, b, dx, gs, dx2, gs2, h1, h2, h3, h4, h5⟩ := hg σ H ρ Ow env st k en sr hk
    exact ⟨_, h1, _, h2, a, b, dx, gs, dx2, gs2, rfl, rfl, h3, h4, by rw [h5]; exact hq⟩
  have V1 : PE X (.Compare (.Name x p) [if neg then .NotEq else .Eq] [.Name y p2] pos) (tVal Y.T Y.xf W true (idE g).val) := PE.imp (L2.pe_cmpR (or_id M ho he hn) hp hp2 hm) fun σ H Q ⟨env, st, ρ, Ow, en, sr, po⟩ => by
    obtain ⟨d, hd, q⟩ := Post.of sr po
    cases hk : g env st with
    | none => rw [hk] at hd; cases hd
    | some k =>
      rw [hk] at hd
      cases hd
      exact val σ H Q env st ρ Ow k en sr hk (q _ (.bl k))
  refine ⟨V1, PT.imp (L2.pt_cmpR (or_id M ho he hn) hp hp2 hm) fun σ H Q ⟨env, st, ρ, Ow, en, sr, po⟩ => ?_, fun tg => items_of M.toCxG V1⟩
  have po := Post.bind po
  obtain ⟨d, hd, q⟩ := Post.of sr po
  cases hk : g env st with
  | none => rw [hk] at hd; cases hd
  | some k =>
    rw [hk] at hd
    cases hd
    have q2 : Q k H := Post.ok sr q
    exact val σ H _ env st ρ Ow k en sr hk ⟨k, rfl, q2⟩
theorem je_idS (M : CxY X Y W N sc n) (ho : PySem.W.mroIn Y.K (Y.T.cls c) (.type "object") = some true) (he : PySem.W.findIn Y.K (.ref (Y.T.cls c)) "__eq__" = some (some (.builtin "object.__eq__")))
    (hn : PySem.W.findIn Y.K (.ref (Y.T.cls c)) "__ne__" = some (some (.builtin "object.__ne__"))) (hp : PE X (.Name x p) (L2.tVar i)) (hp2 : PE X (.Name x p2) (L2.tVar i)) :
    JE X Y.T Y.xf W (.Compare (.Name x p) [if neg then .NotEq else .Eq] [.Name x p2] pos) (idE (idSV c i neg)) true :=
  je_id M ho he hn hp hp2 fun σ H ρ Ow env st k en sr hk => by
    unfold idSV at hk
    cases hd : env.get i with
    | none => rw [hd] at hk; cases hk
    | some d =>
      rw [hd] at hk
      cases d with
      | obj b fs =>
        simp only [] at hk
        split at hk
        · rename_i e
          subst e
          cases hk
          obtain ⟨v, hv, r⟩ := en.get hd
          cases r with
          | obj q n1 n2 z rs => exact ⟨_, _, _, _, _, _, hv, hv, q, q, by simp⟩
        · cases hk
      | _ => cases hk
theorem je_idO (M : CxY X Y W N sc n) (ho : PySem.W.mroIn Y.K (Y.T.cls c) (.type "object") = some true) (he : PySem.W.findIn Y.K (.ref (Y.T.cls c)) "__eq__" = some (some (.builtin "object.__eq__")))
    (hn : PySem.W.findIn Y.K (.ref (Y.T.cls c)) "__ne__" = some (some (.builtin "object.__ne__"))) (hp : PE X (.Name x p) (L2.tVar i)) (hp2 : PE X (.Name y p2) (L2.tVar j)) :
    JE X Y.T Y.xf W (.Compare (.Name x p) [if neg then .NotEq else .Eq] [.Name y p2] pos) (idE (idOV c i j neg)) true :=
  je_id M ho he hn hp hp2 fun σ H ρ Ow env st k en sr hk => by
    unfold idOV at hk
    cases hd : env.get i with
    | none => rw [hd] at hk; cases hk
    | some d =>
      rw [hd] at hk
      cases hd2 : env.get j with
      | none => rw [hd2] at hk; cases d <;> cases hk
      | some d2 =>
        rw [hd2] at hk
        cases d with
        | obj b fs =>
          cases d2 with
          | loc l =>
            simp only [] at hk
            cases hl : st[l]? with
            | none => rw [hl] at hk; cases hk
            | some o =>
              rw [hl] at hk
              cases o with
              | ins b2 fs2 =>
                simp only [] at hk
                split at hk
                · rename_i e
                  obtain ⟨rfl, rfl⟩ := e
                  cases hk
                  obtain ⟨v, hv, r⟩ := en.get hd
                  obtain ⟨v2, hv2, r2⟩ := en.get hd2
                  cases r2 with
                  | loc h2 =>
                    obtain ⟨_, dx2, ws, q1, _⟩ := sr.at_ l _ _ h2 hl
                    cases r with
                    | obj q n1 n2 z rs =>
                      refine ⟨_, _, _, _, _, _, hv, hv2, q, q1, ?_⟩
                      rename_i a0 _ _ a1 _ _
                      have : ∀ {u w : Addr}, u ∉ ρ → w ∈ ρ → decide (u = w) = false := fun h1 h2 => decide_eq_false fun e => h1 (e ▸ h2)
                      rw [this n1 (List.mem_of_getElem? h2)]
                      cases neg <;> rfl
                · cases hk
              | _ => cases hk
          | _ => cases hk
        | _ => cases hk
end
end G
namespace G
open PySem PySem.Spec PyProof.Rows
open L2 (V Hp HO upd SqL SqT Rd VK XK TE TT TA TI TS TG TGs Ends WX Cx PE PT PA PI PS PSs PG PGs Inv OpR CallR RelV Vals R2 PC PW Gl Room FunD Binds PK)
section
variable {pt : G.PT} {Y : Wd} {a b e f o tg : Expr} {s sa sb sd : G.Sem} {p p2 pos apos cpos : Pos} {Γ : Ctx} {k i j : Nat} {N : List PySem.Str} {X : Cx} {W : WX} {sc : Scope} {str ra rb : Bool} {es : List Expr} {ss : List G.Sem} {x y : PySem.Str}
variable (E : En pt Y Γ k N X W sc)
include E
theorem r_mkS (m : Nat) {t : ClT} {d : Df} {y : PySem.Str} {ps : List PySem.Str} (h : pt.cls[m]? = some t) (hd : pt.defs[t.cl.init]? = some d) (hp : d.ps = y :: ps) (hx : t.x = x) (hb : debB x = true) (hg : glbB sc x = true) (hl : ss.length = ps.length) (js : JEs X Y.T Y.xf W es ss) :
    JE X Y.T Y.xf W (.Call (.Name x p) es [] pos) (mkSE Γ m ss) true := by
  subst hx
  have hq : (unf Γ).cls m = some { t.cl with frozen := false } := by
    show (Γ.cls m).map _ = _
    rw [E.F.at_c h]; rfl
  exact je_mk (Γ := unf Γ) E.M hq (E.F.st.t_flds h) (E.F.mkg h hd hp) (Nat.le_refl _) (by rw [E.F.st.t_cls h]; exact E.F.st.gl (E.F.st.cl h).gl) (nB hb) (E.gl hg) hl js
theorem var_of (hn : nmB N sc i x = true) : PE X (.Name x p) (L2.tVar i) := L2.pe_var (by rw [E.M.eN]; exact (nm_ok hn).1) (by rw [E.M.eS]; exact (nm_ok hn).2.1) (nm_ok hn).2.2.1 (nm_ok hn).2.2.2
theorem r_idS (cc m : Nat) (neg : Bool) {t : ClT} (h : pt.cls[cc]? = some t) (he : t.cl.meths.lookup n_eq = none) (hτ : pt.tys[m]? = some (.own cc)) (hn : nmB N sc i x = true) :
    JE X Y.T Y.xf W (.Compare (.Name x p) [if neg then .NotEq else .Eq] [.Name x p2] pos) (idE (idSV cc i neg)) true := by
  have e1 : tyV pt Y.K (.own cc) = .ref (Y.T.cls cc) := by rw [E.F.st.eT]; rfl
  have OK := E.F.isi hτ
  rw [e1] at OK
  exact je_idS E.M (OK.ins cc _ (E.F.at_c h)).1.hm (E.F.st.noe h he) (E.F.st.ne h) (var_of E hn) (var_of E hn)
theorem r_idO (cc m : Nat) (neg : Bool) {t : ClT} (h : pt.cls[cc]? = some t) (he : t.cl.meths.lookup n_eq = none) (hτ : pt.tys[m]? = some (.own cc)) (hn : nmB N sc i x = true) (hn2 : nmB N sc j y = true) :
    JE X Y.T Y.xf W (.Compare (.Name x p) [if neg then .NotEq else .Eq] [.Name y p2] pos) (idE (idOV cc i j neg)) true := by
  have e1 : tyV pt Y.K (.own cc) = .ref (Y.T.cls cc) := by rw [E.F.st.eT]; rfl
  have OK := E.F.isi hτ
  rw [e1] at OK
  exact je_idO E.M (OK.ins cc _ (E.F.at_c h)).1.hm (E.F.st.noe h he) (E.F.st.ne h) (var_of E hn) (var_of E hn2)
end
end G
namespace G
end G
namespace K53
open PySem PySem.Spec PyProof.Rows G
theorem at_0 : pt.defs[0]? = some d0 := rfl
theorem at_1 : pt.defs[1]? = some d1 := rfl
theorem at_2 : pt.defs[2]? = some d2 := rfl
theorem at_3 : pt.defs[3]? = some d3 := rfl
theorem at_4 : pt.defs[4]? = some d4 := rfl
theorem at_5 : pt.defs[5]? = some d5 := rfl
theorem at_6 : pt.defs[6]? = some d6 := rfl
theorem at_7 : pt.defs[7]? = some d7 := rfl
theorem at_8 : pt.defs[8]? = some d8 := rfl
theorem at_9 : pt.defs[9]? = some d9 := rfl
theorem at_10 : pt.defs[10]? = some d10 := rfl
theorem at_11 : pt.defs[11]? = some d11 := rfl
theorem at_12 : pt.defs[12]? = some d12 := rfl
theorem at_13 : pt.defs[13]? = some d13 := rfl
theorem at_14 : pt.defs[14]? = some d14 := rfl
theorem at_15 : pt.defs[15]? = some d15 := rfl
theorem at_20 : pt.defs[20]? = some d20 := rfl
theorem at_22 : pt.defs[22]? = some d22 := rfl
theorem at_23 : pt.defs[23]? = some d23 := rfl
theorem at_26 : pt.defs[26]? = some d26 := rfl
theorem at_27 : pt.defs[27]? = some d27 := rfl
theorem at_32 : pt.defs[32]? = some d32 := rfl
theorem at_33 : pt.defs[33]? = some d33 := rfl
theorem at_34 : pt.defs[34]? = some d34 := rfl
theorem at_35 : pt.defs[35]? = some d35 := rfl
theorem at_36 : pt.defs[36]? = some d36 := rfl
theorem at_37 : pt.defs[37]? = some d37 := rfl
theorem at_38 : pt.defs[38]? = some d38 := rfl
theorem at_39 : pt.defs[39]? = some d39 := rfl
theorem at_40 : pt.defs[40]? = some d40 := rfl
theorem at_41 : pt.defs[41]? = some d41 := rfl
theorem at_42 : pt.defs[42]? = some d42 := rfl
theorem at_43 : pt.defs[43]? = some d43 := rfl
theorem at_44 : pt.defs[44]? = some d44 := rfl
theorem at_45 : pt.defs[45]? = some d45 := rfl
theorem c_5 (n : Nat) : pt.call (n + 1) 5 = runF 1 1 (m_is_integer (pt.ctx (pt.call n))) := rfl
theorem c_6 (n : Nat) : pt.call (n + 1) 6 = runF 3 3 (m_is_within (pt.ctx (pt.call n)) (pt.call n 5)) := rfl
theorem c_7 (n : Nat) : pt.call (n + 1) 7 = runF 1 2 (m_is_name (pt.ctx (pt.call n))) := rfl
theorem c_8 (n : Nat) : pt.call (n + 1) 8 = runF 1 1 (m_check_points (pt.ctx (pt.call n)) (pt.call n 6) 0) := rfl
theorem c_9 (n : Nat) : pt.call (n + 1) 9 = runF 1 1 (m_is_row (pt.ctx (pt.call n)) (pt.call n 7) (pt.call n 6)) := rfl
theorem c_10 (n : Nat) : pt.call (n + 1) 10 = runF 1 4 (m_wrong_row (pt.ctx (pt.call n)) (pt.call n 9)) := rfl
theorem c_11 (n : Nat) : pt.call (n + 1) 11 = runF 1 2 (m_check_rows (pt.ctx (pt.call n)) 1 (pt.call n 10)) := rfl
theorem c_12 (n : Nat) : pt.call (n + 1) 12 = runF 2 2 (m_check_kind (pt.ctx (pt.call n)) 3) := rfl
theorem c_13 (n : Nat) : pt.call (n + 1) 13 = runF 2 2 (m_is_left (pt.ctx (pt.call n)) (pt.call n 6)) := rfl
theorem c_14 (n : Nat) : pt.call (n + 1) 14 = runF 2 5 (m_wrong_left (pt.ctx (pt.call n)) (pt.call n 13)) := rfl
theorem c_15 (n : Nat) : pt.call (n + 1) 15 = runF 4 7 (m_Season_init (pt.ctx (pt.call n)) (pt.call n 8) (pt.call n 11) 2 (pt.call n 14)) := rfl
theorem c_16 (n : Nat) : pt.call (n + 1) 16 = runF 1 1 (m_List_points (pt.ctx (pt.call n))) := rfl
theorem c_17 (n : Nat) : pt.call (n + 1) 17 = runF 1 1 (m_List_rows (pt.ctx (pt.call n))) := rfl
theorem c_18 (n : Nat) : pt.call (n + 1) 18 = runF 1 1 (m_Season_left (pt.ctx (pt.call n))) := rfl
theorem c_19 (n : Nat) : pt.call (n + 1) 19 = runF 1 2 (m_List_kinds (pt.ctx (pt.call n))) := rfl
theorem c_20 (n : Nat) : pt.call (n + 1) 20 = runF 3 9 (m_Season_meetings (pt.ctx (pt.call n))) := rfl
theorem c_22 (n : Nat) : pt.call (n + 1) 22 = runF 2 4 (m_Season_others_of_k57 (pt.ctx (pt.call n))) := rfl
theorem c_23 (n : Nat) : pt.call (n + 1) 23 = runF 2 5 (m_Season_best_of_k57 (pt.ctx (pt.call n)) 0) := rfl
theorem c_26 (n : Nat) : pt.call (n + 1) 26 = runF 2 2 (m_Season_row_of_k57 (pt.ctx (pt.call n)) (pt.call n 12)) := rfl
theorem c_27 (n : Nat) : pt.call (n + 1) 27 = runF 2 2 (m_Season_best_k57 (pt.ctx (pt.call n)) 0) := rfl
theorem c_32 (n : Nat) : pt.call (n + 1) 32 = runF 2 5 (m_spring (pt.ctx (pt.call n))) := rfl
theorem c_33 (n : Nat) : pt.call (n + 1) 33 = runF 2 3 (m_draw (pt.ctx (pt.call n))) := rfl
theorem c_34 (n : Nat) : pt.call (n + 1) 34 = runF 1 3 (m_great_k57 (pt.ctx (pt.call n)) (pt.call n 33)) := rfl
theorem c_35 (n : Nat) : pt.call (n + 1) 35 = runF 1 2 (m_number_k57 (pt.ctx (pt.call n)) (pt.call n 33) (pt.call n 34)) := rfl
theorem c_36 (n : Nat) : pt.call (n + 1) 36 = runF 1 2 (m_so_far (pt.ctx (pt.call n)) (pt.call n 33) (pt.call n 34)) := rfl
theorem c_37 (n : Nat) : pt.call (n + 1) 37 = runF 2 12 (m_named (pt.ctx (pt.call n)) (pt.call n 33)) := rfl
theorem c_38 (n : Nat) : pt.call (n + 1) 38 = runF 2 7 (m_left (pt.ctx (pt.call n)) (pt.call n 33)) := rfl
theorem c_39 (n : Nat) : pt.call (n + 1) 39 = runF 3 4 (m_times (pt.ctx (pt.call n))) := rfl
theorem c_40 (n : Nat) : pt.call (n + 1) 40 = runF 4 5 (m_hopes (pt.ctx (pt.call n)) (pt.call n 39)) := rfl
theorem c_41 (n : Nat) : pt.call (n + 1) 41 = runF 2 5 (m_season (pt.ctx (pt.call n)) (pt.call n 37) (pt.call n 33) (pt.call n 35) (pt.call n 36) (pt.call n 38)) := rfl
theorem c_42 (n : Nat) : pt.call (n + 1) 42 = runF 2 4 (m_shown (pt.ctx (pt.call n)) 0) := rfl
theorem c_43 (n : Nat) : pt.call (n + 1) 43 = runF 3 6 (m_due_k53 (pt.ctx (pt.call n)) (pt.call n 40)) := rfl
theorem c_44 (n : Nat) : pt.call (n + 1) 44 = runF 1 13 (m_right_k53 (pt.ctx (pt.call n)) (pt.call n 41) 0 (pt.call n 33) (pt.call n 42) (pt.call n 43) (pt.call n 40)) := rfl
theorem c_45 (n : Nat) : pt.call (n + 1) 45 = runF 1 2 (m_law (pt.ctx (pt.call n)) (pt.call n 44) (pt.call n 32)) := rfl
end K53
namespace K53
open PySem PySem.Spec PyProof.Rows G
theorem ob_eq (s : PySem.W.SharedT) : ob s = (hookP 5 pt).obs s.abs := obsPG_eq (HandSHeadRun.getT_eq s)
end K53
namespace G
class QQ (α : Type) where
  q : α → Store → Prop
def OPi {α : Type} [k : QQ α] : O α → Prop
  | .ok a st => k.q a st
  | _ => False
def OP {α : Type} (Q : α → Store → Prop) (o : O α) : Prop := @OPi α ⟨Q⟩ o
class Kt where
  nx : Env → Store → Prop
  rt : D → Store → Prop
  bk : Env → Store → Prop
  ct : Env → Store → Prop
def RP [K : Kt] : R → Prop
  | .nx env st => K.nx env st
  | .rt d st => K.rt d st
  | .bk env st => K.bk env st
  | .ct env st => K.ct env st
  | _ => False
section
variable {α β : Type} {Q : α → Store → Prop} {nx : Env → Store → Prop} {rt : D → Store → Prop} {bk ct : Env → Store → Prop} {env : Env} {st : Store}
theorem OP.mono {Q' : α → Store → Prop} {o : O α} (h : OP Q o) (i : ∀ a st, Q a st → Q' a st) : @OPi _ ⟨Q'⟩ o := by
  cases o with
  | ok a st => exact i _ _ h
  | _ => exact h
theorem RP.mono {n1 n2 : Env → Store → Prop} {r1 r2 : D → Store → Prop} {b1 b2 c1 c2 : Env → Store → Prop} {r : R} (h : @RP ⟨n1, r1, b1, c1⟩ r) (h1 : ∀ e s, n1 e s → n2 e s) (h2 : ∀ e s, r1 e s → r2 e s) (h3 : ∀ e s, b1 e s → b2 e s) (h4 : ∀ e s, c1 e s → c2 e s) : @RP ⟨n2, r2, b2, c2⟩ r := by
  cases r with
  | nx e s => exact h1 _ _ h
  | rt e s => exact h2 _ _ h
  | bk e s => exact h3 _ _ h
  | ct e s => exact h4 _ _ h
  | _ => exact h
theorem /-ev-/ OP_ok {a : α} : @OPi _ ⟨Q⟩ (.ok a st) = Q a st := propext Iff.rfl
theorem /-ev-/ OP_bad : @OPi _ ⟨Q⟩ .bad = False := propext Iff.rfl
theorem /-ev-/ OP_bind {f : α → Store → O β} {Q : β → Store → Prop} {x : O α} : @OPi _ ⟨Q⟩ (x.bind f) = @OPi _ ⟨fun a st => @OPi _ ⟨Q⟩ (f a st)⟩ x := by
  cases x <;> rfl
theorem /-ev-/ O_of_some {a : α} : O.of (some a) st = .ok a st := rfl
theorem /-ev-/ O_of_none : O.of (none : Option α) st = .bad := rfl
theorem /-ev-/ OP_of_ite {c : Prop} [Decidable c] {a : α} : @OPi _ ⟨Q⟩ (O.of (if c then some a else none) st) = (c ∧ Q a st) := by
  by_cases h : c
  · rw [if_pos h]; simp [h, OPi, O.of]
  · rw [if_neg h]; simp [h, OPi, O.of]
theorem /-ev-/ OP_ite {c : Prop} [Decidable c] {a b : O α} : @OPi _ ⟨Q⟩ (if c then a else b) = ((c → @OPi _ ⟨Q⟩ a) ∧ (¬ c → @OPi _ ⟨Q⟩ b)) := by
  by_cases h : c <;> simp [h]
theorem /-ev-/ RP_ite {c : Prop} [Decidable c] {a b : R} : @RP ⟨nx, rt, bk, ct⟩ (if c then a else b) = ((c → @RP ⟨nx, rt, bk, ct⟩ a) ∧ (¬ c → @RP ⟨nx, rt, bk, ct⟩ b)) := by
  by_cases h : c <;> simp [h]
theorem /-ev-/ OP_ite_bad {c : Prop} [Decidable c] {a : O α} : @OPi _ ⟨Q⟩ (if c then a else .bad) = (c ∧ @OPi _ ⟨Q⟩ a) := by
  by_cases h : c <;> simp [h, OPi]
theorem /-ev-/ RP_ite_bad {c : Prop} [Decidable c] {a : R} : @RP ⟨nx, rt, bk, ct⟩ (if c then a else .bad) = (c ∧ @RP ⟨nx, rt, bk, ct⟩ a) := by
  by_cases h : c <;> simp [h, RP]
theorem /-ev-/ RP_nx : @RP ⟨nx, rt, bk, ct⟩ (.nx env st) = nx env st := propext Iff.rfl
theorem /-ev-/ RP_rt {d : D} : @RP ⟨nx, rt, bk, ct⟩ (.rt d st) = rt d st := propext Iff.rfl
theorem /-ev-/ RP_bk : @RP ⟨nx, rt, bk, ct⟩ (.bk env st) = bk env st := propext Iff.rfl
theorem /-ev-/ RP_ct : @RP ⟨nx, rt, bk, ct⟩ (.ct env st) = ct env st := propext Iff.rfl
theorem /-ev-/ RP_bad : @RP ⟨nx, rt, bk, ct⟩ .bad = False := propext Iff.rfl
theorem /-ev-/ RP_run {o : O α} {f : α → Store → R} : @RP ⟨nx, rt, bk, ct⟩ (o.run env f) = @OPi _ ⟨fun a st => @RP ⟨nx, rt, bk, ct⟩ (f a st)⟩ o := by
  cases o <;> rfl
theorem /-ev-/ RP_seqR {r : R} {f : StS} : @RP ⟨nx, rt, bk, ct⟩ (seqR r f) = @RP ⟨fun env st => @RP ⟨nx, rt, bk, ct⟩ (f env st), rt, bk, ct⟩ r := by
  cases r <;> rfl
variable {i : Nat} {s s1 s2 : Sem} {a b : StS}
theorem /-ev-/ RP_seq : @RP ⟨nx, rt, bk, ct⟩ (seqS a b env st) = @RP ⟨fun env st => @RP ⟨nx, rt, bk, ct⟩ (b env st), rt, bk, ct⟩ (a env st) := RP_seqR
theorem /-ev-/ RP_pass : @RP ⟨nx, rt, bk, ct⟩ (passS env st) = nx env st := propext Iff.rfl
theorem /-ev-/ RP_brk : @RP ⟨nx, rt, bk, ct⟩ (brkS env st) = bk env st := propext Iff.rfl
theorem /-ev-/ RP_cont : @RP ⟨nx, rt, bk, ct⟩ (contS env st) = ct env st := propext Iff.rfl
theorem /-ev-/ RP_ret0 : @RP ⟨nx, rt, bk, ct⟩ (ret0S env st) = rt .non st := propext Iff.rfl
theorem /-ev-/ RP_badS : @RP ⟨nx, rt, bk, ct⟩ (badS env st) = False := rfl
theorem /-ev-/ RP_ret : @RP ⟨nx, rt, bk, ct⟩ (retS s env st) = @OPi _ ⟨rt⟩ (s.val env st) := RP_run
theorem /-ev-/ RP_ex : @RP ⟨nx, rt, bk, ct⟩ (exS s env st) = @OPi _ ⟨fun _ st => nx env st⟩ (s.val env st) := RP_run
theorem /-ev-/ RP_nm : @RP ⟨nx, rt, bk, ct⟩ (nmS i s env st) = @OPi _ ⟨fun d st => nx (env.set i (.v d)) st⟩ (s.val env st) := RP_run
theorem /-ev-/ RP_own : @RP ⟨nx, rt, bk, ct⟩ (ownS i s env st) = @OPi _ ⟨fun d st => @RP ⟨nx, rt, bk, ct⟩ (ownR i d env st)⟩ (s.val env st) := RP_run
theorem /-ev-/ ownR_lst {xs : List D} : ownR i (.lst xs) env st = .nx (env.set i (.own xs)) st := rfl
theorem /-ev-/ RP_if : @RP ⟨nx, rt, bk, ct⟩ (ifS s a b env st) = @OPi _ ⟨fun t st => @RP ⟨nx, rt, bk, ct⟩ (if t = true then a env st else b env st)⟩ (s.test env st) := RP_run
theorem /-ev-/ RP_tg {f : D → StS} : @RP ⟨nx, rt, bk, ct⟩ (tgS f s env st) = @OPi _ ⟨fun d st => @RP ⟨nx, rt, bk, ct⟩ (f d env st)⟩ (s.val env st) := RP_run
theorem /-ev-/ RP_par {ts : List (Bool × Nat)} {ss : List Sem} : @RP ⟨nx, rt, bk, ct⟩ (parS ts ss env st) = @OPi _ ⟨fun ds st => @RP ⟨nx, rt, bk, ct⟩ (ofPut (putO ts ds env) st)⟩ (args ss env st) := RP_run
theorem /-ev-/ RP_asgn {fs : List (D → StS)} {ss : List Sem} : @RP ⟨nx, rt, bk, ct⟩ (asgnS fs ss env st) = @OPi _ ⟨fun ds st => @RP ⟨nx, rt, bk, ct⟩ (setAll fs ds env st)⟩ (args ss env st) := RP_run
theorem /-ev-/ RP_unp {fs : List (D → StS)} : @RP ⟨nx, rt, bk, ct⟩ (unpS fs s env st) = @OPi _ ⟨fun d st => @RP ⟨nx, rt, bk, ct⟩ (match d with
  | .tup ds => if ds.length = fs.length then setAll fs ds env st else .bad
  | .lst ds => if ds.length = fs.length then setAll fs ds env st else .bad
  | _ => .bad)⟩ (s.val env st) := RP_run
theorem /-ev-/ RP_for {p : Pt} : @RP ⟨nx, rt, bk, ct⟩ (forS p s a env st) = @OPi _ ⟨fun xs st => @RP ⟨nx, rt, bk, ct⟩ (forL a p xs env st)⟩ (s.items env st) := RP_run
theorem /-ev-/ RP_app : @RP ⟨nx, rt, bk, ct⟩ (appS i s env st) = @RP ⟨nx, rt, bk, ct⟩ (match env[i]? with
  | some (.own xs) => (s.val env st).run env fun d st => if xs.length < LIM then .nx (env.set i (.own (xs ++ [d]))) st else .bad
  | _ => .bad) := rfl
theorem /-ev-/ RP_frz : @RP ⟨nx, rt, bk, ct⟩ (frzS i a env st) = @RP ⟨nx, rt, bk, ct⟩ (match env[i]? with
  | some (.own xs) => a (env.set i (.v (.lst xs))) st
  | _ => .bad) := rfl
theorem /-ev-/ RP_aug {o : Op2} : @RP ⟨nx, rt, bk, ct⟩ (augS i o s env st) = @RP ⟨nx, rt, bk, ct⟩ (match env.get i with
  | some (.int x) => (s.val env st).run env fun y st => aug1 o i x y env st
  | _ => .bad) := rfl
theorem /-ev-/ aug_add {x y : Int} : aug1 .add i x (.int y) env st = .nx (env.set i (.v (.int (x + y)))) st := rfl
theorem /-ev-/ aug_sub {x y : Int} : aug1 .sub i x (.int y) env st = .nx (env.set i (.v (.int (x - y)))) st := rfl
theorem /-ev-/ ofPut_some {e : Env} : ofPut (some e) st = .nx e st := rfl
theorem /-ev-/ putO_nil : putO [] [] env = some env := rfl
theorem /-ev-/ putO_v {ts : List (Bool × Nat)} {d : D} {ds : List D} : putO ((false, i) :: ts) (d :: ds) env = putO ts ds (env.set i (.v d)) := rfl
theorem /-ev-/ putO_o {ts : List (Bool × Nat)} {xs : List D} {ds : List D} : putO ((true, i) :: ts) (.lst xs :: ds) env = putO ts ds (env.set i (.own xs)) := rfl
theorem /-ev-/ setAll_nil : setAll [] [] env st = .nx env st := rfl
theorem /-ev-/ setAll_cons {f : D → StS} {fs : List (D → StS)} {d : D} {ds : List D} : setAll (f :: fs) (d :: ds) env st = seqR (f d env st) (setAll fs ds) := rfl
theorem /-ev-/ nmT_eq {d : D} : nmT i d env st = .nx (env.set i (.v d)) st := rfl
theorem /-ev-/ osubR_eq {d : D} : osubR i s d env st = match env[i]? with
  | some (.own xs) => (s.val env st).run env fun k st => match k with
    | .int k => match ixN xs.length k with
      | some j => .nx (env.set i (.own (xs.set j d))) st
      | none => .bad
    | _ => .bad
  | _ => .bad := rfl
theorem /-ev-/ RP_fld {Γ : Ctx} {f : Nm} : @RP ⟨nx, rt, bk, ct⟩ (fldS Γ f s1 s2 env st) = @OPi _ ⟨fun d st => @RP ⟨nx, rt, bk, ct⟩ (fldR Γ f s1 d env st)⟩ (s2.val env st) := RP_run
theorem RP_fldR {Γ : Ctx} {f : Nm} {d : D} : @RP ⟨nx, rt, bk, ct⟩ (fldR Γ f s1 d env st) = @OPi _ ⟨fun x st => @RP ⟨nx, rt, bk, ct⟩ (match x with
    | .loc l => (match st[l]? with
      | some (.ins c fs) => if ltLoc l d = true ∧ fs.length < 100 ∧ isFld Γ c f = true then .nx env (st.set l (.ins c (putF f d fs))) else .bad
      | _ => .bad)
    | _ => .bad)⟩ (s1.val env st) := RP_run
variable {d : D} {o p : Op2} {x y z : Sem} {es : List Sem} {Γ : Ctx} {c : Fd}
theorem /-ev-/ val_k : (kE d).val env st = .ok d st := rfl
theorem /-ev-/ val_v : (vE i).val env st = .of (env.get i) st := rfl
theorem /-ev-/ val_pk : (pkE i).val env st = .of (env.pk i) st := rfl
theorem /-ev-/ val_op : (opE o x y).val env st = (x.val env st).bind fun u st => (y.val env st).bind fun v st => .of (op2 o st u v) st := rfl
theorem /-ev-/ val_neg : (negE x).val env st = (x.val env st).bind fun u st => .of (neg1 u) st := rfl
theorem /-ev-/ val_no : (Sem.no x).val env st = (x.val env st).bind fun u st => (O.of (truth st u) st).bind fun b st => .ok (.bl (!b)) st := rfl
theorem /-ev-/ val_ife : (Sem.ife x y z).val env st = (x.test env st).bind fun t st => if t = true then y.val env st else z.val env st := rfl
theorem /-ev-/ val_tup : (tupE es).val env st = (args es env st).bind fun ds st => .ok (.tup ds) st := rfl
theorem /-ev-/ val_lst : (lstE es).val env st = (args es env st).bind fun ds st => .ok (.lst ds) st := rfl
theorem /-ev-/ val_new : (newE es).val env st = (args es env st).bind newV := rfl
theorem /-ev-/ val_bi {f : Bi} : (biE f es).val env st = (args es env st).bind fun ds st => .of (bi f st ds) st := rfl
theorem /-ev-/ val_call : (callE c es).val env st = (args es env st).bind c := rfl
theorem /-ev-/ val_callK {is : List Nat} : (callKE c is es).val env st = (args es env st).bind fun ds st => c (pick .non is ds) st := rfl
theorem /-ev-/ val_mk : (mkE Γ i es).val env st = (args es env st).bind (mkObj Γ i) := rfl
theorem /-ev-/ val_mkK {is : List Nat} : (mkKE Γ i is es).val env st = (args es env st).bind fun ds st => mkObj Γ i (pick .non is ds) st := rfl
theorem /-ev-/ val_mkc {j : Nat} : (mkcE Γ j i es).val env st = match env.get j with
  | some (.cls d) => if d = i then (args es env st).bind (mkObj Γ i) else .bad
  | _ => .bad := rfl
theorem /-ev-/ get_c {env : Env} {k : Nat} {d : D} : Env.get (.v d :: env) 0 = some d := rfl
theorem /-ev-/ val_cm : (cmE c i es).val env st = (args es env st).bind fun ds st => c (.cls i :: ds) st := rfl
theorem /-ev-/ val_isi {τ : Ty} : (isiE Γ x τ).val env st = (x.val env st).bind fun u st => .of ((isiV Γ st u τ).map .bl) st := rfl
theorem /-ev-/ val_at {f : Nm} : (atE Γ f x).val env st = (x.val env st).bind fun u st => atV Γ f u st := rfl
theorem /-ev-/ val_has {n : Bool} : (hasE Γ i n x y).val env st = (x.val env st).bind fun u st => (y.val env st).bind fun v st => hasV Γ i n u v st := rfl
theorem /-ev-/ val_lenO : (lenOE Γ i x).val env st = (x.val env st).bind fun u st => dunV Γ i n_len u st := rfl
theorem /-ev-/ val_strO : (strOE Γ i x).val env st = (x.val env st).bind fun u st => dunV Γ i n_str u st := rfl
theorem /-ev-/ val_boolO : (boolOE Γ i x).val env st = (x.val env st).bind fun u st => dunV Γ i n_bool u st := rfl
def lsV (d : D) (st : Store) : O D := match d with
  | .lst xs => .ok (.lst xs) st
  | _ => .bad
theorem /-ev-/ val_ls : (lsE x).val env st = (x.val env st).bind lsV := rfl
theorem /-ev-/ lsV_lst {xs : List D} : lsV (.lst xs) st = .ok (.lst xs) st := rfl
theorem /-ev-/ val_up : (upE x).val env st = (x.val env st).bind fun u st => .of (upD u) st := rfl
theorem /-ev-/ upD_str {u : List Nat} : upD (.str u) = if u.length ≤ 1000000 ∧ u.all (fun c => decide (c < 128)) = true then some (.str (u.map upC)) else none := rfl
theorem /-ev-/ val_d0 : dct0E.val env st = .ok (.dct [] []) st := rfl
theorem /-ev-/ val_d1 : (dct1E x y).val env st = (x.val env st).bind fun u st => (y.val env st).bind fun v st => dct1V u v st := rfl
theorem /-ev-/ d1_str {u : List Nat} {v : D} : dct1V (.str u) v st = .ok (.dct [.str u] [v]) st := rfl
theorem /-ev-/ val_ch : (chE o p x y z).val env st = (x.val env st).bind fun u st => (y.val env st).bind fun v st => (O.of (op2 o st u v) st).bind fun r st => match r with
  | .bl b => if b = true then (z.val env st).bind fun w st => .of (op2 p st v w) st else .ok (.bl false) st
  | _ => .bad := by
  show chain o p x y z env st = _
  unfold chain
  congr 1; funext u st; congr 1; funext v st; congr 1; funext r st
  cases r <;> first | rfl | (rename_i b; cases b <;> rfl)
theorem /-ev-/ val_split {n : Nat} : (splitE x n).val env st = (x.val env st).bind fun u st => .of (mt .split st u [.str [n]]) st := rfl
theorem /-ev-/ val_join {n : List Nat} : (joinE n x).val env st = (x.val env st).bind fun u st => .of (mt .join st (.str n) [u]) st := rfl
theorem /-ev-/ val_fmt : (fmtE x).val env st = (x.val env st).bind fun u st => .of (fmtD u) st := rfl
theorem /-ev-/ val_joined : (joinedE es).val env st = joinedV es [] env st := rfl
theorem /-ev-/ val_cons : (consE x y).val env st = (x.val env st).bind fun u st => (y.val env st).bind fun v st => consV u v st := rfl
theorem /-ev-/ val_bop {n : Bool} : (Sem.bop n es).val env st = bopV n es env st := rfl
theorem /-ev-/ val_sl {lo hi : List Sem} : (slE x lo hi).val env st = (x.val env st).bind fun u st => (optV lo env st).bind fun l st => (optV hi env st).bind fun h st => .of (slice st u l h) st := rfl
theorem /-ev-/ val_lc {own : List Nat} {q : Pt} {ifs : List Sem} : (lcE x y own q ifs).val env st = (x.items env st).bind fun items st => (compL (turnV own y q ifs env) items [] st).bind fun ds st => .ok (.lst ds) st := rfl
theorem /-ev-/ tst_k : (kE d).test env st = .of (truth st d) st := rfl
theorem /-ev-/ tst_v : (vE i).test env st = (O.of (env.get i) st).bind fun x st => .of (truth st x) st := rfl
theorem /-ev-/ tst_op : (opE o x y).test env st = ((opE o x y).val env st).bind fun x st => .of (truth st x) st := rfl
theorem /-ev-/ tst_bi {f : Bi} : (biE f es).test env st = ((biE f es).val env st).bind fun x st => .of (truth st x) st := rfl
theorem /-ev-/ tst_call : (callE c es).test env st = ((callE c es).val env st).bind fun x st => .of (truth st x) st := rfl
theorem /-ev-/ tst_isi {τ : Ty} : (isiE Γ x τ).test env st = ((isiE Γ x τ).val env st).bind fun x st => .of (truth st x) st := rfl
theorem /-ev-/ tst_ch : (chE o p x y z).test env st = ((chE o p x y z).val env st).bind fun x st => .of (truth st x) st := rfl
theorem /-ev-/ tst_has {n : Bool} : (hasE Γ i n x y).test env st = ((hasE Γ i n x y).val env st).bind fun x st => .of (truth st x) st := rfl
theorem /-ev-/ tst_boolO : (boolOE Γ i x).test env st = ((boolOE Γ i x).val env st).bind fun x st => .of (truth st x) st := rfl
theorem /-ev-/ tst_at {f : Nm} : (atE Γ f x).test env st = ((atE Γ f x).val env st).bind fun x st => .of (truth st x) st := rfl
theorem /-ev-/ tst_me {f : Nm} : (meE Γ i f x es).test env st = ((meE Γ i f x es).val env st).bind fun x st => .of (truth st x) st := rfl
theorem /-ev-/ tst_no : (Sem.no x).test env st = (x.test env st).bind fun b st => .ok (!b) st := rfl
theorem /-ev-/ tst_bop {n : Bool} : (Sem.bop n es).test env st = bopT n es env st := rfl
theorem /-ev-/ tst_ife : (Sem.ife x y z).test env st = (x.test env st).bind fun t st => if t = true then y.test env st else z.test env st := rfl
theorem /-ev-/ bopV_one {n : Bool} : bopV n [x] env st = x.val env st := rfl
theorem /-ev-/ bopV_cons {n : Bool} : bopV n (x :: y :: es) env st = (x.val env st).bind fun u st => match u with
    | .bl b => if b = n then bopV n (y :: es) env st else .ok (.bl b) st
    | _ => .bad := rfl
theorem /-ev-/ bopT_one {n : Bool} : bopT n [x] env st = x.test env st := rfl
theorem /-ev-/ bopT_cons {n : Bool} : bopT n (x :: y :: es) env st = (x.test env st).bind fun b st => if b = n then bopT n (y :: es) env st else .ok b st := rfl
theorem /-ev-/ args_nil : args [] env st = .ok [] st := rfl
theorem /-ev-/ args_cons : args (x :: es) env st = (x.val env st).bind fun u st => (args es env st).bind fun us st => .ok (u :: us) st := rfl
theorem /-ev-/ joinedV_nil {acc : List Nat} : joinedV [] acc env st = .ok (.str acc) st := rfl
theorem /-ev-/ joinedV_cons {acc : List Nat} : joinedV (x :: es) acc env st = (x.val env st).bind fun u st => match u with
    | .str y => if acc.length + y.length ≤ LIM then joinedV es (acc ++ y) env st else .bad
    | _ => .bad := rfl
theorem /-ev-/ optV_none : optV [] env st = .ok none st := rfl
theorem /-ev-/ optV_one : optV [x] env st = (x.val env st).bind fun u st => .of (optI [u]) st := by
  unfold optV args
  cases x.val env st <;> rfl
theorem /-ev-/ optI_int {k : Int} : optI [.int k] = some (some k) := rfl
theorem /-ev-/ itm_v : (vE i).items env st = (O.of (env.get i) st).bind fun x st => .of (seqI x) st := rfl
theorem /-ev-/ itm_pk : (pkE i).items env st = (O.of (env.pk i) st).bind fun x st => .of (seqI x) st := rfl
theorem /-ev-/ itm_op : (opE o x y).items env st = ((opE o x y).val env st).bind fun x st => .of (seqI x) st := rfl
theorem /-ev-/ itm_call : (callE c es).items env st = ((callE c es).val env st).bind fun x st => .of (seqI x) st := rfl
theorem /-ev-/ itm_at {f : Nm} : (atE Γ f x).items env st = ((atE Γ f x).val env st).bind fun x st => .of (seqI x) st := rfl
theorem /-ev-/ itm_sl {lo hi : List Sem} : (slE x lo hi).items env st = ((slE x lo hi).val env st).bind fun x st => .of (seqI x) st := rfl
theorem /-ev-/ itm_lst : (lstE es).items env st = ((lstE es).val env st).bind fun x st => .of (seqI x) st := rfl
theorem /-ev-/ itm_tup : (tupE es).items env st = ((tupE es).val env st).bind fun x st => .of (seqI x) st := rfl
theorem /-ev-/ itm_lc {own : List Nat} {q : Pt} {ifs : List Sem} : (lcE x y own q ifs).items env st = ((lcE x y own q ifs).val env st).bind fun x st => .of (seqI x) st := rfl
theorem /-ev-/ itm_rng : (rngE es).items env st = (args es env st).bind fun ds st => rngI ds st := rfl
theorem /-ev-/ itm_enum : (enumE x).items env st = (x.val env st).bind fun x st => .of ((seqF x).map enumD) st := rfl
theorem /-ev-/ itm_zip : (zipE x y).items env st = (x.val env st).bind fun u st => (y.val env st).bind fun v st => .of (zipV u v) st := rfl
theorem /-ev-/ rng1 {Q : List D → Store → Prop} {j : Int} : @OPi _ ⟨Q⟩ (rngI [.int j] st) = ((-LIM ≤ j ∧ j ≤ LIM) ∧ Q (rangeD 0 j) st) := by
  show @OPi _ ⟨Q⟩ (if -(LIM : Int) ≤ j ∧ j ≤ LIM then .ok (rangeD 0 j) st else .bad) = _
  by_cases h : -(LIM : Int) ≤ j ∧ j ≤ LIM
  · rw [if_pos h]; simp [OPi, h]
  · rw [if_neg h]; simp only [OPi]; simp [h]
end
section
variable {st : Store} {i j : Int} {a b : Bool} {xs ys : List D} {u v : List Nat} {d e : D}
theorem /-ev-/ vw_int : view st (.int i) = .int i := rfl
theorem /-ev-/ vw_str : view st (.str u) = .str u := rfl
theorem /-ev-/ vw_tup : view st (.tup xs) = .tup xs := rfl
theorem /-ev-/ vw_lst : view st (.lst xs) = .lst xs := rfl
theorem /-ev-/ vw_bl : view st (.bl a) = .bl a := rfl
theorem /-ev-/ vw_non : view st .non = .non := rfl
theorem /-ev-/ add_int : op2 .add st (.int i) (.int j) = some (.int (i + j)) := rfl
theorem /-ev-/ add_str : op2 .add st (.str u) (.str v) = if u.length + v.length ≤ LIM then some (.str (u ++ v)) else none := rfl
theorem /-ev-/ add_tup : op2 .add st (.tup xs) (.tup ys) = if xs.length + ys.length ≤ LIM then some (.tup (xs ++ ys)) else none := rfl
theorem /-ev-/ add_lst : op2 .add st (.lst xs) (.lst ys) = if xs.length + ys.length ≤ LIM then some (.lst (xs ++ ys)) else none := rfl
theorem /-ev-/ sub_int : op2 .sub st (.int i) (.int j) = some (.int (i - j)) := rfl
theorem /-ev-/ mul_int : op2 .mul st (.int i) (.int j) = if okMul i j = true then some (.int (i * j)) else none := rfl
theorem /-ev-/ fdiv_int : op2 .fdiv st (.int i) (.int j) = if okDiv j = true then some (.int (i / j)) else none := rfl
theorem /-ev-/ mod_int : op2 .mod st (.int i) (.int j) = if okDiv j = true then some (.int (i % j)) else none := rfl
theorem /-ev-/ lt_int : op2 .lt st (.int i) (.int j) = some (.bl (decide (i < j))) := rfl
theorem /-ev-/ le_int : op2 .le st (.int i) (.int j) = some (.bl (decide (i ≤ j))) := rfl
theorem /-ev-/ gt_int : op2 .gt st (.int i) (.int j) = some (.bl (decide (j < i))) := rfl
theorem /-ev-/ ge_int : op2 .ge st (.int i) (.int j) = some (.bl (decide (j ≤ i))) := rfl
theorem /-ev-/ eq_int : op2 .eq st (.int i) (.int j) = some (.bl (decide (i = j))) := by
  simp [op2, view, okEq, pyEq] <;> (first | rfl | exact Bool.beq_eq_decide_eq _ _)
theorem /-ev-/ ne_int : op2 .ne st (.int i) (.int j) = some (.bl (!decide (i = j))) := by
  simp [op2, view, okEq, pyEq] <;> (first | rfl | exact Bool.beq_eq_decide_eq _ _)
theorem /-ev-/ eq_str : op2 .eq st (.str u) (.str v) = some (.bl (decide (u = v))) := by
  simp [op2, view, okEq, pyEq] <;> (first | rfl | exact Bool.beq_eq_decide_eq _ _)
theorem /-ev-/ ne_str : op2 .ne st (.str u) (.str v) = some (.bl (!decide (u = v))) := by
  simp [op2, view, okEq, pyEq] <;> (first | rfl | exact Bool.beq_eq_decide_eq _ _)
theorem /-ev-/ is_non : op2 .is st .non .non = some (.bl true) := rfl
theorem /-ev-/ isnot_non : op2 .isnot st .non .non = some (.bl false) := rfl
theorem /-ev-/ is_tup : op2 .is st (.tup xs) .non = some (.bl false) := rfl
theorem /-ev-/ isnot_tup : op2 .isnot st (.tup xs) .non = some (.bl true) := rfl
theorem /-ev-/ is_int : op2 .is st (.int i) .non = some (.bl false) := rfl
theorem /-ev-/ isnot_int : op2 .isnot st (.int i) .non = some (.bl true) := rfl
theorem /-ev-/ mem_chr {c : Nat} : op2 .mem st (.str [c]) (.str v) = some (.bl (v.contains c)) := rfl
theorem /-ev-/ nmem_chr {c : Nat} : op2 .nmem st (.str [c]) (.str v) = some (.bl (!v.contains c)) := rfl
theorem /-ev-/ idx_str : op2 .idx st (.str u) (.int i) = (atI u i).map fun c => .str [c] := rfl
theorem /-ev-/ idx_tup : op2 .idx st (.tup xs) (.int i) = atI xs i := rfl
theorem /-ev-/ idx_lst : op2 .idx st (.lst xs) (.int i) = atI xs i := rfl
theorem /-ev-/ idx_fl : op2 .idx st (.fl xs) (.int i) = atI xs i := rfl
theorem /-ev-/ tr_bl : truth st (.bl a) = some a := rfl
theorem /-ev-/ tr_int : truth st (.int i) = some (i != 0) := rfl
theorem /-ev-/ tr_non : truth st .non = some false := rfl
theorem /-ev-/ tr_str : truth st (.str u) = some (!u.isEmpty) := rfl
theorem /-ev-/ tr_tup : truth st (.tup xs) = some (!xs.isEmpty) := rfl
theorem /-ev-/ tr_lst : truth st (.lst xs) = some (!xs.isEmpty) := rfl
theorem /-ev-/ neg_int : neg1 (.int i) = some (.int (-i)) := rfl
theorem /-ev-/ sf_tup : seqF (.tup xs) = some xs := rfl
theorem /-ev-/ sf_lst : seqF (.lst xs) = some xs := rfl
theorem /-ev-/ si_tup : seqI (.tup xs) = some xs := rfl
theorem /-ev-/ si_lst : seqI (.lst xs) = some xs := rfl
theorem /-ev-/ si_str : seqI (.str u) = some (u.map fun c => .str [c]) := rfl
theorem /-ev-/ sv_tup : seqv st (.tup xs) = some xs := rfl
theorem /-ev-/ sv_lst : seqv st (.lst xs) = some xs := rfl
theorem /-ev-/ sv_fl : seqv st (.fl xs) = some xs := rfl
theorem /-ev-/ len_str : bi .len st [.str u] = some (.int u.length) := rfl
theorem /-ev-/ len_tup : bi .len st [.tup xs] = some (.int xs.length) := rfl
theorem /-ev-/ len_lst : bi .len st [.lst xs] = some (.int xs.length) := rfl
theorem /-ev-/ len_fl : bi .len st [.fl xs] = some (.int xs.length) := rfl
theorem /-ev-/ int_int : bi .int st [.int i] = some (.int i) := rfl
theorem /-ev-/ int_bl : bi .int st [.bl a] = some (.int (b2i a)) := rfl
theorem /-ev-/ int_str : bi .int st [.str u] = if u ≠ [] ∧ u.length ≤ 40 ∧ u.all isDig = true then some (.int (digVal u)) else none := rfl
theorem /-ev-/ str_int : bi .str st [.int i] = if i.natAbs < 2 ^ 1900 then some (.str (intStr i)) else none := rfl
theorem /-ev-/ str_str : bi .str st [.str u] = some (.str u) := rfl
theorem /-ev-/ abs_int : bi .abs st [.int i] = some (.int i.natAbs) := rfl
theorem /-ev-/ bool_bl : bi .bool st [.bl a] = some (.bl a) := rfl
theorem /-ev-/ min_int : bi .min st [.int i, .int j] = some (.int (if j < i then j else i)) := rfl
theorem /-ev-/ max_int : bi .max st [.int i, .int j] = some (.int (if j > i then j else i)) := rfl
theorem /-ev-/ divmod_int : bi .divmod st [.int i, .int j] = if okDiv j = true then some (.tup [.int (i / j), .int (i % j)]) else none := rfl
theorem /-ev-/ tuple_lst : bi .tuple st [.lst xs] = some (.tup xs) := rfl
theorem /-ev-/ tuple_tup : bi .tuple st [.tup xs] = some (.tup xs) := rfl
theorem /-ev-/ list_lst : bi .list st [.lst xs] = some (.lst xs) := rfl
theorem /-ev-/ list_tup : bi .list st [.tup xs] = some (.lst xs) := rfl
theorem /-ev-/ sl_str {lo hi : Option Int} : slice st (.str u) lo hi = some (.str (cut u lo hi)) := rfl
theorem /-ev-/ sl_tup {lo hi : Option Int} : slice st (.tup xs) lo hi = some (.tup (cut xs lo hi)) := rfl
theorem /-ev-/ sl_lst {lo hi : Option Int} : slice st (.lst xs) lo hi = some (.lst (cut xs lo hi)) := rfl
theorem /-ev-/ sl_fl {lo hi : Option Int} : slice st (.fl xs) lo hi = some (.lst (cut xs lo hi)) := rfl
theorem /-ev-/ fmt_str : fmtD (.str u) = some (.str u) := rfl
theorem /-ev-/ fmt_int : fmtD (.int i) = if i.natAbs < 2 ^ 1900 then some (.str (intStr i)) else none := rfl
theorem /-ev-/ cons_lst : consV d (.lst xs) st = if xs.length < LIM then .ok (.lst (d :: xs)) st else .bad := rfl
theorem /-ev-/ lv_lst : listv st (.lst xs) = some xs := rfl
theorem /-ev-/ atI_zero {α : Type} {x : α} {l : List α} : atI (x :: l) 0 = some x := by
  simp [atI, ixN]
theorem atI_nat {α : Type} {l : List α} {k : Nat} : atI l (k : Int) = l[k]? := by
  unfold atI ixN
  by_cases h : (k : Int) < l.length
  · have h2 : k < l.length := by omega
    simp [h]
  · have h2 : l.length ≤ k := by omega
    simp [h, List.getElem?_eq_none h2]
theorem /-ev-/ atI_one {α : Type} {x y : α} {l : List α} : atI (x :: y :: l) 1 = some y := atI_nat (k := 1)
theorem /-ev-/ atI_two {α : Type} {x y z : α} {l : List α} : atI (x :: y :: z :: l) 2 = some z := atI_nat (k := 2)
theorem /-ev-/ atI_three {α : Type} {x y z w : α} {l : List α} : atI (x :: y :: z :: w :: l) 3 = some w := atI_nat (k := 3)
end
theorem /-ev-/ not_f : (!false) = true := rfl
theorem /-ev-/ not_t : (!true) = false := rfl
theorem /-ev-/ testsV_nil {env : Env} {st : Store} : testsV [] env st = .ok true st := rfl
theorem /-ev-/ testsV_one {e : Sem} {env : Env} {st : Store} : testsV [e] env st = e.test env st := rfl
theorem turnV_eq {own : List Nat} {elt : Sem} {p : Pt} {ifs : List Sem} {env : Env} {x : D} {st : Store} : turnV own elt p ifs env x st = match setPt p x (wipe env own) with
  | none => .bad
  | some env => (testsV ifs env st).bind fun t st => if t = true then (elt.val env st).bind fun y st => .ok (some y) st else .ok none st := rfl
section
variable {s : Sl} {env : Env} {n : Nat} {d : D} {xs : List D}
theorem /-ev-/ get_v : Env.get (.v d :: env) 0 = some d := rfl
theorem /-ev-/ get_s : Env.get (s :: env) (n + 1) = Env.get env n := rfl
theorem /-ev-/ pk_v : Env.pk (.v d :: env) 0 = some d := rfl
theorem /-ev-/ pk_o : Env.pk (.own xs :: env) 0 = some (.lst xs) := rfl
theorem /-ev-/ pk_s : Env.pk (s :: env) (n + 1) = Env.pk env n := rfl
theorem /-ev-/ ix_z : (s :: env)[0]? = some s := rfl
theorem /-ev-/ ix_s : (s :: env)[n + 1]? = env[n]? := rfl
theorem /-ev-/ set_z {t : Sl} : List.set (s :: env) 0 t = t :: env := rfl
theorem /-ev-/ set_s {t : Sl} : List.set (s :: env) (n + 1) t = s :: env.set n t := rfl
theorem /-ev-/ wipe_nil : wipe env [] = env := rfl
theorem /-ev-/ wipe_cons {l : List Nat} : wipe env (n :: l) = (wipe env l).set n .em := rfl
theorem /-ev-/ setPt_nm : setPt (.nm n) d env = some (env.set n (.v d)) := rfl
theorem /-ev-/ setPt_tp {ps : List Pt} : setPt (.tp ps) (.tup xs) env = setPts ps xs env := rfl
theorem /-ev-/ setPt_tx {ps : List Pt} {c : Nat} : setPt (.tp ps) (.exc c xs) env = setPts ps xs env := rfl
theorem /-ev-/ setPt_tl {ps : List Pt} : setPt (.tp ps) (.lst xs) env = setPts ps xs env := rfl
theorem /-ev-/ setPts_nil : setPts [] [] env = some env := rfl
theorem /-ev-/ setPts_cons {p : Pt} {ps : List Pt} : setPts (p :: ps) (d :: xs) env = (setPt p d env).bind (setPts ps xs) := rfl
theorem /-ev-/ ob_some {α β : Type} {a : α} {f : α → Option β} : (some a).bind f = f a := rfl
theorem /-ev-/ om_some {α β : Type} {a : α} {f : α → β} : (some a).map f = some (f a) := rfl
theorem /-ev-/ dt_eq {p : Prop} [Decidable p] : (decide p = true) = p := by simp
theorem /-ev-/ df_eq {p : Prop} [Decidable p] : (decide p = false) = ¬ p := by simp
theorem /-ev-/ bn_eq {b : Bool} : ((!b) = true) = (b = false) := by cases b <;> simp
theorem /-ev-/ bf_eq {b : Bool} : ((!b) = false) = (b = true) := by cases b <;> simp
theorem /-ev-/ ne0 {i : Int} : ((i != 0) = true) = (i ≠ 0) := by simp
theorem /-ev-/ len_nil {α : Type} : ([] : List α).length = 0 := rfl
theorem /-ev-/ len_cons {α : Type} {a : α} {l : List α} : (a :: l).length = l.length + 1 := rfl
theorem /-ev-/ map_nil' {α β : Type} {f : α → β} : List.map f [] = [] := rfl
theorem /-ev-/ map_cons' {α β : Type} {f : α → β} {a : α} {l : List α} : List.map f (a :: l) = f a :: l.map f := rfl
theorem /-ev-/ rep_z {α : Type} {a : α} : List.replicate 0 a = [] := rfl
theorem /-ev-/ rep_s {α : Type} {a : α} {n : Nat} : List.replicate (n + 1) a = a :: List.replicate n a := rfl
theorem /-ev-/ app_nil {α : Type} {l : List α} : [] ++ l = l := rfl
theorem /-ev-/ app_cons {α : Type} {a : α} {l m : List α} : (a :: l) ++ m = a :: (l ++ m) := rfl
end
section
variable {p q : Prop} {α : Sort _} {x y : α}
theorem /-ev-/ ft_eq : (false = true) = False := by simp
theorem /-ev-/ tf_eq : (true = false) = False := by simp
theorem /-ev-/ t_imp : (True → p) = p := by simp
theorem /-ev-/ f_imp : (False → p) = True := by simp
theorem /-ev-/ n_t : (¬ True) = False := by simp
theorem /-ev-/ n_f : (¬ False) = True := by simp
theorem /-ev-/ a_t : (p ∧ True) = p := by simp
theorem /-ev-/ t_a : (True ∧ p) = p := by simp
theorem /-ev-/ a_f : (p ∧ False) = False := by simp
theorem /-ev-/ f_a : (False ∧ p) = False := by simp
theorem /-ev-/ i_t : (p → True) = True := by simp
theorem /-ev-/ e_s : (x = x) = True := by simp
theorem /-ev-/ it_t {x y : α} : (if True then x else y) = x := by simp
theorem /-ev-/ it_f {x y : α} : (if False then x else y) = y := by simp
theorem /-ev-/ nn {p : Prop} : (¬ ¬ p) = p := by simp
theorem /-ev-/ n_sub (n : Nat) : n - n = 0 := Nat.sub_self n
end
theorem OP_run {np ns : Nat} {s : StS} {ds : List D} {st : Store} {Q : D → Store → Prop} (h : ds.length = np)
    (r : @RP ⟨fun _ st => Q .non st, Q, fun _ _ => False, fun _ _ => False⟩ (s (ds.map Sl.v ++ List.replicate (ns - ds.length) .em) st)) : @OPi _ ⟨Q⟩ (runF np ns s ds st) := by
  unfold runF
  rw [if_pos h]
  revert r
  generalize s (ds.map Sl.v ++ List.replicate (ns - ds.length) .em) st = r
  cases r <;> exact fun h => h
theorem forL_inv {nx : Env → Store → Prop} {rt : D → Store → Prop} {bk ct : Env → Store → Prop} {body : StS} {p : Pt} {xs : List D} {env : Env} {st : Store} (I : List D → Env → Store → Prop) (h0 : I [] env st)
    (hs : ∀ (pre : List D) (x : D) (post : List D) (env : Env) (st : Store), xs = pre ++ x :: post → I pre env st → ∃ env1, setPt p x env = some env1 ∧ @RP ⟨I (pre ++ [x]), rt, nx, I (pre ++ [x])⟩ (body env1 st))
    (he : ∀ env st, I xs env st → nx env st) : @RP ⟨nx, rt, bk, ct⟩ (forL body p xs env st) := by
  have go : ∀ (post pre : List D) (env : Env) (st : Store), xs = pre ++ post → I pre env st → @RP ⟨nx, rt, bk, ct⟩ (forL body p post env st) := by
    intro post
    induction post with
    | nil =>
      intro pre env st e h
      rw [List.append_nil] at e
      subst e
      exact he env st h
    | cons x post ih =>
      intro pre env st e h
      obtain ⟨env1, e1, h1⟩ := hs pre x post env st e h
      unfold forL
      rw [e1]
      have ih2 := fun env st h => ih (pre ++ [x]) env st (by rw [e]; simp) h
      show @RP ⟨nx, rt, bk, ct⟩ (match body env1 st with
        | .nx env st => forL body p post env st
        | .ct env st => forL body p post env st
        | .bk env st => .nx env st
        | o => o)
      revert h1
      generalize body env1 st = r
      cases r with
      | nx e s => exact fun h => ih2 e s h
      | ct e s => exact fun h => ih2 e s h
      | bk e s => exact fun h => h
      | rt e s => exact fun h => h
      | _ => exact fun h => h.elim
  exact go xs [] env st rfl h0
theorem comp_mapL {α : Type} {f : D → Store → O (Option D)} {enc : α → D} {g : α → D} {st : Store} (l : List α) (hl : l.length ≤ LIM) (h : ∀ a ∈ l, f (enc a) st = .ok (some (g a)) st) : compL f (l.map enc) [] st = .ok (l.map g) st := by
  have go : ∀ (post : List α) (acc : List D), (∀ x ∈ post, f (enc x) st = .ok (some (g x)) st) → acc.length + post.length ≤ LIM → compL f (post.map enc) acc st = .ok (acc ++ post.map g) st := by
    intro post
    induction post with
    | nil => intro acc _ _; simp [compL]
    | cons x post ih =>
      intro acc h hl
      simp only [List.length_cons] at hl
      rw [List.map_cons]
      unfold compL
      rw [h x (by simp)]
      show (if acc.length < LIM then compL f (post.map enc) (acc ++ [g x]) st else .bad) = _
      rw [if_pos (by omega), ih _ (fun y hy => h y (by simp [hy])) (by simp; omega)]
      simp
  have := go l [] h (by simpa using hl)
  simpa using this
theorem OP_eq {α : Type} {o : O α} {r : α} {st : Store} (h : @OPi _ ⟨fun a s => a = r ∧ s = st⟩ o) : o = .ok r st := by
  cases o with
  | ok a s => obtain ⟨h1, h2⟩ := h; rw [h1, h2]
  | _ => exact h.elim
theorem bls_map {α : Type} (g : α → Bool) : ∀ l : List α, bls (l.map fun a => .bl (g a)) = some (l.map g)
  | [] => rfl
  | a :: l => by simp [bls, bls_map g l]
theorem lim_ge {k : Nat} (h : k ≤ 10000000) : k ≤ LIM := by
  unfold LIM; omega
theorem comp_filterL {α : Type} {f : D → Store → O (Option D)} {enc g : α → D} {P : α → Bool} {st : Store} (l : List α) (hl : l.length ≤ LIM) (h : ∀ a ∈ l, f (enc a) st = .ok (if P a = true then some (g a) else none) st) : compL f (l.map enc) [] st = .ok ((l.filter P).map g) st := by
  have go : ∀ (post : List α) (acc : List D), (∀ x ∈ post, f (enc x) st = .ok (if P x = true then some (g x) else none) st) → acc.length + post.length ≤ LIM → compL f (post.map enc) acc st = .ok (acc ++ (post.filter P).map g) st := by
    intro post
    induction post with
    | nil => intro acc _ _; simp [compL]
    | cons x post ih =>
      intro acc h hl
      simp only [List.length_cons] at hl
      rw [List.map_cons]
      unfold compL
      rw [h x (by simp)]
      by_cases hp : P x = true
      · rw [if_pos hp]
        show (if acc.length < LIM then compL f (post.map enc) (acc ++ [g x]) st else .bad) = _
        rw [if_pos (by omega), ih _ (fun y hy => h y (by simp [hy])) (by simp; omega)]
        simp [hp]
      · rw [if_neg hp]
        show compL f (post.map enc) acc st = _
        rw [ih _ (fun y hy => h y (by simp [hy])) (by omega)]
        simp [hp]
  have := go l [] h (by simpa using hl)
  simpa using this
theorem range0 (m : Int) : rangeD 0 m = (List.range m.toNat).map fun (k : Nat) => D.int (k : Int) := by
  unfold rangeD
  simp
theorem range_at {m : Nat} {pre post : List Nat} {x : Nat} (h : List.range m = pre ++ x :: post) : x = pre.length ∧ pre.length < m := by
  have h1 : (List.range m)[pre.length]? = some x := by rw [h]; simp
  rw [List.getElem?_eq_some_iff] at h1
  obtain ⟨h2, h3⟩ := h1
  simp at h2 h3
  exact ⟨h3.symm, h2⟩
theorem comp_invL {α : Type} {Q : List D → Store → Prop} {f : D → Store → O (Option D)} {enc : α → D} {l : List α} {st : Store} (J : List α → List D → Store → Prop) (hl : l.length ≤ LIM) (h0 : J [] [] st)
    (hs : ∀ (pre : List α) (x : α) (post : List α) (acc : List D) (st : Store), l = pre ++ x :: post → J pre acc st → @OPi _ ⟨fun o st' => match o with
      | some y => J (pre ++ [x]) (acc ++ [y]) st'
      | none => J (pre ++ [x]) acc st'⟩ (f (enc x) st))
    (he : ∀ acc st', J l acc st' → Q acc st') : @OPi _ ⟨Q⟩ (compL f (l.map enc) [] st) := by
  have go : ∀ (post pre : List α) (acc : List D) (st : Store), l = pre ++ post → acc.length ≤ pre.length → J pre acc st → @OPi _ ⟨Q⟩ (compL f (post.map enc) acc st) := by
    intro post
    induction post with
    | nil =>
      intro pre acc st e hl h
      rw [List.append_nil] at e
      subst e
      exact he acc st h
    | cons x post ih =>
      intro pre acc st e hl2 h
      have h1 := hs pre x post acc st e h
      have hlen : l.length = pre.length + (post.length + 1) := by rw [e]; simp
      rw [List.map_cons]
      unfold compL
      revert h1
      generalize f (enc x) st = o
      cases o with
      | ok a s =>
        cases a with
        | none => exact fun h => ih (pre ++ [x]) acc s (by rw [e]; simp) (by simp; omega) h
        | some y =>
          intro h
          show @OPi _ ⟨Q⟩ (if acc.length < LIM then compL f (post.map enc) (acc ++ [y]) s else .bad)
          rw [if_pos (by omega)]
          exact ih (pre ++ [x]) (acc ++ [y]) s (by rw [e]; simp) (by simp; omega) h
      | _ => exact fun h => h.elim
  exact go l [] [] st rfl (Nat.le_refl _) h0
theorem nodup_le {α : Type} [DecidableEq α] : ∀ {l m : List α}, l.Nodup → (∀ x ∈ l, x ∈ m) → l.length ≤ m.length
  | [], _, _, _ => Nat.zero_le _
  | a :: l, m, h, hs => by
    obtain ⟨h1, h2⟩ := List.nodup_cons.mp h
    have ih := nodup_le (l := l) (m := m.erase a) h2 fun x hx => (List.mem_erase_of_ne (fun e => h1 (by rw [← e]; exact hx))).mpr (hs x (by simp [hx]))
    have := List.length_erase_of_mem (hs a (by simp))
    have hp := List.length_pos_of_mem (hs a (by simp))
    simp only [List.length_cons]
    omega
end G
set_option hygiene false in
local macro_rules | `(tactic| simp! only [$ls,*]) => `(tactic| simp only [seval, G.OP_ok, G.OP_bad, G.OP_bind, G.O_of_some, G.O_of_none, G.OP_of_ite, G.OP_ite, G.RP_ite, ↓G.OP_ite_bad, ↓G.RP_ite_bad, G.RP_nx, G.RP_rt, G.RP_bk, G.RP_ct, G.RP_bad, G.RP_run, G.RP_seqR, G.RP_seq, G.RP_pass, G.RP_brk, G.RP_cont, G.RP_ret0, G.RP_badS, G.RP_ret, G.RP_ex, G.RP_nm, G.RP_own, G.ownR_lst, G.RP_if, G.RP_tg, G.RP_par, G.RP_asgn, G.RP_unp, G.RP_for, G.RP_app, G.RP_frz, G.RP_aug, G.aug_add, G.aug_sub, G.ofPut_some, G.putO_nil, G.putO_v, G.putO_o, G.setAll_nil, G.setAll_cons, G.nmT_eq, G.osubR_eq, G.RP_fld, G.val_k, G.val_v, G.val_pk, G.val_op, G.val_neg, G.val_no, G.val_ife, G.val_tup, G.val_lst, G.val_new, G.val_bi, G.val_call, G.val_callK, G.val_mk, G.val_mkK, G.val_mkc, G.get_c, G.val_cm, G.val_isi, G.val_at, G.val_has, G.val_lenO, G.val_strO, G.val_boolO, G.val_ls, G.lsV_lst, G.val_up, G.upD_str, G.val_d0, G.val_d1, G.d1_str, G.val_ch, G.val_split, G.val_join, G.val_fmt, G.val_joined, G.val_cons, G.val_bop, G.val_sl, G.val_lc, G.tst_k, G.tst_v, G.tst_op, G.tst_bi, G.tst_call, G.tst_isi, G.tst_ch, G.tst_has, G.tst_boolO, G.tst_at, G.tst_me, G.tst_no, G.tst_bop, G.tst_ife, G.bopV_one, G.bopV_cons, G.bopT_one, G.bopT_cons, G.args_nil, G.args_cons, G.joinedV_nil, G.joinedV_cons, G.optV_none, G.optV_one, G.optI_int, G.itm_v, G.itm_pk, G.itm_op, G.itm_call, G.itm_at, G.itm_sl, G.itm_lst, G.itm_tup, G.itm_lc, G.itm_rng, G.itm_enum, G.itm_zip, G.rng1, G.vw_int, G.vw_str, G.vw_tup, G.vw_lst, G.vw_bl, G.vw_non, G.add_int, G.add_str, G.add_tup, G.add_lst, G.sub_int, G.mul_int, G.fdiv_int, G.mod_int, G.lt_int, G.le_int, G.gt_int, G.ge_int, G.eq_int, G.ne_int, G.eq_str, G.ne_str, G.is_non, G.isnot_non, G.is_tup, G.isnot_tup, G.is_int, G.isnot_int, G.mem_chr, G.nmem_chr, G.idx_str, G.idx_tup, G.idx_lst, G.idx_fl, G.tr_bl, G.tr_int, G.tr_non, G.tr_str, G.tr_tup, G.tr_lst, G.neg_int, G.sf_tup, G.sf_lst, G.si_tup, G.si_lst, G.si_str, G.sv_tup, G.sv_lst, G.sv_fl, G.len_str, G.len_tup, G.len_lst, G.len_fl, G.int_int, G.int_bl, G.int_str, G.str_int, G.str_str, G.abs_int, G.bool_bl, G.min_int, G.max_int, G.divmod_int, G.tuple_lst, G.tuple_tup, G.list_lst, G.list_tup, G.sl_str, G.sl_tup, G.sl_lst, G.sl_fl, G.fmt_str, G.fmt_int, G.cons_lst, G.lv_lst, G.atI_zero, G.atI_one, G.atI_two, G.atI_three, G.not_f, G.not_t, G.testsV_nil, G.testsV_one, G.get_v, G.get_s, G.pk_v, G.pk_o, G.pk_s, G.ix_z, G.ix_s, G.set_z, G.set_s, G.wipe_nil, G.wipe_cons, G.setPt_nm, G.setPt_tp, G.setPt_tx, G.setPt_tl, G.setPts_nil, G.setPts_cons, G.ob_some, G.om_some, G.dt_eq, G.df_eq, G.bn_eq, G.bf_eq, G.ne0, G.len_nil, G.len_cons, G.map_nil', G.map_cons', G.rep_z, G.rep_s, G.app_nil, G.app_cons, G.ft_eq, G.tf_eq, G.t_imp, G.f_imp, G.n_t, G.n_f, G.a_t, G.t_a, G.a_f, G.f_a, G.i_t, G.e_s, G.it_t, G.it_f, G.nn, G.n_sub, $ls,*])
namespace G
def subV (x k d : D) (env : Env) (st : Store) : R := match x, k with
    | .loc l, .int k => (match st[l]? with
      | some (.lst xs) => match ixN xs.length k with
        | some j => if ltLoc l d then .nx env (st.set l (.lst (xs.set j d))) else .bad
        | none => .bad
      | _ => .bad)
    | _, _ => .bad
theorem /-ev-/ RP_sub {s1 s2 : Sem} {d : D} {env : Env} {st : Store} {nx : Env → Store → Prop} {rt : D → Store → Prop} {bk ct : Env → Store → Prop} : @RP ⟨nx, rt, bk, ct⟩ (subR s1 s2 d env st) = @OPi _ ⟨fun x st => @OPi _ ⟨fun k st => @RP ⟨nx, rt, bk, ct⟩ (subV x k d env st)⟩ (s2.val env st)⟩ (s1.val env st) := by
  unfold subR
  rw [RP_run]
  congr 2
  funext x st
  rw [RP_run]
  rfl
theorem /-ev-/ ixN30 : ixN 3 0 = some 0 := by decide
theorem /-ev-/ ixN31 : ixN 3 1 = some 1 := by decide
theorem /-ev-/ ixN32 : ixN 3 2 = some 2 := by decide
theorem /-ev-/ lt_int' {l : Nat} {i : Int} : ltLoc l (.int i) = true := rfl
theorem /-ev-/ setD_z {d e : D} {xs : List D} : List.set (d :: xs) 0 e = e :: xs := rfl
theorem /-ev-/ setD_s {d e : D} {xs : List D} {n : Nat} : List.set (d :: xs) (n + 1) e = d :: xs.set n e := rfl
theorem /-ev-/ isi_int_int {Γ : Ctx} {st : Store} {i : Int} : isiV Γ st (.int i) .int = some true := rfl
theorem /-ev-/ isi_int_bool {Γ : Ctx} {st : Store} {i : Int} : isiV Γ st (.int i) .bool = some false := rfl
theorem /-ev-/ isi_str_str {Γ : Ctx} {st : Store} {i : List Nat} : isiV Γ st (.str i) .str = some true := rfl
theorem /-ev-/ isi_tup_tup {Γ : Ctx} {st : Store} {i : List D} : isiV Γ st (.tup i) .tuple = some true := rfl
def fldV (Γ : Ctx) (f : Nm) (d x : D) (env : Env) (st : Store) : R := match x with
    | .loc l => (match st[l]? with
      | some (.ins c fs) => if ltLoc l d = true ∧ fs.length < 100 ∧ isFld Γ c f = true then .nx env (st.set l (.ins c (putF f d fs))) else .bad
      | _ => .bad)
    | _ => .bad
theorem /-ev-/ RP_fldV {Γ : Ctx} {f : Nm} {s1 : Sem} {d : D} {env : Env} {st : Store} {nx : Env → Store → Prop} {rt : D → Store → Prop} {bk ct : Env → Store → Prop} : @RP ⟨nx, rt, bk, ct⟩ (fldR Γ f s1 d env st) = @OPi _ ⟨fun x st => @RP ⟨nx, rt, bk, ct⟩ (fldV Γ f d x env st)⟩ (s1.val env st) := by
  rw [RP_fldR]; rfl
theorem pow_i {i j : Int} {st : Store} (h : 0 ≤ j) (h2 : j ≤ 1000) (h3 : i.natAbs < 1000) : op2 .pow st (.int i) (.int j) = some (.int (i ^ j.toNat)) := if_pos ⟨h, h2, h3⟩
theorem /-ev-/ pow6 {st : Store} : op2 .pow st (.int 10) (.int 6) = some (.int 1000000) := pow_i (by decide) (by decide) (by decide)
theorem /-ev-/ pow9 {st : Store} : op2 .pow st (.int 10) (.int 9) = some (.int 1000000000) := pow_i (by decide) (by decide) (by decide)
theorem /-ev-/ pow15 {st : Store} : op2 .pow st (.int 10) (.int 15) = some (.int 1000000000000000) := pow_i (by decide) (by decide) (by decide)
theorem /-ev-/ pow16 {st : Store} : op2 .pow st (.int 10) (.int 16) = some (.int 10000000000000000) := pow_i (by decide) (by decide) (by decide)
theorem /-ev-/ pow17 {st : Store} : op2 .pow st (.int 10) (.int 17) = some (.int 100000000000000000) := pow_i (by decide) (by decide) (by decide)
theorem /-ev-/ pow18 {st : Store} : op2 .pow st (.int 10) (.int 18) = some (.int 1000000000000000000) := pow_i (by decide) (by decide) (by decide)
theorem /-ev-/ pow30 {st : Store} : op2 .pow st (.int 10) (.int 30) = some (.int 1000000000000000000000000000000) := pow_i (by decide) (by decide) (by decide)
theorem /-ev-/ pow33 {st : Store} : op2 .pow st (.int 10) (.int 33) = some (.int 1000000000000000000000000000000000) := pow_i (by decide) (by decide) (by decide)
theorem /-ev-/ lt_ints {l : Nat} {d : D} {ds : List D} : ltLocs l (d :: ds) = (ltLoc l d && ltLocs l ds) := rfl
theorem /-ev-/ lt_nil {l : Nat} : ltLocs l [] = true := rfl
section
variable {env : Env} {st : Store} {x y : Sem} {es : List Sem} {xs : List D} {d : D} {i : Nat} {nx : Env → Store → Prop} {rt : D → Store → Prop} {bk ct : Env → Store → Prop}
theorem /-ev-/ val_sortK {kx : KX} : (sortKE kx x).val env st = (x.val env st).bind fun d st => .of (((listv st d).bind fun xs => sortK (fun x => kx.val env x) xs).map .lst) st := rfl
theorem /-ev-/ itm_sortK {kx : KX} : (sortKE kx x).items env st = ((sortKE kx x).val env st).bind fun x st => .of (seqI x) st := rfl
theorem /-ev-/ val_lrng : (lrngE es).val env st = (args es env st).bind fun ds st => (rngI ds st).bind fun xs st => .ok (.lst xs) st := rfl
theorem /-ev-/ val_eqO {Γ : Ctx} {n : Bool} : (eqOE Γ i n x y).val env st = (x.val env st).bind fun u st => (y.val env st).bind fun v st => eqOV Γ i n u v st := rfl
theorem /-ev-/ tst_eqO {Γ : Ctx} {n : Bool} : (eqOE Γ i n x y).test env st = ((eqOE Γ i n x y).val env st).bind fun x st => .of (truth st x) st := rfl
theorem /-ev-/ val_index : (indexE x y).val env st = (x.val env st).bind fun u st => if isLs u = true then (y.val env st).bind fun v st => .of (mt .index st u [v]) st else .bad := rfl
theorem /-ev-/ val_count : (countE x y).val env st = (x.val env st).bind fun u st => if isLs u = true then (y.val env st).bind fun v st => .of (mt .count st u [v]) st else .bad := rfl
theorem /-ev-/ val_tindex : (tindexE x y).val env st = (x.val env st).bind fun u st => if isTp u = true then (y.val env st).bind fun v st => .of (mt .index st u [v]) st else .bad := rfl
theorem /-ev-/ isTp_tup : isTp (.tup xs) = true := rfl
theorem /-ev-/ val_lc2 {sI sI1 elt : Sem} {own1 own : List Nat} {p1 p : Pt} {ifs1 ifs : List Sem} : (lc2E sI sI1 elt own1 p1 ifs1 own p ifs).val env st = (sI.items env st).bind fun items st => (compL2 (turn2V sI1 elt own1 p1 ifs1 own p ifs env) items [] st).bind fun ds st => .ok (.lst ds) st := rfl
theorem /-ev-/ itm_lc2 {sI sI1 elt : Sem} {own1 own : List Nat} {p1 p : Pt} {ifs1 ifs : List Sem} : (lc2E sI sI1 elt own1 p1 ifs1 own p ifs).items env st = ((lc2E sI sI1 elt own1 p1 ifs1 own p ifs).val env st).bind fun x st => .of (seqI x) st := rfl
theorem /-ev-/ isLs_lst : isLs (.lst xs) = true := rfl
theorem /-ev-/ RP_ins : @RP ⟨nx, rt, bk, ct⟩ (insS i x y env st) = @RP ⟨nx, rt, bk, ct⟩ (match env[i]? with
  | some (.own xs) => (x.val env st).run env fun k st => (y.val env st).run env fun d st => match k with
    | .int k => if 0 ≤ k ∧ k ≤ xs.length ∧ xs.length < LIM then .nx (env.set i (.own (xs.take k.toNat ++ d :: xs.drop k.toNat))) st else .bad
    | _ => .bad
  | _ => .bad) := rfl
end
end G
set_option hygiene false in
local macro_rules | `(tactic| simp! only [$ls,*]) => `(tactic| simp only [seval, G.OP_ok, G.OP_bad, G.OP_bind, G.O_of_some, G.O_of_none, G.OP_of_ite, G.OP_ite, G.RP_ite, ↓G.OP_ite_bad, ↓G.RP_ite_bad, G.RP_nx, G.RP_rt, G.RP_bk, G.RP_ct, G.RP_bad, G.RP_run, G.RP_seqR, G.RP_seq, G.RP_pass, G.RP_brk, G.RP_cont, G.RP_ret0, G.RP_badS, G.RP_ret, G.RP_ex, G.RP_nm, G.RP_own, G.ownR_lst, G.RP_if, G.RP_tg, G.RP_par, G.RP_asgn, G.RP_unp, G.RP_for, G.RP_app, G.RP_frz, G.RP_aug, G.aug_add, G.aug_sub, G.ofPut_some, G.putO_nil, G.putO_v, G.putO_o, G.setAll_nil, G.setAll_cons, G.nmT_eq, G.osubR_eq, G.RP_fld, G.val_k, G.val_v, G.val_pk, G.val_op, G.val_neg, G.val_no, G.val_ife, G.val_tup, G.val_lst, G.val_new, G.val_bi, G.val_call, G.val_callK, G.val_mk, G.val_mkK, G.val_mkc, G.get_c, G.val_cm, G.val_isi, G.val_at, G.val_has, G.val_lenO, G.val_strO, G.val_boolO, G.val_ls, G.lsV_lst, G.val_up, G.upD_str, G.val_d0, G.val_d1, G.d1_str, G.val_ch, G.val_split, G.val_join, G.val_fmt, G.val_joined, G.val_cons, G.val_bop, G.val_sl, G.val_lc, G.tst_k, G.tst_v, G.tst_op, G.tst_bi, G.tst_call, G.tst_isi, G.tst_ch, G.tst_has, G.tst_boolO, G.tst_at, G.tst_me, G.tst_no, G.tst_bop, G.tst_ife, G.bopV_one, G.bopV_cons, G.bopT_one, G.bopT_cons, G.args_nil, G.args_cons, G.joinedV_nil, G.joinedV_cons, G.optV_none, G.optV_one, G.optI_int, G.itm_v, G.itm_pk, G.itm_op, G.itm_call, G.itm_at, G.itm_sl, G.itm_lst, G.itm_tup, G.itm_lc, G.itm_rng, G.itm_enum, G.itm_zip, G.rng1, G.vw_int, G.vw_str, G.vw_tup, G.vw_lst, G.vw_bl, G.vw_non, G.add_int, G.add_str, G.add_tup, G.add_lst, G.sub_int, G.mul_int, G.fdiv_int, G.mod_int, G.lt_int, G.le_int, G.gt_int, G.ge_int, G.eq_int, G.ne_int, G.eq_str, G.ne_str, G.is_non, G.isnot_non, G.is_tup, G.isnot_tup, G.is_int, G.isnot_int, G.mem_chr, G.nmem_chr, G.idx_str, G.idx_tup, G.idx_lst, G.idx_fl, G.tr_bl, G.tr_int, G.tr_non, G.tr_str, G.tr_tup, G.tr_lst, G.neg_int, G.sf_tup, G.sf_lst, G.si_tup, G.si_lst, G.si_str, G.sv_tup, G.sv_lst, G.sv_fl, G.len_str, G.len_tup, G.len_lst, G.len_fl, G.int_int, G.int_bl, G.int_str, G.str_int, G.str_str, G.abs_int, G.bool_bl, G.min_int, G.max_int, G.divmod_int, G.tuple_lst, G.tuple_tup, G.list_lst, G.list_tup, G.sl_str, G.sl_tup, G.sl_lst, G.sl_fl, G.fmt_str, G.fmt_int, G.cons_lst, G.lv_lst, G.atI_zero, G.atI_one, G.atI_two, G.atI_three, G.not_f, G.not_t, G.testsV_nil, G.testsV_one, G.get_v, G.get_s, G.pk_v, G.pk_o, G.pk_s, G.ix_z, G.ix_s, G.set_z, G.set_s, G.wipe_nil, G.wipe_cons, G.setPt_nm, G.setPt_tp, G.setPt_tx, G.setPt_tl, G.setPts_nil, G.setPts_cons, G.ob_some, G.om_some, G.dt_eq, G.df_eq, G.bn_eq, G.bf_eq, G.ne0, G.len_nil, G.len_cons, G.map_nil', G.map_cons', G.rep_z, G.rep_s, G.app_nil, G.app_cons, G.ft_eq, G.tf_eq, G.t_imp, G.f_imp, G.n_t, G.n_f, G.a_t, G.t_a, G.a_f, G.f_a, G.i_t, G.e_s, G.it_t, G.it_f, G.nn, G.n_sub, G.RP_sub, G.ixN30, G.ixN31, G.ixN32, G.lt_int', G.setD_z, G.setD_s, G.isi_int_int, G.isi_int_bool, G.isi_str_str, G.isi_tup_tup, G.RP_fldV, G.pow6, G.pow9, G.pow15, G.pow16, G.pow17, G.pow18, G.pow30, G.pow33, G.lt_ints, G.lt_nil, G.val_sortK, G.itm_sortK, G.val_lrng, G.val_eqO, G.tst_eqO, G.val_index, G.val_count, G.val_tindex, G.isTp_tup, G.val_lc2, G.itm_lc2, G.isLs_lst, G.RP_ins, $ls,*])
namespace G
class FrC where
  fr : List (Nat × Obj)
instance frc0 : FrC := ⟨[]⟩
def Wl [FrC] (l n : Nat) (st : Store) : Prop := ∃ a b c : Int, st[l]? = some (.lst [.int a, .int b, .int c]) ∧ (0 ≤ a ∧ a < 4294967296) ∧ 0 ≤ b ∧ (0 ≤ c ∧ c ≤ n) ∧ ∀ q ∈ FrC.fr, q.1 ≠ l ∧ st[q.1]? = some q.2
section
variable [FrC]
theorem fr_set {l : Nat} {st : Store} {o : Obj} (h : ∀ q ∈ FrC.fr, q.1 ≠ l ∧ st[q.1]? = some q.2) : ∀ q ∈ FrC.fr, q.1 ≠ l ∧ (st.set l o)[q.1]? = some q.2 := fun q hq => ⟨(h q hq).1, by rw [List.getElem?_set_ne (Ne.symm (h q hq).1)]; exact (h q hq).2⟩
theorem Wl.up {l m n : Nat} {st : Store} (h : Wl l m st) (hm : m ≤ n) : Wl l n st := by
  obtain ⟨a, b, c, h1, h2, h3, h4, h5⟩ := h
  exact ⟨a, b, c, h1, h2, h3, by omega, h5⟩
theorem big_lt {i : Int} (h : -(10 ^ 50) ≤ i) (h2 : i ≤ 10 ^ 50) : i.natAbs < BIG := by
  unfold BIG
  have : (10 : Int) ^ 50 < 2 ^ 4000 := by decide +kernel
  omega
theorem okMul_of {i j : Int} (h : -(10 ^ 50) ≤ i) (h2 : i ≤ 10 ^ 50) (h3 : -(10 ^ 50) ≤ j) (h4 : j ≤ 10 ^ 50) : okMul i j = true := by
  unfold okMul
  simp [big_lt h h2, big_lt h3 h4]
theorem okDiv_of {j : Int} (h : 0 < j) (h2 : j ≤ 10 ^ 50) : okDiv j = true := by
  unfold okDiv DIV
  have : (10 : Int) ^ 50 < 2 ^ 4000 := by decide +kernel
  have h3 : j.natAbs < 2 ^ 4000 := by omega
  simp [h, h3]
def SpDip (f : Fd) : Prop := ∀ (l n : Nat) (m : Int) (st : Store), Wl l n st → n ≤ 1000000000 → 1 ≤ m → m ≤ 10 ^ 50 → OP (fun r st' => ∃ k : Int, r = .int k ∧ 0 ≤ k ∧ k < m ∧ Wl l (n + 1) st') (f [.loc l, .int m] st)
theorem sv_loc {l : Nat} {st : Store} {xs : List D} (h : st[l]? = some (.lst xs)) : seqv st (.loc l) = some xs := by
  show (match st[l]? with | some (.lst xs) => some xs | _ => none) = _
  rw [h]
theorem idx_loc {l : Nat} {st : Store} {xs : List D} {i : Int} (h : st[l]? = some (.lst xs)) : op2 .idx st (.loc l) (.int i) = atI xs i := by
  show (seqv st (.loc l)).bind _ = _
  rw [sv_loc h]; rfl
theorem subV_loc {l : Nat} {st : Store} {xs : List D} {k : Int} {d : D} {env : Env} (h : st[l]? = some (.lst xs)) : subV (.loc l) (.int k) d env st = match ixN xs.length k with
    | some j => if ltLoc l d then .nx env (st.set l (.lst (xs.set j d))) else .bad
    | none => .bad := by
  show (match st[l]? with
    | some (.lst xs) => match ixN xs.length k with
      | some j => if ltLoc l d then R.nx env (st.set l (.lst (xs.set j d))) else .bad
      | none => .bad
    | _ => .bad) = _
  rw [h]
theorem set_at {l : Nat} {st : Store} {o o' : Obj} (h : st[l]? = some o) : (st.set l o')[l]? = some o' := by
  rw [List.getElem?_set_self (List.getElem?_eq_some_iff.mp h).1]
theorem idx_set {l : Nat} {st : Store} {xs : List D} {i : Int} (h : l < st.length) : op2 .idx (st.set l (.lst xs)) (.loc l) (.int i) = atI xs i :=
  idx_loc (by rw [List.getElem?_set_self h])
theorem subV_set {l : Nat} {st : Store} {xs : List D} {k : Int} {d : D} {env : Env} (h : l < st.length) : subV (.loc l) (.int k) d env (st.set l (.lst xs)) = match ixN xs.length k with
    | some j => if ltLoc l d then .nx env (st.set l (.lst (xs.set j d))) else .bad
    | none => .bad := by
  rw [subV_loc (by rw [List.getElem?_set_self h])]
  simp only [List.set_set]
end
end G
namespace G
def letS : List Nat := [97, 98, 99, 100, 101, 102, 103, 104, 105, 106, 107, 108, 109, 110, 111, 112, 113, 114, 115, 116, 117, 118, 119, 120, 121, 122]
def digS : List Nat := [48, 49, 50, 51, 52, 53, 54, 55, 56, 57]
def isSign (c : Nat) : Bool := letS.contains c || digS.contains c
def isNameS (s : List Nat) : Bool := decide (1 ≤ s.length ∧ s.length ≤ 8) && (letS.contains (s.getD 0 0) && s.all isSign)
def SpInt (f : Fd) : Prop := ∀ i st, f [.int i] st = .ok (.bl true) st
theorem sp_integer (Γ : Ctx) : SpInt (runF 1 1 (m_is_integer Γ)) := by
  intro i st
  apply OP_eq
  refine OP_run rfl ?_
  delta m_is_integer
  simp! only []
def SpWithin (f : Fd) : Prop := ∀ i a b st, f [.int i, .int a, .int b] st = .ok (.bl (decide (a ≤ i ∧ i ≤ b))) st
theorem sp_within (Γ : Ctx) {f : Fd} (h : SpInt f) : SpWithin (runF 3 3 (m_is_within Γ f)) := by
  intro i a b st
  apply OP_eq
  refine OP_run rfl ?_
  delta m_is_within
  simp! only [h i]
  by_cases h1 : a ≤ i
  · simp! only [h1, decide_true]
  · simp! only [h1, decide_false]
def SpName (f : Fd) : Prop := ∀ s st, f [.str s] st = .ok (.bl (isNameS s)) st
theorem atI_getD {α : Type} {l : List α} {d : α} {k : Nat} (h : k < l.length) : atI l (k : Int) = some (l.getD k d) := by
  rw [atI_nat, List.getD_eq_getElem?_getD, List.getElem?_eq_getElem h]; rfl
theorem sp_name (Γ : Ctx) : SpName (runF 1 2 (m_is_name Γ)) := by
  intro s st
  apply OP_eq
  refine OP_run rfl ?_
  delta m_is_name
  simp! only []
  have e1 : ((1 : Int) ≤ s.length) = (1 ≤ s.length) := by apply propext; omega
  have e2 : ((s.length : Int) ≤ 8) = (s.length ≤ 8) := by apply propext; omega
  simp only [e1, e2]
  have no : ¬ (1 ≤ s.length ∧ s.length ≤ 8) → isNameS s = false := fun h => by unfold isNameS; rw [decide_eq_false h]; rfl
  refine ⟨fun h1 => ⟨fun h2 => by rw [no (by omega)], fun h2 => ?_⟩, fun h1 => by rw [no (by omega)]⟩
  have h2 : s.length ≤ 8 := by simpa using h2
  have e0 : atI s 0 = some (s.getD 0 0) := atI_getD (k := 0) (by omega)
  have e3 : isNameS s = (letS.contains (s.getD 0 0) && s.all isSign) := by
    unfold isNameS
    rw [decide_eq_true ⟨h1, h2⟩]; rfl
  simp! only [e0, e3]
  refine ⟨fun hc => ?_, fun hc => ?_⟩
  · have hc : letS.contains (s.getD 0 0) = true := hc
    rw [comp_mapL (g := fun c => .bl (isSign c)) s (lim_ge (by omega)) fun a ha => ?_]
    · simp! only [bi, lv_lst, bls_map, List.all_map, hc, Bool.true_and]
      rw [e3, hc, Bool.true_and]; rfl
    · apply OP_eq
      simp! only [turnV_eq]
      refine ⟨fun h => ?_, fun h => ?_⟩
      · have h : letS.contains a = false := h
        unfold isSign
        rw [h]
        exact rfl
      · have h : ¬ letS.contains a = false := h
        unfold isSign
        have h : letS.contains a = true := eq_true_of_ne_false h
        rw [h]
        exact congrArg (fun b => some (D.bl b)) h
  · have hc : ¬ letS.contains (s.getD 0 0) = true := hc
    have hc : letS.contains (s.getD 0 0) = false := eq_false_of_ne_true hc
    rw [hc]
    exact congrArg D.bl hc
end G
namespace G
theorem dch (k : Nat) (h : k < 10) : (Nat.digitChar k).toNat = 48 + k := by
  have : k = 0 ∨ k = 1 ∨ k = 2 ∨ k = 3 ∨ k = 4 ∨ k = 5 ∨ k = 6 ∨ k = 7 ∨ k = 8 ∨ k = 9 := by omega
  rcases this with rfl | rfl | rfl | rfl | rfl | rfl | rfl | rfl | rfl | rfl <;> rfl
theorem toDigits_rec (n : Nat) : Nat.toDigits 10 n = if n < 10 then [Nat.digitChar n] else Nat.toDigits 10 (n / 10) ++ [Nat.digitChar (n % 10)] := by
  rw [Nat.toDigits_eq_if (by decide)]
theorem natStr_rec (n : Nat) : natStr n = if n < 10 then [48 + n] else natStr (n / 10) ++ [48 + n % 10] := by
  unfold natStr
  rw [toDigits_rec]
  split
  · rename_i h
    simp [dch n h]
  · simp [dch (n % 10) (Nat.mod_lt _ (by decide))]
theorem natStr_dig : ∀ n : Nat, ∀ c ∈ natStr n, isDig c = true := by
  intro n
  induction n using Nat.strongRecOn with
  | _ n ih =>
    intro c hc
    rw [natStr_rec] at hc
    split at hc
    · simp at hc; subst hc; unfold isDig; simp; omega
    · rename_i h
      rcases List.mem_append.mp hc with hc | hc
      · exact ih (n / 10) (by omega) c hc
      · simp at hc; subst hc; unfold isDig; simp; omega
theorem digVal_app (a : List Nat) (c : Nat) : digVal (a ++ [c]) = 10 * digVal a + (c - 48) := by
  unfold digVal; rw [List.foldl_append]; rfl
theorem natStr_val : ∀ n : Nat, digVal (natStr n) = n := by
  intro n
  induction n using Nat.strongRecOn with
  | _ n ih =>
    rw [natStr_rec]
    split
    · show 10 * 0 + (48 + n - 48) = n; omega
    · rename_i h
      rw [digVal_app, ih (n / 10) (by omega)]
      omega
theorem natStr_len' : ∀ (k n : Nat), n < 10 ^ (k + 1) → (natStr n).length ≤ k + 1 := by
  intro k
  induction k with
  | zero => intro n h; rw [natStr_rec, if_pos (by simpa using h)]; simp
  | succ k ih =>
    intro n h
    rw [natStr_rec]
    split
    · simp
    · rw [List.length_append]
      have := ih (n / 10) (by rw [Nat.pow_succ] at h; omega)
      simpa using this
theorem intStr_nat (n : Nat) : intStr (n : Int) = natStr n := rfl
theorem small_str {i : Int} (h : -(10 ^ 50) ≤ i) (h2 : i ≤ 10 ^ 50) : i.natAbs < 2 ^ 1900 := by
  have : (10 : Int) ^ 50 < 2 ^ 1900 := by decide +kernel
  omega
structure Row where
  nm : List Nat
  num : Int
  sc : Int
def encR (r : Row) : D := .tup [.str r.nm, .int r.num, .int r.sc]
structure RowOk (r : Row) : Prop where
  nm : isNameS r.nm = true
  n1 : 1 ≤ r.num
  n2 : r.num ≤ 10 ^ 30
  s1 : 0 ≤ r.sc
  s2 : r.sc ≤ 10 ^ 33
structure RowsOk (rs : List Row) : Prop where
  l1 : 1 ≤ rs.length
  l6 : rs.length ≤ 6
  ok : ∀ r ∈ rs, RowOk r
  nd : (rs.map (·.nm)).Nodup
def rowText (r : Row) : List Nat := r.nm ++ 32 :: (intStr r.num ++ 32 :: intStr r.sc)
def headText (p : Int) : List Nat := [112, 111, 105, 110, 116, 115, 32] ++ intStr p
def listText (p : Int) (rs : List Row) : List Nat := joinS [10] (headText p :: rs.map rowText)
theorem name_len {s : List Nat} (h : isNameS s = true) : 1 ≤ s.length ∧ s.length ≤ 8 := by
  unfold isNameS at h
  simp only [Bool.and_eq_true, decide_eq_true_eq] at h
  exact h.1
theorem sign_rng {c : Nat} (h : isSign c = true) : 48 ≤ c ∧ c ≤ 122 := by
  unfold isSign at h
  rcases Bool.or_eq_true_iff.mp h with h | h
  · have : c ∈ letS := by simpa using h
    simp [letS] at this; omega
  · have : c ∈ digS := by simpa using h
    simp [digS] at this; omega
theorem name_sign {s : List Nat} (h : isNameS s = true) : ∀ c ∈ s, 48 ≤ c ∧ c ≤ 122 := by
  unfold isNameS at h
  simp only [Bool.and_eq_true, List.all_eq_true] at h
  exact fun c hc => sign_rng (h.2.2 c hc)
section
variable {st : Store}
theorem okEqs_strs {α : Type} {n : Nat} (g : α → List Nat) : ∀ l : List α, okEqs n (l.map fun a => .str (g a)) = true
  | [] => by cases n <;> rfl
  | a :: l => by
    have ih := okEqs_strs (n := n) g l
    cases n <;> simp [okEqs, okEq, ih]
theorem mem_strs {α : Type} {g : α → List Nat} {l : List α} {u : List Nat} : op2 .mem st (.str u) (.lst (l.map fun a => .str (g a))) = some (.bl (l.any fun a => g a == u)) := by
  show (if (okEq 64 (.str u) && okEqs 64 (l.map fun a => D.str (g a))) = true then some (D.bl ((l.map fun a => D.str (g a)).any fun z => pyEq z (.str u))) else none) = _
  rw [okEqs_strs g l]
  simp [okEq, List.any_map, Function.comp_def, pyEq]
theorem nmem_strs {α : Type} {g : α → List Nat} {l : List α} {u : List Nat} : op2 .nmem st (.str u) (.lst (l.map fun a => .str (g a))) = some (.bl (!l.any fun a => g a == u)) := by
  show (if (okEq 64 (.str u) && okEqs 64 (l.map fun a => D.str (g a))) = true then some (D.bl (!(l.map fun a => D.str (g a)).any fun z => pyEq z (.str u))) else none) = _
  rw [okEqs_strs g l]
  simp [okEq, List.any_map, Function.comp_def, pyEq]
end
theorem forL_invL {α : Type} {nx : Env → Store → Prop} {rt : D → Store → Prop} {bk ct : Env → Store → Prop} {body : StS} {p : Pt} {enc : α → D} {l : List α} {env : Env} {st : Store} (I : List α → Env → Store → Prop) (h0 : I [] env st)
    (hs : ∀ (pre : List α) (x : α) (post : List α) (env : Env) (st : Store), l = pre ++ x :: post → I pre env st → ∃ env1, setPt p (enc x) env = some env1 ∧ @RP ⟨I (pre ++ [x]), rt, nx, I (pre ++ [x])⟩ (body env1 st))
    (he : ∀ env st, I l env st → nx env st) : @RP ⟨nx, rt, bk, ct⟩ (forL body p (l.map enc) env st) := by
  refine forL_inv (fun pre env st => ∃ pr, pre = pr.map enc ∧ (∃ po, l = pr ++ po) ∧ I pr env st) ⟨[], rfl, ⟨l, rfl⟩, h0⟩ ?_ ?_
  · intro pre x post env st e ⟨pr, e1, ⟨po, e2⟩, hI⟩
    subst e1
    rw [e2, List.map_append] at e
    have e3 := List.append_cancel_left e
    cases po with
    | nil => simp at e3
    | cons a po =>
      simp only [List.map_cons, List.cons.injEq] at e3
      obtain ⟨rfl, e4⟩ := e3
      obtain ⟨env1, h1, h2⟩ := hs pr a po env st e2 hI
      have up : ∀ e s, I (pr ++ [a]) e s → ∃ p2, pr.map enc ++ [enc a] = p2.map enc ∧ (∃ po, l = p2 ++ po) ∧ I p2 e s := fun e s h => ⟨pr ++ [a], by simp, ⟨po, by rw [e2]; simp⟩, h⟩
      exact ⟨env1, h1, h2.mono up (fun _ _ h => h) (fun _ _ h => h) up⟩
  · intro env st ⟨pr, e1, ⟨po, e2⟩, hI⟩
    have : po = [] := by
      have hl := congrArg List.length e1
      rw [e2] at hl
      simp at hl
      exact List.length_eq_zero_iff.mp (by simpa using hl)
    subst this
    rw [List.append_nil] at e2
    subst e2
    exact he env st hI
theorem enum_map {α : Type} (enc : α → D) (l : List α) : enumD (l.map enc) = (l.zipIdx).map fun p => .exc 0 [.int p.2, enc p.1] := by
  unfold enumD
  rw [List.zipIdx_map, List.map_map]
  rfl
theorem forL_enum {α : Type} {nx : Env → Store → Prop} {rt : D → Store → Prop} {bk ct : Env → Store → Prop} {body : StS} {p : Pt} {enc : α → D} {l : List α} {env : Env} {st : Store} (I : List α → Env → Store → Prop) (h0 : I [] env st)
    (hs : ∀ (pre : List α) (x : α) (post : List α) (env : Env) (st : Store), l = pre ++ x :: post → I pre env st → ∃ env1, setPt p (.exc 0 [.int (pre.length : Int), enc x]) env = some env1 ∧ @RP ⟨I (pre ++ [x]), rt, nx, I (pre ++ [x])⟩ (body env1 st))
    (he : ∀ env st, I l env st → nx env st) : @RP ⟨nx, rt, bk, ct⟩ (forL body p (enumD (l.map enc)) env st) := by
  rw [enum_map]
  refine forL_invL (fun pre env st => pre = (pre.map (·.1)).zipIdx ∧ I (pre.map (·.1)) env st) ⟨rfl, h0⟩ ?_ ?_
  · intro pre x post env st e ⟨e1, hI⟩
    have hl : l = pre.map (·.1) ++ x.1 :: post.map (·.1) := by
      have := congrArg (List.map (·.1)) e
      rw [List.map_append, List.map_cons] at this
      rw [← this]
      simp
    have hx : x.2 = pre.length := by
      have h2 : (l.zipIdx)[pre.length]? = some x := by rw [e]; simp
      rw [List.getElem?_zipIdx] at h2
      cases hq : l[pre.length]? with
      | none => rw [hq] at h2; cases h2
      | some q => rw [hq] at h2; simp at h2; rw [← h2]
    obtain ⟨env1, h1, h2⟩ := hs (pre.map (·.1)) x.1 (post.map (·.1)) env st hl hI
    rw [List.length_map] at h1
    have up : ∀ e s, I (pre.map (·.1) ++ [x.1]) e s → (pre ++ [x] = ((pre ++ [x]).map (·.1)).zipIdx ∧ I ((pre ++ [x]).map (·.1)) e s) := fun e s h => by
      refine ⟨?_, by simpa using h⟩
      rw [List.map_append, List.zipIdx_append, ← e1]
      simp [← hx]
    refine ⟨env1, by rw [hx]; exact h1, h2.mono up (fun _ _ h => h) (fun _ _ h => h) up⟩
  · intro env st ⟨e1, hI⟩
    refine he env st ?_
    have : (l.zipIdx).map (·.1) = l := by simp
    rw [this] at hI
    exact hI
end G
namespace G
def SpRow (f : Fd) : Prop := ∀ r st, RowOk r → f [encR r] st = .ok (.bl true) st
theorem sp_row (Γ : Ctx) {f g : Fd} (hf : SpName f) (hg : SpWithin g) : SpRow (runF 1 1 (m_is_row Γ f g)) := by
  intro r st h
  obtain ⟨n, a, b⟩ := r
  obtain ⟨h1, h2, h3, h4, h5⟩ := h
  apply OP_eq
  refine OP_run rfl ?_
  delta m_is_row encR
  have e1 : isNameS n = true := h1
  have e2 : decide ((1 : Int) ≤ a ∧ a ≤ 1000000000000000000000000000000) = true := decide_eq_true ⟨h2, h3⟩
  have e3 : decide ((0 : Int) ≤ b ∧ b ≤ 1000000000000000000000000000000000) = true := decide_eq_true ⟨h4, h5⟩
  simp! only [hf n, hg a, hg b, e1, e2, e3]
def SpWrong (f : Fd) : Prop := ∀ rs st, RowsOk rs → f [.tup (rs.map encR)] st = .ok .non st ∧ f [.lst (rs.map encR)] st = .ok .non st
theorem sp_wrong (Γ : Ctx) {f : Fd} (hf : SpRow f) : SpWrong (runF 1 4 (m_wrong_row Γ f)) := by
  intro rs st h
  have main : ∀ d : D, seqF d = some (rs.map encR) → runF 1 4 (m_wrong_row Γ f) [d] st = .ok .non st := by
    intro d hd
    apply OP_eq
    refine OP_run rfl ?_
    delta m_wrong_row
    simp! only [hd]
    refine forL_enum (enc := encR) (fun pre env st' => ∃ a b, env = [.v d, .own (pre.map fun r => .str r.nm), a, b] ∧ st' = st) ⟨_, _, rfl, rfl⟩ ?_ ?_
    · rintro pre r post env st' e ⟨a, b, rfl, rfl⟩
      have hr : r ∈ rs := by rw [e]; simp
      have hl : pre.length < 6 := by
        have := congrArg List.length e
        simp at this
        have := h.l6
        omega
      have hnd : (pre.any fun a => a.nm == r.nm) = false := by
        have := h.nd
        rw [e, List.map_append, List.map_cons] at this
        rw [List.any_eq_false]
        intro x hx hxx
        have hxx : x.nm = r.nm := by simpa using hxx
        have := (List.nodup_append.mp this).2.2 x.nm (List.mem_map_of_mem hx) r.nm (by simp)
        exact this hxx
      have e6 : ¬ ((6 : Int) ≤ pre.length) := by omega
      refine ⟨_, by simp! only []; rfl, ?_⟩
      have ei : op2 .idx st' (encR r) (.int 0) = some (.str r.nm) := rfl
      simp! only [hf r _ (h.ok r hr), ei, mem_strs, hnd, e6]
      have e7 : (pre.map fun r => D.str r.nm).length < LIM := by
        rw [List.length_map]; exact Nat.lt_of_lt_of_le hl (lim_ge (by omega))
      simp! only [e7, List.map_append]
      first | exact ⟨_, _, rfl, rfl⟩ | exact ⟨_, _, rfl⟩
    · rintro env st' ⟨a, b, rfl, rfl⟩
      simp! only []
  exact ⟨main _ rfl, main _ rfl⟩
def SpChkRows (f : Fd) : Prop := ∀ rs st, RowsOk rs → f [.tup (rs.map encR)] st = .ok .non st
theorem sp_chkrows (Γ : Ctx) {x : Nat} {f : Fd} (hf : SpWrong f) : SpChkRows (runF 1 2 (m_check_rows Γ x f)) := by
  intro rs st h
  apply OP_eq
  refine OP_run rfl ?_
  delta m_check_rows
  have e1 : ¬ ((rs.length : Int) = 0) := by have := h.l1; omega
  simp! only [List.length_map, e1, (hf rs _ h).1]
def SpChkPts (f : Fd) : Prop := ∀ p st, 1 ≤ p → p ≤ 9 → f [.int p] st = .ok .non st
theorem sp_chkpts (Γ : Ctx) {x : Nat} {f : Fd} (hf : SpWithin f) : SpChkPts (runF 1 1 (m_check_points Γ f x)) := by
  intro p st h1 h2
  apply OP_eq
  refine OP_run rfl ?_
  delta m_check_points
  have e1 : decide ((1 : Int) ≤ p ∧ p ≤ 9) = true := decide_eq_true ⟨h1, h2⟩
  simp! only [hf p, e1]
theorem okEqs_rows {n : Nat} : ∀ rs : List Row, okEqs (n + 1) (rs.map encR) = true
  | [] => rfl
  | r :: rs => by
    rw [List.map_cons]
    show (okEq (n + 1) (encR r) && okEqs (n + 1) (rs.map encR)) = true
    rw [okEqs_rows rs]
    cases n <;> rfl
structure LC (Γ : Ctx) (c : Nat) (K : Cl) : Prop where
  at_ : Γ.cls c = some K
  flds : K.fields = [6, 7]
  frz : K.frozen = true
def encL (rs : List Row) : D := .tup (rs.map encR)
def objL (c : Nat) (p : Int) (rs : List Row) : D := .obj c [.int p, encL rs]
theorem lt_rows {l : Nat} : ∀ rs : List Row, ltLocs l (rs.map encR) = true
  | [] => rfl
  | r :: rs => by
    rw [List.map_cons]
    show (ltLoc l (encR r) && ltLocs l (rs.map encR)) = true
    rw [lt_rows rs]; rfl
section
variable {Γ : Ctx} {c : Nat} {K : Cl}
theorem fldV_loc {f : Nm} {d : D} {l : Nat} {env : Env} {st : Store} {fs : List (Nm × D)} (h : st[l]? = some (.ins c fs)) (h1 : ltLoc l d = true) (h2 : fs.length < 100) (h3 : isFld Γ c f = true) : fldV Γ f d (.loc l) env st = .nx env (st.set l (.ins c (putF f d fs))) := by
  show (match st[l]? with
      | some (.ins c fs) => if ltLoc l d = true ∧ fs.length < 100 ∧ isFld Γ c f = true then R.nx env (st.set l (.ins c (putF f d fs))) else .bad
      | _ => .bad) = _
  rw [h]
  exact if_pos ⟨h1, h2, h3⟩
theorem at_fld {f : Nm} {x d : D} {st : Store} (h : fldv Γ st f x = some d) : atV Γ f x st = .ok d st := by
  unfold atV; rw [h]
theorem LC.stake (L : LC Γ c K) {p : Int} {rs : List Row} {st : Store} : atV Γ 6 (objL c p rs) st = .ok (.int p) st := at_fld (by
  show (Γ.cls c).bind (fun k => (k.fields.zip [.int p, encL rs]).lookup 6) = _
  rw [L.at_]
  show (K.fields.zip _).lookup 6 = _
  rw [L.flds]; rfl)
theorem LC.lines (L : LC Γ c K) {p : Int} {rs : List Row} {st : Store} : atV Γ 7 (objL c p rs) st = .ok (encL rs) st := at_fld (by
  show (Γ.cls c).bind (fun k => (k.fields.zip [.int p, encL rs]).lookup 7) = _
  rw [L.at_]
  show (K.fields.zip _).lookup 7 = _
  rw [L.flds]; rfl)
theorem LC.prop (L : LC Γ c K) {f : Nm} {g : Nat} {p : Int} {rs : List Row} {st : Store} {d : D} (hf : f ≠ 6 ∧ f ≠ 7) (hp : K.props.lookup f = some g) (hg : Γ.call g [objL c p rs] st = .ok d st) : atV Γ f (objL c p rs) st = .ok d st := by
  unfold atV
  have e : fldv Γ st f (objL c p rs) = none := by
    show (Γ.cls c).bind (fun k => (k.fields.zip [.int p, encL rs]).lookup f) = _
    rw [L.at_]
    show (K.fields.zip _).lookup f = _
    rw [L.flds]
    have e1 : (f == 6) = false := by simpa using hf.1
    have e2 : (f == 7) = false := by simpa using hf.2
    simp [List.lookup, e1, e2]
  rw [e]
  show (match (some (c, [D.int p, encL rs])).bind fun q => (Γ.cls q.1).bind fun k => k.props.lookup f with
    | some g => (Γ.call g [objL c p rs] st).hush
    | none => .bad) = _
  have e2 : ((some (c, [D.int p, encL rs])).bind fun q => (Γ.cls q.1).bind fun k => k.props.lookup f) = some g := by
    show (Γ.cls c).bind _ = _
    rw [L.at_]; exact hp
  rw [e2]
  show (Γ.call g [objL c p rs] st).hush = _
  rw [hg]; rfl
end
end G
namespace G
section
variable {Γ : Ctx} {c : Nat} {K : Cl} {p : Int} {rs : List Row} {st : Store}
def kindsD (rs : List Row) : D := .tup (rs.map fun r => .str r.nm)
theorem idx_row0 {r : Row} : op2 .idx st (encR r) (.int 0) = some (.str r.nm) := rfl
theorem si_encL : seqI (encL rs) = some (rs.map encR) := rfl
end
end G
namespace G
section
variable [FrC] {Γ : Ctx} {f : Fd}
def SpRange (f : Fd) (cost : Nat) (lo hi : Int) : Prop := ∀ (l n : Nat) (st : Store), Wl l n st → n + cost ≤ 1000000000 → OP (fun r st' => ∃ k : Int, r = .int k ∧ lo ≤ k ∧ k ≤ hi ∧ Wl l (n + cost) st') (f [.loc l] st)
def SpNames (f : Fd) : Prop := ∀ (l n : Nat) (m : Int) (st : Store), Wl l n st → n + 200 ≤ 1000000000 → 1 ≤ m → m ≤ 8 → OP (fun r st' => ∃ ns : List (List Nat), r = .lst (ns.map .str) ∧ (ns.length : Int) = m ∧ (∀ s ∈ ns, isNameS s = true) ∧ ns.Nodup ∧ Wl l (n + 200) st') (f [.loc l, .int m] st)
def sg36 : List Nat := [97, 98, 99, 100, 101, 102, 103, 104, 105, 106, 107, 108, 109, 110, 111, 112, 113, 114, 115, 116, 117, 118, 119, 120, 121, 122, 48, 49, 50, 51, 52, 53, 54, 55, 56, 57]
theorem sg_sign : ∀ k, k < 36 → isSign (sg36.getD k 0) = true := by decide
theorem sg_at {k : Int} (h : 0 ≤ k) (h2 : k < 36) : atI sg36 k = some (sg36.getD k.toNat 0) := by
  obtain ⟨n, rfl⟩ := Int.eq_ofNat_of_zero_le h
  exact atI_getD (by show n < 36; omega)
theorem let_sign {c : Nat} (h : letS.contains c = true) : isSign c = true := by unfold isSign; rw [h]; rfl
theorem mk_name {c : Nat} {r : List Nat} (h : letS.contains c = true) (h2 : r.all isSign = true) (h3 : r.length ≤ 7) : isNameS (c :: r) = true := by
  unfold isNameS
  have : decide (1 ≤ (c :: r).length ∧ (c :: r).length ≤ 8) = true := decide_eq_true ⟨by simp, by simp; omega⟩
  rw [this]
  simp [List.all_cons, h2, let_sign h]
  simpa using h
theorem natStr_inj {a b : Nat} (h : natStr a = natStr b) : a = b := by
  have := congrArg digVal h
  rwa [natStr_val, natStr_val] at this
end
end G
namespace G
structure RG (b : Nat) (s : PySem.Str) : Prop where
  len : s.cps.toList.length ≤ b
  ok : s.cps.toList.all okCode = true
theorem RG.mono {a b : Nat} {s : PySem.Str} (h : RG a s) (hab : a ≤ b) : RG b s := ⟨Nat.le_trans h.len hab, h.ok⟩
theorem RG.app {a b : Nat} {s t : PySem.Str} (h : RG a s) (k : RG b t) : RG (a + b) (s ++ t) := by
  have e : (s ++ t).cps.toList = s.cps.toList ++ t.cps.toList := by
    show (s.cps ++ t.cps).toList = _
    simp
  refine ⟨by rw [e, List.length_append]; have := h.len; have := k.len; omega, by rw [e, List.all_append, h.ok, k.ok]; rfl⟩
def rgB (b : Nat) (s : PySem.Str) : Bool := decide (s.cps.toList.length ≤ b) && s.cps.toList.all okCode
theorem RG.of {b : Nat} {s : PySem.Str} (h : rgB b s = true) : RG b s := by
  unfold rgB at h
  simp only [Bool.and_eq_true, decide_eq_true_eq] at h
  exact ⟨h.1, h.2⟩
theorem char_ok (c : Char) : okCode c.toNat = true := by
  unfold okCode
  simp only [decide_eq_true_eq]
  rcases c.valid with h | h
  · show c.val.toNat < _
    omega
  · exact h.2
theorem reprChar_ok {q c : Nat} (hc : okCode c = true) : (PySem.Builtin.Str.reprChar q c).all okCode = true := by
  have hx : ∀ (w : Nat), ((List.replicate (w - ((Nat.toDigits 16 c).map Char.toNat).length) 48 ++ (Nat.toDigits 16 c).map Char.toNat)).all okCode = true := fun w => by
    rw [List.all_append, List.all_eq_true.mpr (fun x hx => by rw [List.eq_of_mem_replicate hx]; rfl), List.all_map]
    rw [Bool.true_and, List.all_eq_true]
    exact fun x _ => char_ok x
  unfold PySem.Builtin.Str.reprChar
  simp only
  split
  · simp [hc, okCode]
    simpa [okCode] using hc
  split
  · rfl
  split
  · rfl
  split
  · rfl
  split
  · simp [hc]
  split
  · rw [List.all_append, hx]; rfl
  split
  · rw [List.all_append, hx]; rfl
  · rw [List.all_append, hx]; rfl
theorem okCode_lt {c : Nat} (h : okCode c = true) : c < 16 ^ 8 := by
  unfold okCode at h
  have : c < 1114112 := by simpa using h
  omega
theorem rg_text {x : List Nat} (hx : x.all okCode = true) : RG (10 * x.length + 2) (PySem.reprText ⟨x.toArray⟩) := by
  have hq : ∀ q : Nat, okCode q = true → ∀ (l : List Nat) (acc : Array Nat), l.all okCode = true → acc.toList.all okCode = true →
      (l.foldl (fun out c => out ++ (PySem.Builtin.Str.reprChar q c).toArray) acc).toList.length ≤ acc.size + 10 * l.length ∧ (l.foldl (fun out c => out ++ (PySem.Builtin.Str.reprChar q c).toArray) acc).toList.all okCode = true := by
    intro q hqo l
    induction l with
    | nil => intro acc _ h; exact ⟨by simp, h⟩
    | cons c r ih =>
      intro acc hl ha
      rw [List.all_cons, Bool.and_eq_true] at hl
      have h1 := PySem.StrLaws.reprChar_len q c (okCode_lt hl.1)
      obtain ⟨i1, i2⟩ := ih (acc ++ (PySem.Builtin.Str.reprChar q c).toArray) hl.2 (by
        rw [Array.toList_append, List.all_append, ha]
        simpa using reprChar_ok hl.1)
      rw [List.foldl_cons]
      refine ⟨?_, i2⟩
      simp only [Array.size_append, List.size_toArray] at i1
      rw [List.length_cons]
      omega
  have hqq : okCode (PySem.reprQuote ⟨x.toArray⟩) = true := by
    unfold PySem.reprQuote
    split <;> rfl
  obtain ⟨h1, h2⟩ := hq _ hqq x #[PySem.reprQuote ⟨x.toArray⟩] hx (by simp [hqq])
  unfold PySem.reprText
  rw [← Array.foldl_toList] at *
  refine ⟨?_, ?_⟩
  · show (Array.push _ _).toList.length ≤ _
    rw [Array.toList_push, List.length_append]
    simp only [List.size_toArray, List.length_cons, List.length_nil] at h1 ⊢
    omega
  · show (Array.push _ _).toList.all okCode = true
    rw [Array.toList_push, List.all_append, h2]
    simp [hqq]
theorem rg_from {b : Nat} : ∀ (ts : List PySem.Str) (k : Nat) (acc : PySem.Str) (a : Nat), RG a acc → (∀ t ∈ ts, RG b t) → RG (a + ts.length * (b + 2)) (PySem.textFrom k acc ts)
  | [], k, acc, a, h, _ => by
    show RG (a + 0 * (b + 2)) acc
    exact h.mono (by omega)
  | t :: r, k, acc, a, h, ht => by
    have h2 : RG 2 (if k > 0 then ", " else "" : String) := by
      split
      · exact RG.of (by decide +kernel)
      · exact RG.of (by decide +kernel)
    have := rg_from r (k + 1) _ _ ((h.app h2).app (ht t (by simp))) fun t ht' => ht t (by simp [ht'])
    refine this.mono ?_
    rw [List.length_cons, Nat.add_mul]
    omega
theorem rg_list {b : Nat} {ts : List PySem.Str} (h : ∀ t ∈ ts, RG b t) : RG (2 + ts.length * (b + 2)) (PySem.listText ts) := by
  have h1 : RG 1 ("[" : PySem.Str) := RG.of (by decide +kernel)
  have h2 : RG 1 ("]" : PySem.Str) := RG.of (by decide +kernel)
  exact ((rg_from ts 0 _ 1 h1 h).app h2).mono (by omega)
theorem rg_join {b : Nat} : ∀ {ts : List PySem.Str}, (∀ t ∈ ts, RG b t) → RG (ts.length * (b + 2)) (PySem.Str.join ", " ts)
  | [], _ => ⟨by show 0 ≤ _; omega, rfl⟩
  | [x], h => (h x (by simp)).mono (by simp)
  | x :: y :: r, h => by
    have ih := rg_join (ts := y :: r) fun t ht => h t (by simp [ht])
    have h2 : RG 2 (", " : PySem.Str) := RG.of (by decide +kernel)
    refine (((h x (by simp)).app h2).app ih).mono ?_
    simp only [List.length_cons]
    rw [Nat.add_mul (r.length + 1) 1]
    omega
theorem rg_tup {b : Nat} {ts : List PySem.Str} (h : ∀ t ∈ ts, RG b t) : RG (3 + ts.length * (b + 2)) (PySem.tupleText ts) := by
  have h1 : RG 1 ("(" : PySem.Str) := RG.of (by decide +kernel)
  have h2 : RG 2 (if ts.length == 1 then ",)" else ")" : String) := by
    split
    · exact RG.of (by decide +kernel)
    · exact RG.of (by decide +kernel)
  exact ((h1.app (rg_join h)).app h2).mono (by omega)
theorem intStr_eq2 (i : Int) : (PySem.Str.ofString (toString i)) = ⟨(intStr i).toArray⟩ := by
  rw [PySem.Str.ofString_eq_toList]
  congr 2
  cases i with
  | ofNat n => show (Nat.repr n).toList.map Char.toNat = _; simp [Nat.repr, intStr, natStr]
  | negSucc n => show ("-" ++ Nat.repr (n + 1)).toList.map Char.toNat = _; simp [Nat.repr, intStr, natStr]
theorem dig_ok {c : Nat} (h : isDig c = true) : okCode c = true := by
  unfold isDig at h
  unfold okCode
  simp only [Bool.and_eq_true, decide_eq_true_eq] at h ⊢
  omega
theorem rg_int {i : Int} (h : -(10 ^ 50) ≤ i) (h2 : i ≤ 10 ^ 50) : RG 60 (PySem.Str.ofString (toString i)) := by
  rw [intStr_eq2]
  have hn : ∀ n : Nat, n ≤ 10 ^ 50 → (natStr n).length ≤ 55 ∧ (natStr n).all okCode = true := fun n hn => by
    refine ⟨?_, List.all_eq_true.mpr fun c hc => dig_ok (natStr_dig n c hc)⟩
    have := natStr_len' 54 n (Nat.lt_of_le_of_lt hn (by decide))
    omega
  cases i with
  | ofNat n =>
    obtain ⟨h3, h4⟩ := hn n (by simp at h2; omega)
    exact ⟨by show (natStr n).length ≤ 60; omega, h4⟩
  | negSucc n =>
    obtain ⟨h3, h4⟩ := hn (n + 1) (by omega)
    refine ⟨by show (45 :: natStr (n + 1)).length ≤ 60; rw [List.length_cons]; omega, ?_⟩
    show (okCode 45 && (natStr (n + 1)).all okCode) = true
    rw [h4]; rfl
theorem rg_big {i : Int} (h : i.natAbs ≤ 10 ^ 120) : RG 200 (PySem.Str.ofString (toString i)) := by
  rw [intStr_eq2]
  have hn : ∀ n : Nat, n ≤ 10 ^ 120 → (natStr n).length ≤ 125 ∧ (natStr n).all okCode = true := fun n hn => by
    refine ⟨?_, List.all_eq_true.mpr fun c hc => dig_ok (natStr_dig n c hc)⟩
    have := natStr_len' 124 n (Nat.lt_of_le_of_lt hn (by decide +kernel))
    omega
  cases i with
  | ofNat n =>
    obtain ⟨h3, h4⟩ := hn n (by simpa using h)
    exact ⟨by show (natStr n).length ≤ 200; omega, h4⟩
  | negSucc n =>
    obtain ⟨h3, h4⟩ := hn (n + 1) (by simpa using h)
    refine ⟨by show (45 :: natStr (n + 1)).length ≤ 200; rw [List.length_cons]; omega, ?_⟩
    show (okCode 45 && (natStr (n + 1)).all okCode) = true
    rw [h4]; rfl
theorem big_log {i : Int} (h : i.natAbs ≤ 10 ^ 120) : i.natAbs.log2 < 1920 := by
  by_cases h0 : i.natAbs = 0
  · rw [h0]; decide
  · rw [Nat.log2_lt h0]
    exact Nat.lt_of_le_of_lt h (by decide +kernel)
mutual
inductive Sh : Nat → D → Prop
  | non : Sh 60 .non
  | bl (b : Bool) : Sh 60 (.bl b)
  | int {i : Int} (h : -(10 ^ 50) ≤ i) (h2 : i ≤ 10 ^ 50) : Sh 60 (.int i)
  | big {i : Int} (h : i.natAbs ≤ 10 ^ 120) : Sh 200 (.int i)
  | str {s : List Nat} {b : Nat} (h : s.all okCode = true) (h2 : 10 * s.length + 2 ≤ b) : Sh b (.str s)
  | tup {xs : List D} {b c : Nat} (h : Shs b xs) (hc : 3 + xs.length * (b + 2) ≤ c) : Sh c (.tup xs)
  | lst {xs : List D} {b c : Nat} (h : Shs b xs) (hc : 3 + xs.length * (b + 2) ≤ c) : Sh c (.lst xs)
inductive Shs : Nat → List D → Prop
  | nil {b : Nat} : Shs b []
  | cons {b : Nat} {x : D} {xs : List D} {a : Nat} (h : Sh a x) (hab : a ≤ b) (hs : Shs b xs) : Shs b (x :: xs)
end
theorem small_log {i : Int} (h : -(10 ^ 50) ≤ i) (h2 : i ≤ 10 ^ 50) : i.natAbs.log2 < 1920 := by
  by_cases h0 : i.natAbs = 0
  · rw [h0]; decide
  · rw [Nat.log2_lt h0]
    have : (10 : Int) ^ 50 < 2 ^ 1920 := by decide +kernel
    omega
mutual
theorem Sh.rg : ∀ {d : D} {b : Nat}, Sh b d → RG b (toPy d).shown ∧ (toPy d).showable = true
  | _, _, .non => ⟨RG.of (by decide +kernel), rfl⟩
  | _, _, .bl b => ⟨RG.of (by cases b <;> decide +kernel), rfl⟩
  | _, _, .int h h2 => ⟨rg_int h h2, by simp only [toPy, PySem.PyData.showable, decide_eq_true_eq]; exact small_log h h2⟩
  | _, _, .big h => ⟨rg_big h, by simp only [toPy, PySem.PyData.showable, decide_eq_true_eq]; exact big_log h⟩
  | _, _, .str h h2 => ⟨(rg_text h).mono h2, rfl⟩
  | _, _, .tup (xs := xs) h hc => by
    obtain ⟨h1, h2, h3⟩ := Shs.rg h
    refine ⟨(rg_tup h1).mono (by rw [h3]; exact hc), h2⟩
  | _, _, .lst (xs := xs) h hc => by
    obtain ⟨h1, h2, h3⟩ := Shs.rg h
    refine ⟨(rg_list h1).mono (by rw [h3]; omega), h2⟩
theorem Shs.rg : ∀ {ds : List D} {b : Nat}, Shs b ds → (∀ t ∈ PySem.PyData.shownAll (toPys ds), RG b t) ∧ PySem.PyData.showableAll (toPys ds) = true ∧ (PySem.PyData.shownAll (toPys ds)).length = ds.length
  | _, _, .nil => ⟨fun t h => by simp [toPys, PySem.PyData.shownAll] at h, rfl, rfl⟩
  | _, _, .cons h hab hs => by
    obtain ⟨h1, h2⟩ := h.rg
    obtain ⟨h3, h4, h5⟩ := hs.rg
    refine ⟨fun t ht => ?_, ?_, ?_⟩
    · simp only [toPys, PySem.PyData.shownAll, List.mem_cons] at ht
      rcases ht with rfl | ht
      · exact h1.mono hab
      · exact h3 t ht
    · simp [toPys, PySem.PyData.showableAll, h2, h4]
    · simp [toPys, PySem.PyData.shownAll, h5]
end
theorem okRep_of {d : D} {b n : Nat} (h : Sh b d) (hb : b ≤ 10000000) (he : okEq n d = true) : okRep n d = true := by
  obtain ⟨h1, h2⟩ := h.rg
  unfold okRep reprD
  rw [he, h2, h1.ok]
  simp only [Bool.true_and, Bool.and_true, decide_eq_true_eq]
  exact Nat.le_trans h1.len (lim_ge hb)
theorem repr_eq {d : D} {b : Nat} {st : Store} (hv : view st d = d) (h : Sh b d) (hb : b ≤ 10000000) (he : okEq 32 d = true) : bi .repr st [d] = some (.str (reprD d)) := by
  show (if okRep 32 (view st d) = true then some (D.str (reprD (view st d))) else match view st d with
    | .dct [] [] => some (D.str [123, 125])
    | _ => none) = _
  rw [hv, if_pos (okRep_of h hb he)]
end G
namespace G
section
variable {Γ : Ctx} {fn fd fm fe : Fd}
def SpWell (f : Fd) : Prop := ∀ (ns : List Int) (k : Nat) (st : Store), ns.length ≤ 63 → k ≤ 10 → OP (fun r st' => ∃ l, r = .loc l ∧ Wl l 0 st') (f [.fl (ns.map .int), .int k] st)
theorem cut_map {α β : Type} (g : α → β) (l : List α) (lo hi : Option Int) : cut (l.map g) lo hi = (cut l lo hi).map g := by
  unfold cut
  simp [List.map_take, List.map_drop]
theorem new_eq {ds : List D} {st : Store} {Q : D → Store → Prop} : @OPi _ ⟨Q⟩ (newV ds st) = ((ltLocs st.length ds = true ∧ ds.length ≤ LIM) ∧ Q (.loc st.length) (st ++ [.lst ds])) := by
  unfold newV
  rw [OP_ite_bad]; rfl
variable {c : Nat} {K : Cl} {ft fr fmade fshow fwell fright frows : Fd}
end
end G
namespace G
theorem name_ok {s : List Nat} (h : isNameS s = true) : s.all okCode = true := List.all_eq_true.mpr fun c hc => by
  have := name_sign h c hc
  unfold okCode
  simp only [decide_eq_true_eq]
  omega
section
variable {Γ : Ctx} {c : Nat} {ft fr fmade fshow fwell fright frows fdip : Fd}
def SpRight (f : Fd) : Prop := ∀ (l : Nat) (st : Store), Wl l 0 st → OP (fun r _ => r = .bl true) (f [.loc l] st)
def SpLaw (f : Fd) : Prop := ∀ (ns : List Int) (st : Store), ns.length ≤ 63 → OP (fun r _ => r = .bl true) (f [.fl (ns.map .int)] st)
theorem sp_law (hr : SpRight fright) (hw : SpWell fwell) : SpLaw (runF 1 2 (m_law Γ fright fwell)) := by
  intro ns st hl
  refine OP_run rfl ?_
  delta m_law
  simp! only [List.length_map]
  generalize ht : (if (if (6 : Int) < ns.length then (6 : Int) else ns.length) > 2 then (if (6 : Int) < ns.length then (6 : Int) else ns.length) else (2 : Int)) = t
  have ht2 : 0 ≤ t ∧ t ≤ 6 := by subst ht; split <;> split <;> omega
  refine ⟨⟨by unfold LIM; omega, by unfold LIM; omega⟩, ?_⟩
  rw [range0]
  refine forL_invL (fun (pre : List Nat) env st' => ∃ s1, env = [.v (.fl (ns.map .int)), s1]) ⟨_, rfl⟩ ?_ ?_
  · rintro pre k post env st' e ⟨s1, rfl⟩
    obtain ⟨rfl, hk⟩ := range_at e
    refine ⟨_, by simp! only []; rfl, ?_⟩
    simp! only []
    refine (hw ns pre.length st' hl (by omega)).mono ?_
    rintro _ st1 ⟨l, rfl, hw1⟩
    refine (hr l st1 hw1).mono ?_
    rintro _ st2 rfl
    simp! only []
    exact ⟨_, rfl⟩
  · rintro env st' ⟨s1, rfl⟩
    simp! only []
end
end G
namespace G
theorem big_ltW {i : Int} (h : -(10 ^ 300) ≤ i) (h2 : i ≤ 10 ^ 300) : i.natAbs < BIG := by
  unfold BIG
  have : (10 : Int) ^ 300 < 2 ^ 4000 := by decide +kernel
  generalize (10 : Int) ^ 300 = X at *
  omega
theorem okMulW {i j : Int} (h : -(10 ^ 300) ≤ i) (h2 : i ≤ 10 ^ 300) (h3 : -(10 ^ 300) ≤ j) (h4 : j ≤ 10 ^ 300) : okMul i j = true := by
  unfold okMul
  rw [decide_eq_true (big_ltW h h2), decide_eq_true (big_ltW h3 h4)]; rfl
def Bd (k : Nat) (i : Int) : Prop := -(10 ^ k) ≤ i ∧ i ≤ 10 ^ k
theorem pow_le {a b : Nat} (h : a ≤ b) : (10 : Int) ^ a ≤ 10 ^ b := by
  have : (10 : Nat) ^ a ≤ 10 ^ b := Nat.pow_le_pow_right (by omega) h
  exact_mod_cast this
theorem Bd.up {a b : Nat} {i : Int} (h : Bd a i) (hab : a ≤ b) : Bd b i := by
  have := pow_le hab
  unfold Bd at *
  omega
theorem Bd.mul {a b : Nat} {i j : Int} (h : Bd a i) (h2 : Bd b j) : Bd (a + b) (i * j) := by
  have p1 : (0 : Int) ≤ 10 ^ a := by have : (0 : Int) < 10 ^ a := Int.pow_pos (by decide); omega
  have h3 : i.natAbs ≤ 10 ^ a := by
    have e : ((10 ^ a : Nat) : Int) = (10 : Int) ^ a := by push_cast; rfl
    have := h.1; have := h.2
    omega
  have h4 : j.natAbs ≤ 10 ^ b := by
    have e : ((10 ^ b : Nat) : Int) = (10 : Int) ^ b := by push_cast; rfl
    have := h2.1; have := h2.2
    omega
  have h5 : (i * j).natAbs ≤ 10 ^ (a + b) := by
    rw [Int.natAbs_mul, Nat.pow_add]
    exact Nat.mul_le_mul h3 h4
  have e : ((10 ^ (a + b) : Nat) : Int) = (10 : Int) ^ (a + b) := by push_cast; rfl
  unfold Bd
  omega
theorem Bd.add {a : Nat} {i j : Int} (h : Bd a i) (h2 : Bd a j) : Bd (a + 1) (i + j) := by
  have e : (10 : Int) ^ (a + 1) = 10 * 10 ^ a := by rw [Int.pow_succ]; omega
  have p1 : (0 : Int) < 10 ^ a := Int.pow_pos (by decide)
  unfold Bd at *
  omega
theorem Bd.sub {a : Nat} {i j : Int} (h : Bd a i) (h2 : Bd a j) : Bd (a + 1) (i - j) := by
  have e : (10 : Int) ^ (a + 1) = 10 * 10 ^ a := by rw [Int.pow_succ]; omega
  have p1 : (0 : Int) < 10 ^ a := Int.pow_pos (by decide)
  unfold Bd at *
  omega
theorem Bd.ok {a b : Nat} {i j : Int} (h : Bd a i) (h2 : Bd b j) (ha : a ≤ 300) (hb : b ≤ 300) : okMul i j = true := okMulW (h.up ha).1 (h.up ha).2 (h2.up hb).1 (h2.up hb).2
theorem Bd.sum {α : Type} {a : Nat} {g : α → Int} : ∀ {l : List α}, (∀ x ∈ l, Bd a (g x)) → l.length ≤ 10 → Bd (a + 1) (l.map g).sum := by
  intro l h hl
  have e : (10 : Int) ^ (a + 1) = 10 * 10 ^ a := by rw [Int.pow_succ]; omega
  have p1 : (0 : Int) < 10 ^ a := Int.pow_pos (by decide)
  have key : ∀ l : List α, (∀ x ∈ l, Bd a (g x)) → -((l.length : Int) * 10 ^ a) ≤ (l.map g).sum ∧ (l.map g).sum ≤ (l.length : Int) * 10 ^ a := by
    intro l
    induction l with
    | nil => intro _; simp
    | cons x l ih =>
      intro h
      obtain ⟨h1, h2⟩ := ih fun y hy => h y (by simp [hy])
      have h3 := h x (by simp)
      unfold Bd at h3
      have e2 : ((x :: l).length : Int) * 10 ^ a = (l.length : Int) * 10 ^ a + 10 ^ a := by
        rw [List.length_cons]; push_cast; rw [Int.add_mul, Int.one_mul]
      rw [e2, List.map_cons, List.sum_cons]
      omega
  obtain ⟨h1, h2⟩ := key l h
  have h3 : (l.length : Int) * 10 ^ a ≤ 10 * 10 ^ a := Int.mul_le_mul_of_nonneg_right (by omega) (by omega)
  unfold Bd
  omega
abbrev PRow := List Nat × List Nat × Int
def encPr (q : PRow) : D := .tup [.str q.1, .str q.2.1, .int q.2.2]
def objSe (c : Nat) (p : Int) (rs : List Row) (pl : List PRow) : D := .obj c [.int p, encL rs, .tup (pl.map encPr)]
def nmAt (rs : List Row) (i : Nat) : List Nat := (rs.map (·.nm)).getD i []
def meetQ (rs : List Row) (i j : Nat) (q : PRow) : Bool := (nmAt rs i == q.1 && nmAt rs j == q.2.1) || (nmAt rs j == q.1 && nmAt rs i == q.2.1)
def meetI (rs : List Row) (pl : List PRow) (i j : Nat) : Int := ((pl.filter (meetQ rs i j)).map (·.2.2)).headD 0
structure PlanB (pl : List PRow) : Prop where
  len : pl.length ≤ 100
  ok : ∀ q ∈ pl, 1 ≤ q.2.2 ∧ q.2.2 ≤ 9
theorem meetI_bd {rs : List Row} {pl : List PRow} {i j : Nat} (h : PlanB pl) : 0 ≤ meetI rs pl i j ∧ meetI rs pl i j ≤ 9 := by
  unfold meetI
  cases e : (pl.filter (meetQ rs i j)) with
  | nil => simp
  | cons q l =>
    have hq : q ∈ pl := (List.mem_filter.mp (by rw [e]; simp : q ∈ pl.filter (meetQ rs i j))).1
    have := h.ok q hq
    simp only [List.map_cons, List.headD_cons]
    omega
structure SeC (Γ : Ctx) (c : Nat) : Prop where
  stake : ∀ p rs pl st, atV Γ 6 (objSe c p rs pl) st = .ok (.int p) st
  lines : ∀ p rs pl st, atV Γ 7 (objSe c p rs pl) st = .ok (encL rs) st
  plan : ∀ p rs pl st, atV Γ 8 (objSe c p rs pl) st = .ok (.tup (pl.map encPr)) st
theorem seC {Γ : Ctx} {c : Nat} {K : Cl} (h : Γ.cls c = some K) (hf : K.fields = [6, 7, 8]) : SeC Γ c := by
  have key : ∀ (f : Nm) (d : D) p rs pl, ([6, 7, 8].zip [D.int p, encL rs, .tup (pl.map encPr)]).lookup f = some d → ∀ st, atV Γ f (objSe c p rs pl) st = .ok d st := fun f d p rs pl hl st => by
    have e : fldv Γ st f (objSe c p rs pl) = some d := by
      show ((Γ.cls c).bind fun k => ((k.fields.zip [D.int p, encL rs, .tup (pl.map encPr)]).lookup f)) = some d
      rw [h, Option.bind_some, hf]
      exact hl
    unfold atV
    rw [e]
  exact ⟨fun p rs pl => key 6 _ p rs pl rfl, fun p rs pl => key 7 _ p rs pl rfl, fun p rs pl => key 8 _ p rs pl rfl⟩
def HasM (Γ : Ctx) (c : Nat) (m : Nm) (P : Fd → Prop) : Prop := ∃ g, ((Γ.cls c).bind fun k => k.meths.lookup m) = some g ∧ P (Γ.call g)
def meX (Γ : Ctx) (c : Nat) (m : Nm) (x : D) (ss : List Sem) (env : Env) (st : Store) : O D := match objv st x with
  | some (b, _) => if b = c ∧ noFld st m x = true then (match (Γ.cls c).bind fun k => k.meths.lookup m with
    | some f => (args ss env st).bind fun ds st => Γ.call f (x :: ds) st
    | none => .bad) else .bad
  | none => .bad
theorem val_me {Γ : Ctx} {c : Nat} {m : Nm} {so : Sem} {ss : List Sem} {env : Env} {st : Store} : (meE Γ c m so ss).val env st = (so.val env st).bind fun x st => meX Γ c m x ss env st := rfl
theorem meX_se {Γ : Ctx} {c g : Nat} {m : Nm} {ss : List Sem} {env : Env} {st : Store} {p : Int} {rs : List Row} {pl : List PRow} (h : ((Γ.cls c).bind fun k => k.meths.lookup m) = some g) : meX Γ c m (objSe c p rs pl) ss env st = (args ss env st).bind fun ds st => Γ.call g (objSe c p rs pl :: ds) st := by
  show (if c = c ∧ true = true then (match (Γ.cls c).bind fun k => k.meths.lookup m with
    | some f => (args ss env st).bind fun ds st => Γ.call f (objSe c p rs pl :: ds) st
    | none => .bad) else .bad) = _
  rw [if_pos ⟨rfl, rfl⟩, h]
section
variable {Γ : Ctx} {c : Nat} {f g h fc : Fd}
theorem mem_tl {st : Store} {xs ys : List D} : op2 .mem st (.tup xs) (.lst ys) = if (okEq 64 (.tup xs) && okEqs 64 ys) = true then some (.bl (ys.any fun z => pyEq z (.tup xs))) else none := rfl
theorem pyEq_pair {a b u v : List Nat} : pyEq (.tup [.str u, .str v]) (.tup [.str a, .str b]) = (u == a && v == b) := by simp [pyEq, pyEqs]
theorem mem_pair {st : Store} {a b x y : List Nat} : op2 .mem st (.tup [.str a, .str b]) (.lst [.tup [.str x, .str y], .tup [.str y, .str x]]) = some (.bl ((x == a && y == b) || (y == a && x == b))) := by
  have o1 : okEq 64 (.tup [.str a, .str b]) = true := rfl
  have o2 : okEqs 64 [D.tup [.str x, .str y], .tup [.str y, .str x]] = true := rfl
  rw [mem_tl, o1, o2, if_pos (by decide)]
  simp only [List.any_cons, List.any_nil, Bool.or_false, pyEq_pair]
def SpMeet (c : Nat) (f : Fd) : Prop := ∀ p rs pl (i j : Nat) st, rs.length ≤ 6 → PlanB pl → i < rs.length → j < rs.length → f [objSe c p rs pl, .int (i : Int), .int (j : Int)] st = .ok (.int (meetI rs pl i j)) st
def SpKindsSe (Γ : Ctx) (c : Nat) : Prop := ∀ p rs pl st, rs.length ≤ 6 → atV Γ 18 (objSe c p rs pl) st = .ok (kindsD rs) st
theorem sp_meet (L : SeC Γ c) (hk : SpKindsSe Γ c) : SpMeet c (runF 3 9 (m_Season_meetings Γ)) := by
  intro p rs pl i j st h6 hp hi hj
  have ai : ∀ (k : Nat), k < rs.length → ∀ st, op2 .idx st (kindsD rs) (.int (k : Int)) = some (.str (nmAt rs k)) := fun k hk st => by
    show atI (rs.map fun r => D.str r.nm) (k : Int) = _
    rw [atI_nat, List.getElem?_map, List.getElem?_eq_getElem hk]
    unfold nmAt
    rw [List.getD_eq_getElem?_getD, List.getElem?_map, List.getElem?_eq_getElem hk]; rfl
  apply OP_eq
  refine OP_run rfl ?_
  delta m_Season_meetings
  simp! only [hk p rs pl _ h6, L.plan, ai i hi, ai j hj]
  rw [comp_filterL (enc := encPr) (P := meetQ rs i j) (g := fun q => .int q.2.2) pl (lim_ge (by have := hp.len; omega)) fun q hq => by
    have eq : ∀ e, setPt (.tp [.nm 6, .nm 7, .nm 8]) (encPr q) e = some (((e.set 6 (.v (.str q.1))).set 7 (.v (.str q.2.1))).set 8 (.v (.int q.2.2))) := fun e => rfl
    apply OP_eq
    simp! only [turnV_eq, eq, mem_pair]
    cases hm : meetQ rs i j q with
    | true => exact ⟨fun _ => rfl, fun h => absurd (show ((nmAt rs i == q.1 && nmAt rs j == q.2.1) || (nmAt rs j == q.1 && nmAt rs i == q.2.1)) = true from hm) h⟩
    | false => exact ⟨fun h => absurd (show meetQ rs i j q = true from h) (by rw [hm]; simp), fun _ => rfl⟩]
  have ne : ∀ st, op2 .ne st (.lst ((pl.filter (meetQ rs i j)).map fun q => D.int q.2.2)) (.lst []) = some (.bl (!(pl.filter (meetQ rs i j)).isEmpty)) := fun st => by
    have hok : ∀ l : List PRow, okEqs 63 (l.map fun q => D.int q.2.2) = true := fun l => by
      induction l with
      | nil => rfl
      | cons x l ih => rw [List.map_cons]; show (okEq 63 _ && okEqs 63 _) = true; rw [ih]; rfl
    show (if (okEqs 63 ((pl.filter (meetQ rs i j)).map fun q => D.int q.2.2) && true) = true then some (D.bl (!pyEqs ((pl.filter (meetQ rs i j)).map fun q => D.int q.2.2) [])) else none) = _
    rw [hok, if_pos (by decide)]
    cases pl.filter (meetQ rs i j) <;> rfl
  simp! only [ne]
  unfold meetI
  cases e : pl.filter (meetQ rs i j) with
  | nil => simp! only [List.isEmpty_nil, List.headD_nil]
  | cons q l => simp! only [List.isEmpty_cons, List.headD_cons]
def NsB (ns : List Int) : Prop := ∀ n ∈ ns, Bd 31 n
theorem NsB.get {ns : List Int} (h : NsB ns) (i : Nat) : Bd 31 (ns.getD i 0) := by
  by_cases hi : i < ns.length
  · rw [List.getD_eq_getElem?_getD, List.getElem?_eq_getElem hi]
    exact h _ (List.getElem_mem hi)
  · rw [List.getD_eq_getElem?_getD, List.getElem?_eq_none (by omega)]
    exact ⟨by show -(10 ^ 31) ≤ (0 : Int); decide, by show (0 : Int) ≤ 10 ^ 31; decide⟩
theorem meet_bd {rs : List Row} {pl : List PRow} {i j : Nat} (h : PlanB pl) : Bd 1 (meetI rs pl i j) := by
  have := meetI_bd (rs := rs) (i := i) (j := j) h
  unfold Bd
  omega
def othersL (rs : List Row) (at_ : Nat) : List Int := rs.zipIdx.map fun q => q.1.num - (if q.2 = at_ then 1 else 0)
def bestI (p : Int) (rs : List Row) (pl : List PRow) (at_ : Nat) : Int := (rs.map (·.sc)).getD at_ 0 + p * ((othersL rs at_).zipIdx.map fun q => meetI rs pl at_ q.2 * q.1).sum
structure RowsS (rs : List Row) : Prop where
  l1 : 1 ≤ rs.length
  l6 : rs.length ≤ 6
  ok : ∀ r ∈ rs, 1 ≤ r.num ∧ r.num ≤ 10 ^ 30 ∧ 0 ≤ r.sc ∧ r.sc ≤ 10 ^ 33
theorem RowsOk.s {rs : List Row} (h : RowsOk rs) : RowsS rs := ⟨h.l1, h.l6, fun r hr => ⟨(h.ok r hr).n1, (h.ok r hr).n2, (h.ok r hr).s1, (h.ok r hr).s2⟩⟩
theorem othersL_len {rs : List Row} {a : Nat} : (othersL rs a).length = rs.length := by unfold othersL; simp
theorem othersL_b {rs : List Row} {a : Nat} (h : RowsS rs) : NsB (othersL rs a) ∧ ∀ n ∈ othersL rs a, 0 ≤ n ∧ n ≤ 10 ^ 30 := by
  have key : ∀ n ∈ othersL rs a, 0 ≤ n ∧ n ≤ 10 ^ 30 := fun n hn => by
    unfold othersL at hn
    obtain ⟨q, hq, rfl⟩ := List.mem_map.mp hn
    have hm : q.1 ∈ rs := by
      have := List.mem_zipIdx hq
      rw [this.2.2]
      exact List.getElem_mem _
    have := h.ok q.1 hm
    show 0 ≤ q.1.num - (if q.2 = a then 1 else 0) ∧ q.1.num - (if q.2 = a then 1 else 0) ≤ 10 ^ 30
    split <;> omega
  refine ⟨fun n hn => ?_, key⟩
  have := key n hn
  unfold Bd
  omega
def SpOthers (c : Nat) (f : Fd) : Prop := ∀ p rs pl (a : Nat) st, rs.length ≤ 6 → f [objSe c p rs pl, .int (a : Int)] st = .ok (.lst ((othersL rs a).map .int)) st
theorem sp_others (L : SeC Γ c) : SpOthers c (runF 2 4 (m_Season_others_of_k57 Γ)) := by
  intro p rs pl a st h6
  have hsf : seqF (encL rs) = some (rs.map encR) := rfl
  apply OP_eq
  refine OP_run rfl ?_
  delta m_Season_others_of_k57
  simp! only [L.lines, hsf, enum_map]
  rw [comp_mapL (enc := fun q : Row × Nat => D.exc 0 [.int (q.2 : Int), encR q.1]) (g := fun q => .int (q.1.num - (if q.2 = a then 1 else 0))) rs.zipIdx (lim_ge (by simp; omega)) fun q hq => by
    have e1 : ∀ st, op2 .idx st (encR q.1) (.int 1) = some (.int q.1.num) := fun _ => rfl
    apply OP_eq
    simp! only [turnV_eq, e1]
    by_cases h : q.2 = a
    · have h' : (q.2 : Int) = a := by omega
      simp! only [h', decide_true, h, if_true]
      rfl
    · have h' : ¬ (q.2 : Int) = a := by omega
      simp! only [h', decide_false, h, if_false]
      rfl]
  rw [OP_ok, OP_ok]
  unfold othersL
  rw [List.map_map]
  exact ⟨rfl, rfl⟩
def SpBestSe (c : Nat) (f : Fd) : Prop := ∀ p rs pl (a : Nat) st, 1 ≤ p → p ≤ 9 → RowsS rs → PlanB pl → a < rs.length → f [objSe c p rs pl, .int (a : Int)] st = .ok (.int (bestI p rs pl a)) st
theorem sp_bestSe (L : SeC Γ c) (hm : HasM Γ c 34 (SpMeet c)) (ho : HasM Γ c 36 (SpOthers c)) : SpBestSe c (runF 2 5 (m_Season_best_of_k57 Γ c)) := by
  intro p rs pl a st h1 h9 hr hp ha
  obtain ⟨g, hg, hg2⟩ := hm
  obtain ⟨h, hh, hh2⟩ := ho
  have l6 := hr.l6
  have hol := othersL_len (rs := rs) (a := a)
  have hob := othersL_b (a := a) hr
  have e1 : ∀ st, op2 .idx st (encL rs) (.int (a : Int)) = some (encR (rs.getD a ⟨[], 0, 0⟩)) := fun st => by
    show atI (rs.map encR) (a : Int) = _
    rw [atI_nat, List.getElem?_map, List.getElem?_eq_getElem ha, List.getD_eq_getElem?_getD, List.getElem?_eq_getElem ha]; rfl
  have e2 : ∀ st, op2 .idx st (encR (rs.getD a ⟨[], 0, 0⟩)) (.int 2) = some (.int ((rs.map (·.sc)).getD a 0)) := fun st => by
    rw [List.getD_eq_getElem?_getD, List.getD_eq_getElem?_getD, List.getElem?_map, List.getElem?_eq_getElem ha]; rfl
  have hsf : ∀ ns : List Int, seqF (D.lst (ns.map D.int)) = some (ns.map D.int) := fun _ => rfl
  apply OP_eq
  refine OP_run rfl ?_
  delta m_Season_best_of_k57
  simp! only [val_me, meX_se hh, hh2 p rs pl a _ hr.l6, enum_map]
  rw [comp_mapL (enc := fun q : Int × Nat => D.exc 0 [.int (q.2 : Int), .int q.1]) (g := fun q => .int (meetI rs pl a q.2 * q.1)) (othersL rs a).zipIdx (lim_ge (by simp; omega)) fun q hq => by
    have hm := List.mem_zipIdx hq
    have hq2 : q.2 < rs.length := by have := hm.2.1; omega
    have hqb : q.1 ∈ othersL rs a := by rw [hm.2.2]; exact List.getElem_mem _
    have k1 : okMul (meetI rs pl a q.2) q.1 = true := (meet_bd hp).ok (hob.1 q.1 hqb) (by omega) (by omega)
    apply OP_eq
    simp! only [turnV_eq, val_me, meX_se hg, hg2 p rs pl a q.2 _ hr.l6 hp ha hq2, k1]]
  have hs : bi .sum st [.lst ((othersL rs a).zipIdx.map fun q => D.int (meetI rs pl a q.2 * q.1))] = some (.int ((othersL rs a).zipIdx.map fun q => meetI rs pl a q.2 * q.1).sum) := by
    have key : ∀ l : List (Int × Nat), dInts (l.map fun q => D.int (meetI rs pl a q.2 * q.1)) = some (l.map fun q => meetI rs pl a q.2 * q.1) := fun l => by
      induction l with
      | nil => rfl
      | cons x l ih => show (dInts (l.map fun q => D.int (meetI rs pl a q.2 * q.1))).map (_ :: ·) = _; rw [ih]; rfl
    show ((some ((othersL rs a).zipIdx.map fun q => D.int (meetI rs pl a q.2 * q.1))).bind fun xs => (dInts xs).map fun is => D.int is.sum) = _
    rw [Option.bind_some, key]; rfl
  have k2 : okMul p ((othersL rs a).zipIdx.map fun q => meetI rs pl a q.2 * q.1).sum = true := by
    have b1 : Bd 1 p := ⟨by omega, by omega⟩
    have b2 : Bd 33 ((othersL rs a).zipIdx.map fun q => meetI rs pl a q.2 * q.1).sum := Bd.sum (a := 32) (fun q hq => (meet_bd hp).mul (hob.1 q.1 (by rw [(List.mem_zipIdx hq).2.2]; exact List.getElem_mem _))) (by simp; omega)
    exact b1.ok b2 (by omega) (by omega)
  simp! only [hs, L.lines, L.stake, e1, e2, k2]
  rfl
theorem bestI_bd {p : Int} {rs : List Row} {pl : List PRow} {a : Nat} (h1 : 1 ≤ p) (h9 : p ≤ 9) (hr : RowsS rs) (hp : PlanB pl) : Bd 36 (bestI p rs pl a) := by
  have l6 := hr.l6
  have hol := othersL_len (rs := rs) (a := a)
  have hob := othersL_b (a := a) hr
  have b1 : Bd 1 p := ⟨by omega, by omega⟩
  have b2 : Bd 33 ((othersL rs a).zipIdx.map fun q => meetI rs pl a q.2 * q.1).sum := Bd.sum (a := 32) (fun q hq => (meet_bd hp).mul (hob.1 q.1 (by rw [(List.mem_zipIdx hq).2.2]; exact List.getElem_mem _))) (by simp; omega)
  have b3 : Bd 33 ((rs.map (·.sc)).getD a 0) := by
    rw [List.getD_eq_getElem?_getD, List.getElem?_map]
    cases e : rs[a]? with
    | none => exact ⟨by decide, by decide⟩
    | some r =>
      have := hr.ok r (List.mem_of_getElem? e)
      show Bd 33 r.sc
      unfold Bd
      omega
  exact ((b3.up (by omega : 33 ≤ 35)).add ((b1.mul b2).up (by omega : 1 + 33 ≤ 35)))
theorem sum_mapI {α : Type} {st : Store} (g : α → Int) (l : List α) : bi .sum st [.lst (l.map fun x => D.int (g x))] = some (.int (l.map g).sum) := by
  have key : ∀ l : List α, dInts (l.map fun q => D.int (g q)) = some (l.map g) := fun l => by
    induction l with
    | nil => rfl
    | cons x l ih => show (dInts (l.map fun q => D.int (g q))).map (_ :: ·) = _; rw [ih]; rfl
  show ((some (l.map fun x => D.int (g x))).bind fun xs => (dInts xs).map fun is => D.int is.sum) = _
  rw [Option.bind_some, key]; rfl
structure PlanOk (rs : List Row) (pl : List PRow) : Prop where
  l21 : pl.length ≤ 21
  a : ∀ q ∈ pl, q.1 ∈ rs.map (·.nm)
  b : ∀ q ∈ pl, q.2.1 ∈ rs.map (·.nm)
  t : ∀ q ∈ pl, 1 ≤ q.2.2 ∧ q.2.2 ≤ 9
  nd : ∀ pre q post, pl = pre ++ q :: post → (pre.any fun z => z.1 == q.1 && z.2.1 == q.2.1) = false ∧ (pre.any fun z => z.1 == q.2.1 && z.2.1 == q.1) = false
theorem PlanOk.bd {rs : List Row} {pl : List PRow} (h : PlanOk rs pl) : PlanB pl := ⟨by have := h.l21; omega, h.t⟩
theorem any_nm {rs : List Row} {u : List Nat} (h : u ∈ rs.map (·.nm)) : (rs.any fun r => r.nm == u) = true := by
  obtain ⟨r, hr, rfl⟩ := List.mem_map.mp h
  exact List.any_eq_true.mpr ⟨r, hr, by simp⟩
def SpIsLeft (f : Fd) : Prop := ∀ (rs : List Row) (q : PRow) st, q.1 ∈ rs.map (·.nm) → q.2.1 ∈ rs.map (·.nm) → 1 ≤ q.2.2 → q.2.2 ≤ 9 → f [encPr q, .lst (rs.map fun r => .str r.nm)] st = .ok (.bl true) st
theorem sp_isLeft (hw : SpWithin f) : SpIsLeft (runF 2 2 (m_is_left Γ f)) := by
  intro rs q st ha hb h1 h9
  obtain ⟨a, b, t⟩ := q
  apply OP_eq
  refine OP_run rfl ?_
  delta m_is_left encPr
  have e1 : decide ((1 : Int) ≤ t ∧ t ≤ 9) = true := decide_eq_true ⟨h1, h9⟩
  have m1 := any_nm ha
  have m2 := any_nm hb
  simp! only [hw t, e1, mem_strs, m1, m2]
def SpWrongLeft (f : Fd) : Prop := ∀ rs pl st, PlanOk rs pl → f [.tup (pl.map encPr), .lst (rs.map fun r => .str r.nm)] st = .ok .non st
theorem mem_pairs {st : Store} {a b : List Nat} {pre : List PRow} : op2 .mem st (.tup [.str a, .str b]) (.lst (pre.map fun z => .tup [.str z.1, .str z.2.1])) = some (.bl (pre.any fun z => z.1 == a && z.2.1 == b)) := by
  have o1 : okEq 64 (.tup [.str a, .str b]) = true := rfl
  have o2 : okEqs 64 (pre.map fun z => D.tup [.str z.1, .str z.2.1]) = true := by
    induction pre with
    | nil => rfl
    | cons x l ih =>
      rw [List.map_cons]
      show (okEq 64 _ && okEqs 64 _) = true
      rw [ih]; rfl
  rw [mem_tl, o1, o2, if_pos (by decide), List.any_map]
  congr 3
  funext z
  simp [Function.comp, pyEq_pair]
theorem sp_wrongLeft (hl : SpIsLeft f) : SpWrongLeft (runF 2 5 (m_wrong_left Γ f)) := by
  intro rs pl st h
  apply OP_eq
  refine OP_run rfl ?_
  delta m_wrong_left
  simp! only []
  refine forL_enum (enc := encPr) (fun pre env st' => ∃ s3 s4, env = [.v (.tup (pl.map encPr)), .v (.lst (rs.map fun r => .str r.nm)), .own (pre.map fun z => .tup [.str z.1, .str z.2.1]), s3, s4] ∧ st' = st) ⟨_, _, rfl, rfl⟩ ?_ ?_
  · rintro pre q post env st' e ⟨s3, s4, rfl, rfl⟩
    have hq : q ∈ pl := by rw [e]; simp
    have hl' := h.l21
    have hpl : pre.length < 21 := by
      have := congrArg List.length e
      simp at this
      omega
    have nd := h.nd pre q post e
    refine ⟨_, by simp! only []; rfl, ?_⟩
    have i0 : ∀ st, op2 .idx st (encPr q) (.int 0) = some (.str q.1) := fun _ => rfl
    have i1 : ∀ st, op2 .idx st (encPr q) (.int 1) = some (.str q.2.1) := fun _ => rfl
    have e7 : (pre.map fun z => D.tup [.str z.1, .str z.2.1]).length < LIM := by
      rw [List.length_map]; exact Nat.lt_of_lt_of_le hpl (lim_ge (by omega))
    simp! only [hl rs q _ (h.a q hq) (h.b q hq) (h.t q hq).1 (h.t q hq).2, i0, i1, mem_pairs, nd.1, nd.2, e7, List.map_append]
    first | exact ⟨_, _, rfl, rfl⟩ | exact ⟨_, _, rfl⟩
  · rintro env st' ⟨s3, s4, rfl, rfl⟩
    simp! only []
structure SeK (Γ : Ctx) (c : Nat) (K : Cl) : Prop where
  at_ : Γ.cls c = some K
  flds : K.fields = [6, 7, 8]
  frz : K.frozen = true
theorem SeK.fld {K : Cl} (L : SeK Γ c K) {f : Nm} (h : [6, 7, 8].contains f = true) : isFld Γ c f = true := by
  unfold isFld; rw [L.at_]; show K.fields.contains f = true; rw [L.flds]; exact h
theorem lt_plan {l : Nat} : ∀ pl : List PRow, ltLocs l (pl.map encPr) = true
  | [] => rfl
  | r :: rs => by
    rw [List.map_cons]
    show (ltLoc l (encPr r) && ltLocs l (rs.map encPr)) = true
    rw [lt_plan rs]; rfl
def SpInitSe (c : Nat) (f : Fd) : Prop := ∀ p rs pl l st, 1 ≤ p → p ≤ 9 → RowsOk rs → PlanOk rs pl → st[l]? = some (.ins c []) → f [.loc l, .int p, encL rs, .tup (pl.map encPr)] st = .ok .non (st.set l (.ins c [(6, .int p), (7, encL rs), (8, .tup (pl.map encPr))]))
theorem sp_initSe {K : Cl} {x : Nat} (L : SeK Γ c K) (hf : SpChkPts f) (hg : SpChkRows g) (hh : SpWrongLeft h) : SpInitSe c (runF 4 7 (m_Season_init Γ f g x h)) := by
  intro p rs pl l st h1 h2 hr hp hl
  have hlt := (List.getElem?_eq_some_iff.mp hl).1
  have l6 := hr.l6
  apply OP_eq
  refine OP_run rfl ?_
  delta m_Season_init encL
  have hsf : seqI (D.tup (rs.map encR)) = some (rs.map encR) := rfl
  simp! only [hf p _ h1 h2, hg rs _ hr]
  rw [comp_mapL (enc := encR) (g := fun r => .str r.nm) rs (lim_ge (by omega)) fun r hr => by
    apply OP_eq
    simp! only [turnV_eq, idx_row0]]
  simp! only [hh rs pl _ hp]
  simp! only [fldV_loc hl (rfl : ltLoc l (.int p) = true) (by decide) (L.fld (f := 6) rfl)]
  simp! only [fldV_loc (set_at hl) (show ltLoc l (.tup (rs.map encR)) = true from lt_rows rs) (show (putF 6 (D.int p) []).length < 100 by simp [putF]) (L.fld (f := 7) rfl), List.set_set]
  have hs2 : (st.set l (Obj.ins c (putF 7 (D.tup (rs.map encR)) (putF 6 (D.int p) []))))[l]? = some (Obj.ins c (putF 7 (D.tup (rs.map encR)) (putF 6 (D.int p) []))) := set_at hl
  simp! only [fldV_loc hs2 (show ltLoc l (.tup (pl.map encPr)) = true from lt_plan pl) (show (putF 7 (D.tup (rs.map encR)) (putF 6 (D.int p) [])).length < 100 by simp [putF]) (L.fld (f := 8) rfl), List.set_set]
  first | done | rfl | exact ⟨rfl, rfl⟩
theorem mk_season {K : Cl} (L : SeK Γ c K) (hi : SpInitSe c (Γ.call K.init)) {p : Int} {rs : List Row} {pl : List PRow} {st : Store} (h1 : 1 ≤ p) (h2 : p ≤ 9) (h : RowsOk rs) (hp : PlanOk rs pl) : mkObj Γ c [.int p, encL rs, .tup (pl.map encPr)] st = .ok (objSe c p rs pl) st := by
  unfold mkObj
  rw [L.at_]
  have e := hi p rs pl st.length (st ++ [.ins c []]) h1 h2 h hp (by simp)
  simp only
  rw [e]
  have e2 : (st ++ [Obj.ins c []]).set st.length (Obj.ins c [(6, .int p), (7, encL rs), (8, .tup (pl.map encPr))]) = st ++ [Obj.ins c [(6, .int p), (7, encL rs), (8, .tup (pl.map encPr))]] := by simp
  rw [e2, L.frz]
  simp [L.flds, objSe]
theorem mem_kinds {rs : List Row} {u : List Nat} {st : Store} : op2 .nmem st (.str u) (kindsD rs) = some (.bl (!rs.any fun r => r.nm == u)) := by
  show (if (okEq 64 (.str u) && okEqs 64 (rs.map fun a => D.str a.nm)) = true then some (D.bl (!(rs.map fun a => D.str a.nm).any fun z => pyEq z (.str u))) else none) = _
  rw [okEqs_strs (fun r : Row => r.nm) rs]
  simp [okEq, List.any_map, Function.comp_def, pyEq]
theorem nm_mem {rs : List Row} {a : Nat} (ha : a < rs.length) : nmAt rs a ∈ rs.map (·.nm) := by
  unfold nmAt
  rw [List.getD_eq_getElem?_getD, List.getElem?_eq_getElem (by simpa using ha)]
  exact List.getElem_mem _
def SpChkKind (f : Fd) : Prop := ∀ rs u st, u ∈ rs.map (fun r : Row => r.nm) → f [kindsD rs, .str u] st = .ok .non st
theorem sp_chkKind {x : Nat} : SpChkKind (runF 2 2 (m_check_kind Γ x)) := by
  intro rs u st h
  apply OP_eq
  refine OP_run rfl ?_
  delta m_check_kind
  simp! only [mem_kinds, any_nm h]
theorem idx_kinds {rs : List Row} {a : Nat} {st : Store} (hn : (rs.map (·.nm)).Nodup) (ha : a < rs.length) : mt .index st (kindsD rs) [.str (nmAt rs a)] = some (.int (a : Int)) := by
  show (if okEq 64 (.str (nmAt rs a)) && okEqs 63 (rs.map fun r => D.str r.nm) then ((rs.map fun r => D.str r.nm).findIdx? fun z => pyEq z (.str (nmAt rs a))).map fun (k : Nat) => D.int (k : Int) else none) = _
  rw [okEqs_strs (fun r : Row => r.nm) rs]
  have e : ((rs.map fun r => D.str r.nm).findIdx? fun z => pyEq z (.str (nmAt rs a))) = some a := by
    rw [List.findIdx?_eq_some_iff_getElem]
    refine ⟨by simpa using ha, ?_, ?_⟩
    · unfold nmAt
      rw [List.getElem_map, List.getD_eq_getElem?_getD, List.getElem?_eq_getElem (by simpa using ha)]
      simp [pyEq]
    · intro j hj
      unfold nmAt
      rw [List.getElem_map, List.getD_eq_getElem?_getD, List.getElem?_eq_getElem (by simpa using ha)]
      have hne : (rs.map (·.nm))[j]'(by rw [List.length_map]; omega) ≠ (rs.map (·.nm))[a]'(by simpa using ha) := by
        intro e
        have := (List.getElem_inj hn).mp e
        omega
      rw [List.getElem_map] at hne
      simpa [pyEq] using hne
  rw [e]
  rfl
def SpRowOf (c : Nat) (f : Fd) : Prop := ∀ p rs pl (a : Nat) st, RowsOk rs → a < rs.length → f [objSe c p rs pl, .str (nmAt rs a)] st = .ok (.int (a : Int)) st
theorem sp_rowOf (hk : SpKindsSe Γ c) (hc : SpChkKind f) : SpRowOf c (runF 2 2 (m_Season_row_of_k57 Γ f)) := by
  intro p rs pl a st h ha
  have it : isTp (kindsD rs) = true := rfl
  apply OP_eq
  refine OP_run rfl ?_
  delta m_Season_row_of_k57
  simp! only [hk p rs pl _ h.l6, hc rs _ _ (nm_mem ha), it, idx_kinds h.nd ha]
end
end G
namespace G
section
variable {Γ : Ctx} {c : Nat}
theorem run_kindsSe (L : SeC Γ c) {p : Int} {rs : List Row} {pl : List PRow} {st : Store} (h : rs.length ≤ 6) : runF 1 2 (m_List_kinds Γ) [objSe c p rs pl] st = .ok (kindsD rs) st := by
  apply OP_eq
  refine OP_run rfl ?_
  delta m_List_kinds
  simp! only [L.lines, si_encL]
  rw [comp_mapL (g := fun r => .str r.nm) rs (lim_ge (by omega)) fun r hr => ?_]
  · simp! only []; rfl
  · apply OP_eq
    simp! only [turnV_eq, idx_row0]
theorem propSe {K : Cl} (h : Γ.cls c = some K) (hf : K.fields = [6, 7, 8]) {f : Nm} {g : Nat} {p : Int} {rs : List Row} {pl : List PRow} {st : Store} {d : D} (hn : f ≠ 6 ∧ f ≠ 7 ∧ f ≠ 8) (hp : K.props.lookup f = some g) (hg : Γ.call g [objSe c p rs pl] st = .ok d st) : atV Γ f (objSe c p rs pl) st = .ok d st := by
  unfold atV
  have e : fldv Γ st f (objSe c p rs pl) = none := by
    show (Γ.cls c).bind (fun k => (k.fields.zip [.int p, encL rs, .tup (pl.map encPr)]).lookup f) = _
    rw [h]
    show (K.fields.zip _).lookup f = _
    rw [hf]
    have e1 : (f == 6) = false := by simpa using hn.1
    have e2 : (f == 7) = false := by simpa using hn.2.1
    have e3 : (f == 8) = false := by simpa using hn.2.2
    simp [List.lookup, e1, e2, e3]
  rw [e]
  show (match (some (c, [D.int p, encL rs, .tup (pl.map encPr)])).bind fun q => (Γ.cls q.1).bind fun k => k.props.lookup f with
    | some g => (Γ.call g [objSe c p rs pl] st).hush
    | none => .bad) = _
  rw [Option.bind_some, h, Option.bind_some, hp]
  show (Γ.call g [objSe c p rs pl] st).hush = _
  rw [hg]; rfl
theorem sp_kindsSe {K : Cl} (h : Γ.cls c = some K) (hf : K.fields = [6, 7, 8]) {g : Nat} (hp : K.props.lookup 18 = some g) (hg : ∀ p rs pl st, rs.length ≤ 6 → Γ.call g [objSe c p rs pl] st = .ok (kindsD rs) st) : SpKindsSe Γ c :=
  fun p rs pl st h6 => propSe h hf (by decide) hp (hg p rs pl st h6)
end
end G
namespace G
section
variable {Γ : Ctx} {f g h : Fd}
section
variable [FrC]
theorem sp_draw (Γ : Ctx) : SpDip (runF 2 3 (m_draw Γ)) := by
  intro l n m st ⟨a, b, c, h1, ha, hb, hc, hf⟩ hn hm hm2
  have hl := (List.getElem?_eq_some_iff.mp h1).1
  refine OP_run rfl ?_
  delta m_draw
  simp! only [idx_loc h1]
  refine ⟨fun hb0 => ?_, fun hb0 => ?_⟩
  · refine ⟨okDiv_of (by omega) hm2, ?_⟩
    simp! only [subV_loc h1]
    refine ⟨_, rfl, Int.emod_nonneg _ (by omega), Int.emod_lt_of_pos _ (by omega), a, b / m, c, by rw [List.getElem?_set_self hl], ha, Int.ediv_nonneg hb (by omega), ⟨hc.1, by omega⟩, fr_set hf⟩
  · simp! only [subV_loc h1, idx_set hl, subV_set hl]
    have hcc : 0 ≤ (c + 1) * (c + 1) ∧ (c + 1) * (c + 1) ≤ 10 ^ 20 := by
      have h1 : (c + 1) * (c + 1) ≤ (10 ^ 10) * (10 ^ 10) := Int.mul_le_mul (by omega) (by omega) (by omega) (by omega)
      exact ⟨Int.mul_nonneg (by omega) (by omega), by omega⟩
    refine ⟨okMul_of (by omega) (by omega) (by omega) (by omega), okMul_of (by omega) (by omega) (by omega) (by omega), okMul_of (by omega) (by omega) (by omega) (by omega), okDiv_of (by omega) (by omega), okDiv_of (by omega) (by omega), okDiv_of (by omega) hm2, ?_⟩
    refine ⟨_, rfl, Int.emod_nonneg _ (by omega), Int.emod_lt_of_pos _ (by omega), _, b, c + 1, by rw [List.getElem?_set_self hl], ⟨Int.emod_nonneg _ (by omega), Int.lt_of_lt_of_le (Int.emod_lt_of_pos _ (by omega)) (by omega)⟩, hb, ⟨by omega, by omega⟩, fr_set hf⟩
theorem sp_greatF (hd : SpDip f) : SpRange (runF 1 3 (m_great_k57 Γ f)) 5 0 (10 ^ 30 - 1) := by
  intro l n st hw hn
  refine OP_run rfl ?_
  delta m_great_k57
  simp! only []
  refine ⟨⟨by unfold LIM; omega, by unfold LIM; omega⟩, ?_⟩
  rw [range0]
  refine forL_invL (fun (pre : List Nat) env st' => ∃ (a : Int) (s2 : Sl), env = [.v (.loc l), .v (.int a), s2] ∧ 0 ≤ a ∧ a + 1 ≤ (10 ^ 6) ^ pre.length ∧ Wl l (n + pre.length) st') ⟨0, _, rfl, by omega, by simp, hw.up (by omega)⟩ ?_ ?_
  · rintro pre k post env st3 e ⟨a, s2, rfl, h0, h1, hw3⟩
    obtain ⟨rfl, hk⟩ := range_at e
    have hk5 : pre.length < 5 := hk
    have hp : (10 ^ 6 : Int) ^ pre.length ≤ (10 ^ 6) ^ 4 := by
      have : pre.length = 0 ∨ pre.length = 1 ∨ pre.length = 2 ∨ pre.length = 3 ∨ pre.length = 4 := by omega
      rcases this with h | h | h | h | h <;> rw [h] <;> decide
    have hp4 : ((10 : Int) ^ 6) ^ 4 = 10 ^ 24 := by decide
    refine ⟨_, by simp! only []; rfl, ?_⟩
    simp! only []
    refine ⟨okMul_of (by omega) (by omega) (by omega) (by omega), ?_⟩
    refine (hd l _ 1000000 st3 hw3 (by omega) (by omega) (by omega)).mono ?_
    rintro _ st4 ⟨d, rfl, hd0, hd1, hw4⟩
    simp! only []
    refine ⟨_, _, rfl, by omega, ?_, hw4.up (by simp; omega)⟩
    rw [List.length_append, List.length_singleton, Int.pow_succ]
    have : (a + 1) * 1000000 ≤ 1000000 ^ pre.length * 1000000 := Int.mul_le_mul_of_nonneg_right h1 (by omega)
    omega
  · rintro env st3 ⟨a, s2, rfl, h0, h1, hw3⟩
    simp! only []
    have e5 : (List.range (5 : Int).toNat).length = 5 := by simp
    rw [e5] at h1 hw3
    have : ((10 : Int) ^ 6) ^ 5 = 10 ^ 30 := by decide
    exact ⟨a, rfl, h0, by omega, hw3⟩
theorem sp_numberF (hd : SpDip f) (hg : SpRange g 5 0 (10 ^ 30 - 1)) : SpRange (runF 1 2 (m_number_k57 Γ f g)) 6 1 (10 ^ 30) := by
  intro l n st hw hn
  refine OP_run rfl ?_
  delta m_number_k57
  simp! only []
  refine (hd l _ 5 st hw (by omega) (by omega) (by omega)).mono ?_
  rintro _ st1 ⟨k, rfl, hk0, hk1, hw1⟩
  simp! only []
  refine ⟨fun h0 => ?_, fun h0 => ⟨fun h1 => ?_, fun h1 => ⟨fun h2 => ?_, fun h2 => ?_⟩⟩⟩
  · refine (hd l _ 4 st1 hw1 (by omega) (by omega) (by omega)).mono ?_
    rintro _ st2 ⟨d, rfl, hd0, hd1, hw2⟩
    simp! only []
    exact ⟨_, rfl, by omega, by omega, hw2.up (by omega)⟩
  · refine (hd l _ 1000 st1 hw1 (by omega) (by omega) (by omega)).mono ?_
    rintro _ st2 ⟨d, rfl, hd0, hd1, hw2⟩
    simp! only []
    exact ⟨_, rfl, by omega, by omega, hw2.up (by omega)⟩
  · refine (hg l _ st1 hw1 (by omega)).mono ?_
    rintro _ st2 ⟨d, rfl, hd0, hd1, hw2⟩
    simp! only []
    exact ⟨_, rfl, by omega, by omega, hw2.up (by omega)⟩
  · refine (hd l _ 3 st1 hw1 (by omega) (by omega) (by omega)).mono ?_
    rintro _ st2 ⟨d, rfl, hd0, hd1, hw2⟩
    simp! only []
    exact ⟨_, rfl, by omega, by omega, hw2.up (by omega)⟩
theorem sp_soFar (hd : SpDip f) (hg : SpRange g 5 0 (10 ^ 30 - 1)) : SpRange (runF 1 2 (m_so_far Γ f g)) 7 0 (5 * 10 ^ 32) := by
  intro l n st hw hn
  refine OP_run rfl ?_
  delta m_so_far
  simp! only []
  refine (hd l _ 4 st hw (by omega) (by omega) (by omega)).mono ?_
  rintro _ st1 ⟨k, rfl, hk0, hk1, hw1⟩
  simp! only []
  refine ⟨fun h0 => ?_, fun h0 => ⟨fun h1 => ?_, fun h1 => ?_⟩⟩
  · refine (hd l _ 12 st1 hw1 (by omega) (by omega) (by omega)).mono ?_
    rintro _ st2 ⟨d, rfl, hd0, hd1, hw2⟩
    simp! only []
    exact ⟨_, rfl, by omega, by omega, hw2.up (by omega)⟩
  · refine (hd l _ 1000000 st1 hw1 (by omega) (by omega) (by omega)).mono ?_
    rintro _ st2 ⟨d, rfl, hd0, hd1, hw2⟩
    simp! only []
    exact ⟨_, rfl, by omega, by omega, hw2.up (by omega)⟩
  · refine (hg l _ st1 hw1 (by omega)).mono ?_
    rintro _ st2 ⟨d, rfl, hd0, hd1, hw2⟩
    simp! only []
    refine ⟨okMul_of (by omega) (by omega) (by omega) (by omega), ?_⟩
    refine (hd l _ 501 st2 hw2 (by omega) (by omega) (by omega)).mono ?_
    rintro _ st3 ⟨d2, rfl, hd2, hd3, hw3⟩
    simp! only []
    exact ⟨_, rfl, by omega, by omega, hw3.up (by omega)⟩
end
end
section
variable {Γ : Ctx} {f g h : Fd}
variable [FrC]
def wordsF : List (List Nat) := [[112, 111, 105, 110, 116, 115], [112, 111, 115, 115, 105, 98, 108, 101], [110, 101, 118, 101, 114], [116, 97, 107, 101, 115], [97, 98, 111, 118, 101], [97], [97, 108, 108], [110, 111, 110, 101]]
theorem wordsF_ok : ∀ w ∈ wordsF, isNameS w = true := by decide
theorem q_name {k : Nat} (h : k < 10) : isNameS (113 :: natStr k) = true := by
  rw [natStr_rec, if_pos h]
  have : k = 0 ∨ k = 1 ∨ k = 2 ∨ k = 3 ∨ k = 4 ∨ k = 5 ∨ k = 6 ∨ k = 7 ∨ k = 8 ∨ k = 9 := by omega
  rcases this with rfl | rfl | rfl | rfl | rfl | rfl | rfl | rfl | rfl | rfl <;> decide
def qsL (m : Nat) : List (List Nat) := (List.range m).map fun k => 113 :: natStr k
theorem qcomp {st : Store} {m : Nat} {env : Env} (he : ∀ k : Nat, Env.get ((env.set 10 .em).set 10 (.v (.int (k : Int)))) 10 = some (.int (k : Int))) (h : m ≤ 8) : compL (turnV [10] (opE .add (kE (.str [113])) (biE .str [vE 10])) (.nm 10) [] env) ((List.range m).map fun (k : Nat) => D.int (k : Int)) [] st = .ok ((qsL m).map D.str) st := by
  rw [comp_mapL (g := fun k => D.str (113 :: natStr k)) (List.range m) (lim_ge (by rw [List.length_range]; omega)) fun k hk => ?_]
  · unfold qsL; rw [List.map_map]; rfl
  · have hk : k < m := by simpa using hk
    have e1 : (k : Int).natAbs < 2 ^ 1900 := small_str (by omega) (by omega)
    apply OP_eq
    simp! only [turnV_eq, he, e1, intStr_nat]
    have := natStr_len' 39 k (by omega)
    exact lim_ge (by omega)
theorem qs_nodup (m : Nat) : (qsL m).Nodup := by
  unfold qsL
  refine List.Pairwise.map _ (fun a b hab => ?_) List.nodup_range
  intro e
  exact hab (natStr_inj (by simpa using e))
theorem fresh_pickQ {ns : List (List Nat)} {w : List Nat} {m : Nat} (hw : isNameS w = true) (hl : ns.length < m) (hm : m ≤ 8) :
    ∃ x, atI (((w :: qsL m).filter fun v => !ns.contains v).map D.str) 0 = some (.str x) ∧ isNameS x = true ∧ x ∉ ns := by
  have hex : ∃ z ∈ qsL m, z ∉ ns := by
    apply Classical.byContradiction
    intro hn
    have := nodup_le (qs_nodup m) (m := ns) fun x hx => by
      apply Classical.byContradiction
      intro hx2
      exact hn ⟨x, hx, hx2⟩
    unfold qsL at this
    simp at this
    omega
  obtain ⟨z, hz, hz2⟩ := hex
  have hin : z ∈ (w :: qsL m).filter fun v => !ns.contains v := by
    rw [List.mem_filter]
    exact ⟨by simp [hz], by simpa using hz2⟩
  cases e : (w :: qsL m).filter fun v => !ns.contains v with
  | nil => rw [e] at hin; cases hin
  | cons x r =>
    have hx : x ∈ (w :: qsL m).filter fun v => !ns.contains v := by rw [e]; simp
    rw [List.mem_filter] at hx
    refine ⟨x, by rw [List.map_cons, atI_zero], ?_, by simpa using hx.2⟩
    rcases List.mem_cons.mp hx.1 with rfl | hx1
    · exact hw
    · unfold qsL at hx1
      obtain ⟨k, hk, rfl⟩ := List.mem_map.mp hx1
      have : k < m := by simpa using hk
      exact q_name (by omega)
theorem fcompQ {st : Store} {ns l : List (List Nat)} {env : Env} (h : l.length ≤ 1000) (he : ∀ w : List Nat, Env.get ((env.set 11 .em).set 11 (.v (.str w))) 11 = some (.str w)) (he2 : ∀ w : List Nat, Env.pk ((env.set 11 .em).set 11 (.v (.str w))) 6 = some (.lst (ns.map D.str))) : compL (turnV [11] (vE 11) (.nm 11) [opE .nmem (vE 11) (pkE 6)] env) (l.map D.str) [] st = .ok ((l.filter fun w => !ns.contains w).map D.str) st := by
  refine comp_filterL l (lim_ge (by omega)) fun w hw => ?_
  have e : op2 .nmem st (.str w) (.lst (ns.map D.str)) = some (.bl (!ns.contains w)) := by
    have := nmem_strs (st := st) (g := fun x => x) (l := ns) (u := w)
    rw [this, List.any_beq']
  apply OP_eq
  simp! only [turnV_eq, he, he2, e]
  by_cases hc : ns.contains w = true
  · simp! only [hc]
  · have hc : ns.contains w = false := by simpa using hc
    simp! only [hc]
theorem sp_named (hd : SpDip f) : SpNames (runF 2 12 (m_named Γ f)) := by
  intro l n m st hw hn h1 h2
  refine OP_run rfl ?_
  delta m_named
  simp! only []
  refine ⟨⟨by unfold LIM; omega, by unfold LIM; omega⟩, ?_⟩
  rw [range0]
  refine forL_invL (fun (pre : List Nat) env st' => ∃ (ns : List (List Nat)) (s2 s7 s8 s9 s10 s11 : Sl), env = [.v (.loc l), .v (.int m), s2, .v (.str letS), .v (.str sg36), .v (.lst (wordsF.map .str)), .own (ns.map .str), s7, s8, s9, s10, s11] ∧ ns.length = pre.length ∧ (∀ s ∈ ns, isNameS s = true) ∧ ns.Nodup ∧ Wl l (n + 20 * pre.length) st') ⟨[], _, _, _, _, _, _, rfl, rfl, by simp, List.nodup_nil, hw⟩ ?_ ?_
  · rintro pre x post env st1 e ⟨ns, s2, s7, s8, s9, s10, s11, rfl, hl, hok, hnd, hw1⟩
    obtain ⟨rfl, hx⟩ := range_at e
    have hp : pre.length < 8 := by omega
    refine ⟨_, by simp! only []; rfl, ?_⟩
    simp! only []
    refine (hd l _ 26 st1 hw1 (by omega) (by omega) (by omega)).mono ?_
    rintro _ st2 ⟨c, rfl, hc0, hc1, hw2⟩
    have hsg : atI letS c = some (letS.getD c.toNat 0) := by
      obtain ⟨q, rfl⟩ := Int.eq_ofNat_of_zero_le hc0
      exact atI_getD (by show q < 26; omega)
    have hlet : letS.contains (letS.getD c.toNat 0) = true := by
      have : ∀ k, k < 26 → letS.contains (letS.getD k 0) = true := by decide
      exact this _ (by omega)
    simp! only [hsg]
    refine (hd l _ 3 st2 hw2 (by omega) (by omega) (by omega)).mono ?_
    rintro _ st3 ⟨k, rfl, hk0, hk1, hw3⟩
    simp! only []
    have size : ∀ (Q : D → Store → Prop), (∀ (z : Int) (st4 : Store), 0 ≤ z → z < 8 → Wl l (n + 20 * pre.length + 3) st4 → Q (.int z) st4) → (k = 0 → OP Q (f [.loc l, .int 8] st3)) ∧ (¬ k = 0 → OP Q (f [.loc l, .int 3] st3)) := by
      intro Q h
      refine ⟨fun _ => ?_, fun _ => ?_⟩
      · refine (hd l _ 8 st3 hw3 (by omega) (by omega) (by omega)).mono ?_
        rintro _ st4 ⟨z, rfl, hz0, hz1, hw4⟩
        exact h z st4 hz0 (by omega) (hw4.up (by omega))
      · refine (hd l _ 3 st3 hw3 (by omega) (by omega) (by omega)).mono ?_
        rintro _ st4 ⟨z, rfl, hz0, hz1, hw4⟩
        exact h z st4 hz0 (by omega) (hw4.up (by omega))
    refine size _ fun z st4 hz0 hz1 hw4 => ?_
    simp! only []
    refine ⟨⟨by unfold LIM; omega, by unfold LIM; omega⟩, ?_⟩
    rw [range0]
    refine forL_invL (fun (pr : List Nat) env st' => ∃ (cs : List Nat) (t8 : Sl), env = [.v (.loc l), .v (.int m), .v (.int pre.length), .v (.str letS), .v (.str sg36), .v (.lst (wordsF.map .str)), .own (ns.map .str), .v (.str (letS.getD c.toNat 0 :: cs)), t8, s9, s10, s11] ∧ cs.length = pr.length ∧ cs.all isSign = true ∧ Wl l (n + 20 * pre.length + 3 + pr.length) st') ⟨[], _, rfl, rfl, rfl, hw4⟩ ?_ ?_
    · rintro pr y po env st5 e5 ⟨cs, t8, rfl, hcl, hcs, hw5⟩
      obtain ⟨rfl, hy⟩ := range_at e5
      have hy8 : pr.length < 8 := by omega
      refine ⟨_, by simp! only []; rfl, ?_⟩
      simp! only []
      refine (hd l _ 36 st5 hw5 (by omega) (by omega) (by omega)).mono ?_
      rintro _ st6 ⟨c2, rfl, hc20, hc21, hw6⟩
      simp! only [sg_at hc20 hc21]
      refine ⟨lim_ge (by simp; omega), ?_⟩
      have hsn := sg_sign c2.toNat (by omega)
      exact ⟨cs ++ [sg36.getD c2.toNat 0], _, rfl, by simp [hcl], by rw [List.all_append, hcs, List.all_cons, hsn]; rfl, hw6.up (by simp; omega)⟩
    rintro env st5 ⟨cs, t8, rfl, hcl, hcs, hw5⟩
    rw [List.length_range] at hcl hw5
    have hname : isNameS (letS.getD c.toNat 0 :: cs) = true := mk_name hlet hcs (by omega)
    simp! only []
    refine (hd l _ 6 st5 hw5 (by omega) (by omega) (by omega)).mono ?_
    rintro _ st6 ⟨k5, rfl, hk50, hk51, hw6⟩
    have hm8 : m.toNat ≤ 8 := by omega
    have hz : (qsL m.toNat).length = m.toNat := by unfold qsL; simp
    have hnl : ns.length < LIM := Nat.lt_of_lt_of_le (show ns.length < 9 by omega) (lim_ge (by omega))
    have rng : -(LIM : Int) ≤ m ∧ m ≤ LIM := ⟨by unfold LIM; omega, by unfold LIM; omega⟩
    have join : ∀ w : List Nat, D.str w :: (qsL m.toNat).map D.str = (w :: qsL m.toNat).map D.str := fun w => rfl
    have done_ : ∀ (w : List Nat) (st7 : Store), isNameS w = true → Wl l (n + 20 * pre.length + 15) st7 → ∃ x, atI (((w :: qsL m.toNat).filter fun v => !ns.contains v).map D.str) 0 = some (.str x) ∧ ∀ (t2 t7 t8 t9 t10 t11 : Sl), ∃ (ns' : List (List Nat)) (s2 s7 s8 s9 s10 s11 : Sl), [Sl.v (.loc l), .v (.int m), t2, .v (.str letS), .v (.str sg36), .v (.lst (wordsF.map .str)), .own (ns.map .str ++ [.str x]), t7, t8, t9, t10, t11] = [.v (.loc l), .v (.int m), s2, .v (.str letS), .v (.str sg36), .v (.lst (wordsF.map .str)), .own (ns'.map .str), s7, s8, s9, s10, s11] ∧ ns'.length = (pre ++ [pre.length]).length ∧ (∀ s ∈ ns', isNameS s = true) ∧ ns'.Nodup ∧ Wl l (n + 20 * (pre ++ [pre.length]).length) st7 := fun w st7 hwn hw7 => by
      obtain ⟨x, hx1, hx2, hx3⟩ := fresh_pickQ (ns := ns) hwn (show ns.length < m.toNat by omega) hm8
      exact ⟨x, hx1, fun t2 t7 t8 t9 t10 t11 => ⟨ns ++ [x], _, _, _, _, _, _, by rw [List.map_append]; rfl, by simp [hl], fun s hs => by
        rcases List.mem_append.mp hs with hs | hs
        · exact hok s hs
        · simp at hs; rw [hs]; exact hx2, List.nodup_append.mpr ⟨hnd, by simp, fun a ha b hb => by simp at hb; rw [hb]; exact fun e => hx3 (by rw [← e]; exact ha)⟩, hw7.up (by simp; omega)⟩⟩
    simp! only []
    refine ⟨fun _ => ?_, fun _ => ?_⟩
    · refine (hd l _ 8 st6 hw6 (by omega) (by omega) (by omega)).mono ?_
      rintro _ st7 ⟨k8, rfl, hk80, hk81, hw7⟩
      have hww : atI (wordsF.map D.str) k8 = some (.str (wordsF.getD k8.toNat [])) := by
        obtain ⟨q, rfl⟩ := Int.eq_ofNat_of_zero_le hk80
        rw [atI_nat, List.getElem?_map]
        have : q < wordsF.length := by show q < 8; omega
        simp [List.getElem?_eq_getElem this]
      have hwn : isNameS (wordsF.getD k8.toNat []) = true := by
        refine wordsF_ok _ ?_
        have : k8.toNat < wordsF.length := by show k8.toNat < 8; omega
        rw [List.getD_eq_getElem?_getD, List.getElem?_eq_getElem this]
        simp
      obtain ⟨x, hx1, hx2⟩ := done_ _ st7 hwn (hw7.up (by omega))
      simp! only [idx_lst, hww, rng, range0]
      rw [qcomp (fun _ => rfl) hm8]
      simp! only [List.length_map, hz]
      refine ⟨lim_ge (by omega), ?_⟩
      rw [join, fcompQ (by simp [hz]; omega) (fun _ => rfl) (fun _ => rfl)]
      simp! only [hx1, hnl, List.length_map]
      exact hx2 _ _ _ _ _ _
    · obtain ⟨x, hx1, hx2⟩ := done_ _ st6 hname (hw6.up (by omega))
      simp! only [rng, range0]
      rw [qcomp (fun _ => rfl) hm8]
      simp! only [List.length_map, hz]
      refine ⟨lim_ge (by omega), ?_⟩
      rw [join, fcompQ (by simp [hz]; omega) (fun _ => rfl) (fun _ => rfl)]
      simp! only [hx1, hnl, List.length_map]
      exact hx2 _ _ _ _ _ _
  · rintro env st1 ⟨ns, s2, s7, s8, s9, s10, s11, rfl, hl, hok, hnd, hw1⟩
    simp! only []
    exact ⟨ns, rfl, by rw [hl, List.length_range]; omega, hok, hnd, hw1.up (by rw [List.length_range]; omega)⟩
end
section
variable {Γ : Ctx} {f g h : Fd}
theorem sp_spring : SpWell (runF 2 5 (m_spring Γ)) := by
  intro ns k st hl hk
  refine OP_run rfl ?_
  delta m_spring
  obtain ⟨z, hz⟩ : ∃ z, (Sem.ife (opE .lt (vE 1) (biE .len [vE 0])) (biE .int [opE .idx (vE 0) (vE 1)]) (kE (.int 0))).val [.v (.fl (ns.map .int)), .v (.int k), .em, .em, .em] st = .ok (.int z) st := by
    by_cases h : k < ns.length
    · refine ⟨ns.getD k 0, OP_eq ?_⟩
      have e1 : ((k : Int) < (ns.map D.int).length) = True := by simp; exact h
      have e2 : atI (ns.map D.int) (k : Int) = some (.int (ns.getD k 0)) := by
        rw [atI_nat, List.getElem?_map, List.getD_eq_getElem?_getD, List.getElem?_eq_getElem h]; rfl
      simp! only [e1, e2]
    · refine ⟨0, OP_eq ?_⟩
      have e1 : ((k : Int) < (ns.map D.int).length) = False := by simp; omega
      simp! only [e1]
  simp only [List.map_cons, List.map_nil, List.length_cons, List.length_nil, Nat.reduceAdd, Nat.reduceSub, List.replicate, List.cons_append, List.nil_append, RP_seq, RP_nm, hz]
  simp! only []
  refine ⟨okMul_of (by omega) (by omega) (by omega) (by omega), ?_⟩
  rw [cut_map]
  refine forL_invL (enc := D.int) (fun pre env st' => ∃ (a : Int) (s4 : Sl), env = [.v (.fl (ns.map .int)), .v (.int k), .v (.int z), .v (.int a), s4] ∧ (0 ≤ a ∧ a < 2147483629 * 10) ∧ st' = st) ⟨_, _, rfl, by omega, rfl⟩ ?_ ?_
  · rintro pre x post env st' e ⟨a, s4, rfl, ha, rfl⟩
    have h1 := Int.emod_nonneg x (show (1999999973 : Int) ≠ 0 by decide)
    have h2 := Int.emod_lt_of_pos x (show (0 : Int) < 1999999973 by decide)
    refine ⟨_, by simp! only []; rfl, ?_⟩
    simp! only []
    refine ⟨okMul_of (by omega) (by omega) (by omega) (by omega), okDiv_of (by omega) (by omega), okDiv_of (by omega) (by omega), ?_⟩
    refine ⟨_, _, rfl, Int.emod_nonneg _ (by decide), Int.lt_of_lt_of_le (Int.emod_lt_of_pos _ (by decide)) (by decide)⟩
  · rintro env st' ⟨a, s4, rfl, ha, rfl⟩
    have h1 := Int.emod_nonneg z (show (2147483399 : Int) ≠ 0 by decide)
    have h2 := Int.emod_lt_of_pos z (show (0 : Int) < 2147483399 by decide)
    simp! only [new_eq]
    refine ⟨okMul_of (by omega) (by omega) (by omega) (by omega), okDiv_of (by omega) (by omega), okDiv_of (by omega) (by omega), ?_⟩
    have w0 : ∀ b : Int, 0 ≤ b → Wl st'.length 0 (st' ++ [Obj.lst [D.int ((a * 91019 + z % 2147483399 + 11) % 2147483563), D.int b, D.int 0]]) := fun b hb =>
      ⟨(a * 91019 + z % 2147483399 + 11) % 2147483563, b, 0, by simp, ⟨Int.emod_nonneg _ (by decide), Int.lt_of_lt_of_le (Int.emod_lt_of_pos _ (by decide)) (by decide)⟩, hb, ⟨by omega, by omega⟩, fun q hq => absurd (show q ∈ ([] : List (Nat × Obj)) from hq) List.not_mem_nil⟩
    exact ⟨fun _ => ⟨⟨rfl, lim_ge (by omega)⟩, _, rfl, w0 _ (by omega)⟩, fun _ => ⟨⟨rfl, lim_ge (by omega)⟩, _, rfl, w0 _ (by omega)⟩⟩
end
end G
namespace G
section
variable {Γ : Ctx} {c : Nat} {f g fd fn ft fu : Fd}
def namesK (rs : List Row) : List D := (List.range rs.length).map fun k => .str (nmAt rs k)
theorem idxL {α : Type} {enc : α → D} {l : List α} {k : Nat} {d : α} {st : Store} (h : k < l.length) : op2 .idx st (.lst (l.map enc)) (.int (k : Int)) = some (enc (l.getD k d)) := by
  show atI (l.map enc) (k : Int) = _
  rw [atI_nat, List.getElem?_map, List.getElem?_eq_getElem h, List.getD_eq_getElem?_getD, List.getElem?_eq_getElem h]; rfl
end
structure Pair (p t A B s0 s1 : Int) (r q : Row) (pl : List PRow) : Prop where
  p1 : 1 ≤ p
  t1 : 1 ≤ t
  a1 : 1 ≤ A
  b1 : 1 ≤ B
  rn : r.num = A
  rsc : r.sc = s0
  qn : q.num = B
  qsc : q.sc = s1
  m00 : meetI [r, q] pl 0 0 = 0
  m01 : meetI [r, q] pl 0 1 = t
  m10 : meetI [r, q] pl 1 0 = t
  m11 : meetI [r, q] pl 1 1 = 0
section
variable {p t A B s0 s1 : Int} {r q : Row} {pl : List PRow}
theorem Pair.pt (C : Pair p t A B s0 s1 r q pl) : 0 ≤ p * t := by
  have := C.p1; have := C.t1
  exact Int.mul_nonneg (by omega) (by omega)
end
def scAt (rs : List Row) (a : Nat) : Int := (rs.map (·.sc)).getD a 0
end G
namespace G
section
variable {Γ : Ctx} {c : Nat} {f g fd fn ft fu : Fd}
theorem map_getD {α : Type} {β : Type} {g : α → β} {l : List α} (d : α) : l.map g = (List.range l.length).map fun k => g (l.getD k d) := by
  apply List.ext_getElem?
  intro j
  simp only [List.getElem?_map]
  by_cases hj : j < l.length
  · rw [List.getElem?_range hj, List.getElem?_eq_getElem hj]
    show some (g l[j]) = some (g (l.getD j d))
    rw [List.getD_eq_getElem?_getD, List.getElem?_eq_getElem hj]; rfl
  · rw [List.getElem?_eq_none (by omega), List.getElem?_eq_none (by rw [List.length_range]; omega)]; rfl
theorem cut_hi {α : Type} {xs : List α} {m : Nat} (h : m ≤ xs.length) : cut xs none (some (m : Int)) = xs.take m := by
  unfold cut clip
  have e : ¬ ((m : Int) < 0) := by omega
  have e2 : (min (m : Int) (xs.length : Int)).toNat = m := by omega
  simp only [if_neg e, e2, List.drop_zero, Nat.sub_zero]
end
end G
namespace G
def sumN : Nat → (Nat → Int) → Int
  | 0, _ => 0
  | n + 1, f => sumN n f + f n
theorem sumN_congr : ∀ {n : Nat} {f g : Nat → Int}, (∀ i, i < n → f i = g i) → sumN n f = sumN n g
  | 0, _, _, _ => rfl
  | n + 1, f, g, h => by
    show sumN n f + f n = sumN n g + g n
    rw [sumN_congr fun i hi => h i (by omega), h n (by omega)]
theorem sumN_add : ∀ {n : Nat} {f g : Nat → Int}, sumN n (fun i => f i + g i) = sumN n f + sumN n g
  | 0, _, _ => rfl
  | n + 1, f, g => by
    show sumN n (fun i => f i + g i) + (f n + g n) = (sumN n f + f n) + (sumN n g + g n)
    rw [sumN_add]; omega
theorem sumN_le : ∀ {n : Nat} {f g : Nat → Int}, (∀ i, i < n → f i ≤ g i) → sumN n f ≤ sumN n g
  | 0, _, _, _ => Int.le_refl _
  | n + 1, f, g, h => by
    show sumN n f + f n ≤ sumN n g + g n
    have := sumN_le (n := n) (f := f) (g := g) fun i hi => h i (by omega)
    have := h n (by omega)
    omega
theorem sumN_0 : ∀ n : Nat, sumN n (fun _ => 0) = 0
  | 0 => rfl
  | n + 1 => by show sumN n (fun _ => 0) + 0 = 0; rw [sumN_0 n]; rfl
theorem sumN_zero {n : Nat} {f : Nat → Int} (h : ∀ i, i < n → f i = 0) : sumN n f = 0 := by
  rw [sumN_congr (g := fun _ => 0) h, sumN_0]
theorem sumN_one : ∀ {n : Nat} {f : Nat → Int} {k : Nat}, k < n → (∀ i, i < n → i ≠ k → f i = 0) → sumN n f = f k
  | 0, _, _, h, _ => by omega
  | n + 1, f, k, h, hz => by
    show sumN n f + f n = f k
    by_cases e : k = n
    · subst e
      rw [sumN_zero fun i hi => hz i (by omega) (by omega)]; omega
    · rw [sumN_one (k := k) (by omega) fun i hi hk => hz i (by omega) hk, hz n (by omega) (by omega)]; omega
theorem sumN_nonneg {n : Nat} {f : Nat → Int} (h : ∀ i, i < n → 0 ≤ f i) : 0 ≤ sumN n f := by
  have := sumN_le (n := n) (f := fun _ => 0) (g := f) h
  rw [sumN_zero (f := fun _ => (0 : Int)) fun _ _ => rfl] at this
  exact this
def less (c : Nat → Nat → Int) (a b : Nat) : Nat → Nat → Int := fun i j => c i j - if i = a ∧ j = b then 1 else 0
end G
namespace G
theorem sumN_mul {k : Int} : ∀ {n : Nat} {f : Nat → Int}, sumN n (fun i => k * f i) = k * sumN n f
  | 0, _ => by simp [sumN]
  | n + 1, f => by
    show sumN n _ + _ = _ * (sumN n f + f n)
    rw [sumN_mul, Int.mul_add]
theorem sumN_neg {n : Nat} {f : Nat → Int} : sumN n (fun i => - f i) = - sumN n f := by
  have := sumN_mul (k := -1) (n := n) (f := f)
  rw [sumN_congr (g := fun i => -1 * f i) fun i _ => by omega]
  omega
theorem sumN_sub {n : Nat} {f g : Nat → Int} : sumN n (fun i => f i - g i) = sumN n f - sumN n g := by
  rw [sumN_congr (g := fun i => f i + - g i) fun i _ => by omega, sumN_add, sumN_neg]
  omega
def eN (i : Nat) : Nat → Int := fun j => if j = i then 1 else 0
def upd (t : Nat → Int) (i : Nat) (x : Int) : Nat → Int := fun j => if j = i then x else t j
theorem sumN_eN {n i : Nat} {c : Nat → Int} (h : i < n) : sumN n (fun j => c j * eN i j) = c i := by
  rw [sumN_one h fun j _ hj => by simp [eN, hj]]
  simp [eN]
def BB (n : Nat) (M : Nat → Nat → Int) (x y : Nat → Int) : Int := sumN n fun i => sumN n fun j => M i j * x i * y j
section
variable {n : Nat} {p : Int} {N S : Nat → Int} {M : Nat → Nat → Int} {a b : Nat}
def hopeN (n : Nat) (p : Int) (N : Nat → Int) (M : Nat → Nat → Int) (i : Nat) : Int := p * (sumN n (fun j => M i j * N j) - M i i)
def bestN (n : Nat) (p : Int) (N S : Nat → Int) (M : Nat → Nat → Int) (i : Nat) : Int := S i + hopeN n p N M i
def othN (N : Nat → Int) (a : Nat) : Nat → Int := fun i => N i - if i = a then 1 else 0
end
end G
namespace G
def tk (p : Int) (a b : Nat) (m : Int) (v : Nat → Int) : Nat → Int := fun i => v i - (if i = a then m else 0) - (if i = b then p - m else 0)
end G
namespace G
theorem sumN_rng {f : Nat → Int} : ∀ {n : Nat}, ((List.range n).map f).sum = sumN n f
  | 0 => rfl
  | n + 1 => by
    rw [List.range_succ, List.map_append, List.sum_append, sumN_rng]
    simp [sumN]
def nuAt (rs : List Row) (a : Nat) : Int := (rs.map (·.num)).getD a 0
theorem others_at {rs : List Row} {a i : Nat} (hi : i < rs.length) : (othersL rs a).getD i 0 = othN (nuAt rs) a i := by
  unfold othersL othN nuAt
  rw [List.getD_eq_getElem?_getD, List.getElem?_map, List.getElem?_zipIdx, List.getElem?_eq_getElem hi, List.getD_eq_getElem?_getD, List.getElem?_map, List.getElem?_eq_getElem hi]
  simp
theorem nu_ok {rs : List Row} (h : RowsS rs) {i : Nat} (hi : i < rs.length) : 1 ≤ nuAt rs i ∧ nuAt rs i ≤ 10 ^ 30 := by
  unfold nuAt
  rw [List.getD_eq_getElem?_getD, List.getElem?_map, List.getElem?_eq_getElem hi]
  have := h.ok _ (List.getElem_mem hi)
  exact ⟨this.1, this.2.1⟩
theorem zipIdx_sum {f : Nat → Int → Int} {l : List Int} : (l.zipIdx.map fun q => f q.2 q.1).sum = sumN l.length fun j => f j (l.getD j 0) := by
  rw [← sumN_rng]
  congr 1
  apply List.ext_getElem
  · simp
  · intro i h1 h2
    have hi : i < l.length := by simpa using h1
    simp [List.getD_eq_getElem?_getD, List.getElem?_eq_getElem hi]
theorem best_N {p : Int} {rs : List Row} {pl : List PRow} {a : Nat} (ha : a < rs.length) : bestI p rs pl a = bestN rs.length p (nuAt rs) (scAt rs) (meetI rs pl) a := by
  unfold bestI bestN hopeN
  congr 2
  rw [zipIdx_sum (f := fun j x => meetI rs pl a j * x), othersL_len]
  have e : sumN rs.length (fun j => meetI rs pl a j * eN a j) = meetI rs pl a a := sumN_eN (c := fun j => meetI rs pl a j) ha
  conv => rhs; rw [← e, ← sumN_sub]
  exact sumN_congr fun j hj => by
    rw [others_at hj]
    unfold othN eN
    split <;> grind
end G
namespace G
section
variable {Γ : Ctx} {c : Nat} {fd fn fg fs fl fm : Fd}
def samePr (q r : PRow) : Prop := (q.1 = r.1 ∧ q.2.1 = r.2.1) ∨ (q.1 = r.2.1 ∧ q.2.1 = r.1)
def tri : Nat → Nat
  | 0 => 0
  | n + 1 => tri n + n + 1
theorem tri_mono : ∀ {a b : Nat}, a ≤ b → tri a ≤ tri b
  | a, 0, h => by rw [show a = 0 by omega]; exact Nat.le_refl _
  | a, b + 1, h => by
    by_cases e : a = b + 1
    · rw [e]; exact Nat.le_refl _
    · have := tri_mono (a := a) (b := b) (by omega)
      show _ ≤ tri b + b + 1
      omega
structure PlanI (ns : List (List Nat)) (i j : Nat) (pl : List PRow) : Prop where
  len : pl.length ≤ tri i + j
  pr : ∀ q ∈ pl, ∃ a b, b ≤ a ∧ (a < i ∨ (a = i ∧ b < j)) ∧ a < ns.length ∧ ((q.1 = ns.getD a [] ∧ q.2.1 = ns.getD b []) ∨ (q.1 = ns.getD b [] ∧ q.2.1 = ns.getD a []))
  t : ∀ q ∈ pl, 1 ≤ q.2.2 ∧ q.2.2 ≤ 9
  nd : pl.Pairwise fun q r => ¬ samePr q r
theorem PlanI.mono {ns : List (List Nat)} {i j k m : Nat} {pl : List PRow} (h : PlanI ns i j pl) (hl : tri i + j ≤ tri k + m) (hm : ∀ a b, b ≤ a → (a < i ∨ (a = i ∧ b < j)) → (a < k ∨ (a = k ∧ b < m))) : PlanI ns k m pl :=
  ⟨Nat.le_trans h.len hl, fun q hq => by
    obtain ⟨a, b, h1, h2, h3⟩ := h.pr q hq
    exact ⟨a, b, h1, hm a b h1 h2, h3⟩, h.t, h.nd⟩
theorem getD_inj {ns : List (List Nat)} (hn : ns.Nodup) {a b : Nat} (ha : a < ns.length) (hb : b < ns.length) (h : ns.getD a [] = ns.getD b []) : a = b := by
  rw [List.getD_eq_getElem?_getD, List.getD_eq_getElem?_getD, List.getElem?_eq_getElem ha, List.getElem?_eq_getElem hb] at h
  exact (List.getElem_inj hn).mp h
theorem PlanI.ins {ns : List (List Nat)} (hn : ns.Nodup) {i j k : Nat} {pl : List PRow} (h : PlanI ns i j pl) {x : PRow} (hi : i < ns.length) (hj : j ≤ i) (hx : (x.1 = ns.getD i [] ∧ x.2.1 = ns.getD j []) ∨ (x.1 = ns.getD j [] ∧ x.2.1 = ns.getD i [])) (ht : 1 ≤ x.2.2 ∧ x.2.2 ≤ 9) (hk : k ≤ pl.length) : PlanI ns i (j + 1) (pl.take k ++ [x] ++ pl.drop k) := by
  have new : ∀ q ∈ pl, ¬ samePr q x ∧ ¬ samePr x q := fun q hq => by
    obtain ⟨a, b, h1, h2, h3, h4⟩ := h.pr q hq
    have inj : ∀ u v, u < ns.length → v < ns.length → ns.getD u [] = ns.getD v [] → u = v := fun u v hu hv e => getD_inj hn hu hv e
    have key : ∀ u v, (ns.getD a [] = ns.getD u [] ∧ ns.getD b [] = ns.getD v []) → u < ns.length → v < ns.length → a = u ∧ b = v := fun u v e hu hv => ⟨inj a u h3 hu e.1, inj b v (by omega) hv e.2⟩
    have bad : ¬ (ns.getD a [] = ns.getD i [] ∧ ns.getD b [] = ns.getD j []) := fun e => by
      have := key i j e hi (by omega)
      omega
    have bad2 : ¬ (ns.getD a [] = ns.getD j [] ∧ ns.getD b [] = ns.getD i []) := fun e => by
      have := key j i e (by omega) hi
      omega
    clear key inj
    unfold samePr
    generalize ns.getD a [] = A at h4 bad bad2
    generalize ns.getD b [] = B at h4 bad bad2
    generalize ns.getD i [] = I at hx bad bad2
    generalize ns.getD j [] = J at hx bad bad2
    rcases h4 with ⟨g1, g2⟩ | ⟨g1, g2⟩ <;> rcases hx with ⟨k1, k2⟩ | ⟨k1, k2⟩ <;> rw [g1, g2, k1, k2]
    · exact ⟨fun h => h.elim bad bad2, fun h => h.elim (fun h => bad ⟨h.1.symm, h.2.symm⟩) fun h => bad2 ⟨h.2.symm, h.1.symm⟩⟩
    · exact ⟨fun h => h.elim bad2 bad, fun h => h.elim (fun h => bad2 ⟨h.1.symm, h.2.symm⟩) fun h => bad ⟨h.2.symm, h.1.symm⟩⟩
    · exact ⟨fun h => h.elim (fun h => bad2 ⟨h.2, h.1⟩) fun h => bad ⟨h.2, h.1⟩, fun h => h.elim (fun h => bad2 ⟨h.2.symm, h.1.symm⟩) fun h => bad ⟨h.1.symm, h.2.symm⟩⟩
    · exact ⟨fun h => h.elim (fun h => bad ⟨h.2, h.1⟩) fun h => bad2 ⟨h.2, h.1⟩, fun h => h.elim (fun h => bad ⟨h.2.symm, h.1.symm⟩) fun h => bad2 ⟨h.1.symm, h.2.symm⟩⟩
  have mem : ∀ q, q ∈ pl.take k ++ [x] ++ pl.drop k → q ∈ pl ∨ q = x := fun q hq => by
    simp only [List.append_assoc, List.mem_append, List.mem_singleton] at hq
    rcases hq with hq | hq | hq
    · exact .inl (List.mem_of_mem_take hq)
    · exact .inr hq
    · exact .inl (List.mem_of_mem_drop hq)
  refine ⟨?_, fun q hq => ?_, fun q hq => ?_, ?_⟩
  · have := h.len
    simp only [List.length_append, List.length_take, List.length_drop, List.length_singleton]
    omega
  · rcases mem q hq with hq | rfl
    · obtain ⟨a, b, h1, h2, h3⟩ := h.pr q hq
      exact ⟨a, b, h1, by omega, h3⟩
    · exact ⟨i, j, hj, by omega, hi, hx⟩
  · rcases mem q hq with hq | rfl
    · exact h.t q hq
    · exact ht
  · have hp := h.nd
    conv at hp => rw [← List.take_append_drop k pl]
    rw [List.pairwise_append] at hp
    obtain ⟨p1, p2, p3⟩ := hp
    rw [List.append_assoc, List.pairwise_append]
    refine ⟨p1, List.pairwise_cons.mpr ⟨fun r hr => (new r (List.mem_of_mem_drop hr)).2, p2⟩, fun q hq r hr => ?_⟩
    rcases List.mem_cons.mp hr with rfl | hr
    · exact (new q (List.mem_of_mem_take hq)).1
    · exact p3 q hq r hr
theorem PlanI.done {rs : List Row} {i : Nat} {pl : List PRow} (h : PlanI (rs.map (·.nm)) i 0 pl) (h6 : i ≤ 6) : PlanOk rs pl := by
  have hl : ∀ a, a < (rs.map (·.nm)).length → (rs.map (·.nm)).getD a [] ∈ rs.map (·.nm) := fun a ha => by
    rw [List.getD_eq_getElem?_getD, List.getElem?_eq_getElem ha]
    exact List.getElem_mem ha
  refine ⟨?_, fun q hq => ?_, fun q hq => ?_, h.t, fun pre q post e => ?_⟩
  · have := h.len
    have := tri_mono h6
    have : tri 6 = 21 := rfl
    omega
  · obtain ⟨a, b, h1, h2, h3, h4⟩ := h.pr q hq
    rcases h4 with h4 | h4 <;> rw [h4.1]
    · exact hl a h3
    · exact hl b (by omega)
  · obtain ⟨a, b, h1, h2, h3, h4⟩ := h.pr q hq
    rcases h4 with h4 | h4 <;> rw [h4.2]
    · exact hl b (by omega)
    · exact hl a h3
  · have hp := h.nd
    rw [e, List.pairwise_append] at hp
    obtain ⟨_, _, p3⟩ := hp
    have p3 := fun z hz => p3 z hz q (by simp)
    unfold samePr at p3
    rw [List.any_eq_false, List.any_eq_false]
    exact ⟨fun z hz hb => p3 z hz (by simp only [Bool.and_eq_true, beq_iff_eq] at hb; exact .inl hb), fun z hz hb => p3 z hz (by simp only [Bool.and_eq_true, beq_iff_eq] at hb; exact .inr hb)⟩
theorem cut_lo {α : Type} {xs : List α} {m : Nat} (h : m ≤ xs.length) : cut xs (some (m : Int)) none = xs.drop m := by
  unfold cut clip
  have e : ¬ ((m : Int) < 0) := by omega
  have e2 : (min (m : Int) (xs.length : Int)).toNat = m := by omega
  simp only [if_neg e, e2]
  rw [List.take_of_length_le (by simp)]
def SpLeftD (f : Fd) : Prop := ∀ (l n : Nat) (ns : List (List Nat)) (st : Store), Wl l n st → n + 100 ≤ 1000000000 → ns.length ≤ 6 → ns.Nodup → OP (fun r st' => ∃ pl : List PRow, r = .tup (pl.map encPr) ∧ (∀ rs : List Row, rs.map (·.nm) = ns → PlanOk rs pl) ∧ Wl l (n + 100) st') (f [.loc l, .lst (ns.map .str)] st)
theorem sp_leftD (hd : SpDip fd) : SpLeftD (runF 2 7 (m_left Γ fd)) := by
  intro l n ns st hw hn h6 hnd
  refine OP_run rfl ?_
  delta m_left
  simp! only [List.length_map]
  refine ⟨⟨by unfold LIM; omega, by unfold LIM; omega⟩, ?_⟩
  rw [range0]
  refine forL_invL (fun (pre : List Nat) env st' => ∃ (pl : List PRow) (s3 s4 s5 s6 : Sl), env = [.v (.loc l), .v (.lst (ns.map .str)), .v (.lst (pl.map encPr)), s3, s4, s5, s6] ∧ PlanI ns pre.length 0 pl ∧ Wl l (n + 4 * tri pre.length) st') ⟨[], _, _, _, _, rfl, ⟨by simp, by simp, by simp, by simp⟩, hw.up (by simp)⟩ ?_ ?_
  · rintro pre x post env st1 e ⟨pl, s3, s4, s5, s6, rfl, hpl, hw1⟩
    obtain ⟨rfl, hx⟩ := range_at e
    have hx : pre.length < ns.length := by omega
    generalize hi : pre.length = i at *
    have htri : tri i ≤ tri 5 := tri_mono (by omega)
    have h15 : tri 5 = 15 := rfl
    refine ⟨_, by simp! only []; rfl, ?_⟩
    simp! only []
    refine ⟨⟨by unfold LIM; omega, by unfold LIM; omega⟩, ?_⟩
    rw [range0]
    have ei : ((i : Int) + 1).toNat = i + 1 := by omega
    rw [ei]
    have idn : ∀ (k : Nat) st, k < ns.length → op2 .idx st (.lst (ns.map .str)) (.int (k : Int)) = some (.str (ns.getD k [])) := fun k st hk => idxL hk
    refine forL_invL (fun (pr : List Nat) env st' => ∃ (pl : List PRow) (s4 s5 s6 : Sl), env = [.v (.loc l), .v (.lst (ns.map .str)), .v (.lst (pl.map encPr)), .v (.int (i : Int)), s4, s5, s6] ∧ PlanI ns i pr.length pl ∧ Wl l (n + 4 * (tri i + pr.length)) st') ⟨pl, _, _, _, rfl, hpl, hw1⟩ ?_ ?_
    · rintro pr y po env st2 e2 ⟨pl, s4, s5, s6, rfl, hpl, hw2⟩
      obtain ⟨rfl, hy⟩ := range_at e2
      generalize hj : pr.length = j at *
      have lsn : (pr ++ [j]).length = j + 1 := by simp [hj]
      refine ⟨_, by simp! only []; rfl, ?_⟩
      simp! only []
      have hlen := hpl.len
      refine (hd l _ 2 st2 hw2 (by omega) (by omega) (by omega)).mono ?_
      rintro _ st3 ⟨k1, rfl, h10, h11, hw3⟩
      simp! only []
      refine ⟨fun _ => ?_, fun _ => ?_⟩
      · refine (hd l _ 2 st3 hw3 (by omega) (by omega) (by omega)).mono ?_
        rintro _ st4 ⟨k2, rfl, h20, h21, hw4⟩
        simp! only [idn _ _ hx, idn _ _ (show j < ns.length by omega)]
        refine ⟨fun _ => ?_, fun _ => ?_⟩
        all_goals
          simp! only [List.length_map]
          refine (hd l _ (pl.length + 1) st4 hw4 (by omega) (by omega) (by omega)).mono ?_
          rintro _ st5 ⟨k3, rfl, h30, h31, hw5⟩
          obtain ⟨k, rfl⟩ := Int.eq_ofNat_of_zero_le h30
          have hk : k ≤ pl.length := by omega
          simp! only []
          refine (hd l _ 9 st5 hw5 (by omega) (by omega) (by omega)).mono ?_
          rintro _ st6 ⟨k4, rfl, h40, h41, hw6⟩
          have hkm : k ≤ (pl.map encPr).length := by rw [List.length_map]; exact hk
          simp! only [cut_hi hkm, cut_lo hkm, List.length_take, List.length_drop, List.length_map, List.length_append]
          have hln : pl.length ≤ 21 := by omega
          refine ⟨by unfold LIM; omega, by unfold LIM; omega, by unfold LIM; omega, ?_⟩
          rw [hj]
        · refine ⟨pl.take k ++ [(ns.getD i [], ns.getD j [], 1 + k4)] ++ pl.drop k, _, _, _, by rw [List.map_append, List.map_append, List.map_take, List.map_drop]; rfl, hpl.ins hnd hx (by omega) (.inl ⟨rfl, rfl⟩) (by show 1 ≤ 1 + k4 ∧ 1 + k4 ≤ 9; omega) hk, hw6.up (by omega)⟩
        · refine ⟨pl.take k ++ [(ns.getD j [], ns.getD i [], 1 + k4)] ++ pl.drop k, _, _, _, by rw [List.map_append, List.map_append, List.map_take, List.map_drop]; rfl, hpl.ins hnd hx (by omega) (.inr ⟨rfl, rfl⟩) (by show 1 ≤ 1 + k4 ∧ 1 + k4 ≤ 9; omega) hk, hw6.up (by omega)⟩
      · rw [lsn]
        exact ⟨pl, _, _, _, rfl, hpl.mono (by omega) (fun a b h1 h2 => by omega), hw3.up (by omega)⟩
    · rintro env st2 ⟨pl, s4, s5, s6, rfl, hpl, hw2⟩
      rw [List.length_range] at hpl hw2
      have lsn : (pre ++ [i]).length = i + 1 := by simp [hi]
      rw [lsn]
      refine ⟨pl, _, _, _, _, rfl, hpl.mono (by show _ ≤ tri i + i + 1 + 0; omega) (fun a b h1 h2 => by omega), hw2.up (by show _ ≤ n + 4 * (tri i + i + 1); omega)⟩
  · rintro env st1 ⟨pl, s3, s4, s5, s6, rfl, hpl, hw1⟩
    rw [List.length_range] at hpl hw1
    have el : ((ns.length : Nat) : Int).toNat = ns.length := by omega
    rw [el] at hpl hw1
    simp! only []
    refine ⟨pl, rfl, fun rs e => ?_, ?_⟩
    · rw [← e] at hpl h6
      exact hpl.done (by simpa using h6)
    · have := tri_mono h6
      have : tri 6 = 21 := rfl
      exact hw1.up (by omega)
def SpSeasonD (k0 : Int) (f : Fd) : Prop := ∀ (l n : Nat) (m : Int) (st : Store), Wl l n st → n + 600 ≤ 1000000000 → 1 ≤ m → m ≤ k0 → OP (fun r st' => ∃ (p : Int) (rs : List Row) (pl : List PRow), r = .lst [.int p, encL rs, .tup (pl.map encPr)] ∧ 1 ≤ p ∧ p ≤ 9 ∧ RowsOk rs ∧ (rs.length : Int) ≤ m ∧ (∀ r ∈ rs, r.sc ≤ 5 * 10 ^ 32) ∧ PlanOk rs pl ∧ Wl l (n + 600) st') (f [.loc l, .int m] st)
theorem sp_seasonD (hn : SpNames fn) (hd : SpDip fd) (hm : SpRange fm 6 1 (10 ^ 30)) (hs : SpRange fs 7 0 (5 * 10 ^ 32)) (hl : SpLeftD fl) : SpSeasonD 6 (runF 2 5 (m_season Γ fn fd fm fs fl)) := by
  intro l n m st hw hn0 h1 h6
  refine OP_run rfl ?_
  delta m_season
  simp! only []
  refine (hd l n m st hw (by omega) (by omega) (by omega)).mono ?_
  rintro _ st1 ⟨k1, rfl, h10, h11, hw1⟩
  simp! only []
  refine (hn l _ (1 + k1) st1 hw1 (by omega) (by omega) (by omega)).mono ?_
  rintro _ st2 ⟨ns, rfl, hln, hns, hnd, hw2⟩
  simp! only []
  refine comp_invL (fun (pr : List (List Nat)) acc st' => ∃ rs : List Row, acc = rs.map encR ∧ rs.map (·.nm) = pr ∧ (∀ r ∈ rs, RowOk r ∧ r.sc ≤ 5 * 10 ^ 32) ∧ Wl l (n + 201 + 13 * pr.length) st') (lim_ge (by omega)) ⟨[], rfl, rfl, by simp, hw2.up (by show _ ≤ n + 201 + 13 * 0; omega)⟩ ?_ ?_
  · rintro pr y po acc st3 e ⟨rs, rfl, hnm, hrs, hw3⟩
    have hl0 : ns.length = pr.length + (po.length + 1) := by rw [e]; simp
    have hy : isNameS y = true := hns y (by rw [e]; simp)
    simp! only [turnV_eq]
    refine (hm l _ st3 hw3 (by omega)).mono ?_
    rintro _ st4 ⟨a, rfl, ha0, ha1, hw4⟩
    simp! only []
    refine (hs l _ st4 hw4 (by omega)).mono ?_
    rintro _ st5 ⟨b, rfl, hb0, hb1, hw5⟩
    simp! only []
    exact ⟨rs ++ [⟨y, a, b⟩], by simp [encR], by simp [hnm], fun x hx => by
      rcases List.mem_append.mp hx with hx | hx
      · exact hrs x hx
      · simp only [List.mem_singleton] at hx
        rw [hx]
        exact ⟨⟨hy, ha0, ha1, hb0, by show b ≤ _; omega⟩, hb1⟩, hw5.up (by simp; omega)⟩
  rintro _ st3 ⟨rs, rfl, hnm, hrs, hw3⟩
  have hlr : rs.length = ns.length := by rw [← hnm, List.length_map]
  simp! only []
  refine (hd l _ 9 st3 hw3 (by omega) (by omega) (by omega)).mono ?_
  rintro _ st4 ⟨k9, rfl, h90, h91, hw4⟩
  simp! only []
  refine (hl l _ ns st4 hw4 (by omega) (by omega) hnd).mono ?_
  rintro _ st5 ⟨pl, rfl, hpl, hw5⟩
  simp! only []
  exact ⟨_, rs, pl, rfl, by omega, by omega, ⟨by omega, by omega, fun r hr => (hrs r hr).1, by rw [hnm]; exact hnd⟩, by omega, fun r hr => (hrs r hr).2, hpl rs hnm, hw5.up (by omega)⟩
end
end G
namespace G
section
variable {Γ : Ctx} {c : Nat} {f g fd fn fg fs fl fm ft fh : Fd}
def timeQ (u v : List Nat) (q : PRow) : Bool := (q.1 == u && q.2.1 == v) || (q.1 == v && q.2.1 == u)
def timesI (pl : List PRow) (u v : List Nat) : Int := ((pl.filter (timeQ u v)).map (·.2.2)).sum
def SpTimes (f : Fd) : Prop := ∀ (pl : List PRow) (u v : List Nat) st, pl.length ≤ 100 → f [.tup (pl.map encPr), .str u, .str v] st = .ok (.int (timesI pl u v)) st
theorem pr_cut {q : PRow} {st : Store} : slice st (encPr q) none (some 2) = some (.tup [.str q.1, .str q.2.1]) := rfl
theorem pr_idx {q : PRow} {st : Store} : op2 .idx st (encPr q) (.int 2) = some (.int q.2.2) := rfl
theorem eq_pr {st : Store} {a b u v : List Nat} : op2 .eq st (.tup [.str a, .str b]) (.tup [.str u, .str v]) = some (.bl (a == u && b == v)) := by
  show (if (okEq 64 (.tup [.str a, .str b]) && okEq 64 (.tup [.str u, .str v])) = true then some (D.bl (pyEq (.tup [.str a, .str b]) (.tup [.str u, .str v]))) else (tupNil (.tup [.str a, .str b]) (.tup [.str u, .str v])).map .bl) = _
  rw [pyEq_pair]; rfl
theorem si_plan {pl : List PRow} : seqI (.tup (pl.map encPr)) = some (pl.map encPr) := rfl
theorem sp_times : SpTimes (runF 3 4 (m_times Γ)) := by
  intro pl u v st hl
  apply OP_eq
  refine OP_run rfl ?_
  delta m_times
  simp! only [si_plan]
  rw [comp_filterL (enc := encPr) (g := fun q => .int q.2.2) (P := timeQ u v) pl (lim_ge (by omega)) fun q hq => by
    apply OP_eq
    unfold timeQ
    simp! only [turnV_eq, pr_cut, pr_idx, eq_pr]
    cases e1 : (q.1 == u && q.2.1 == v) <;> cases e2 : (q.1 == v && q.2.1 == u) <;> simp! only [Bool.or_true, Bool.or_false, Bool.true_or, Bool.false_or]]
  simp! only [sum_mapI (fun q : PRow => q.2.2)]
  rfl
theorem times_meet {rs : List Row} {pl : List PRow} (h : PlanOk rs pl) {i j : Nat} : timesI pl (nmAt rs i) (nmAt rs j) = meetI rs pl i j := by
  unfold timesI meetI
  have e : (fun q => timeQ (nmAt rs i) (nmAt rs j) q) = meetQ rs i j := by
    funext q
    unfold timeQ meetQ
    rw [Bool.eq_iff_iff]
    simp only [Bool.or_eq_true, Bool.and_eq_true, beq_iff_eq]
    constructor
    · rintro (⟨a, b⟩ | ⟨a, b⟩)
      · exact .inl ⟨a.symm, b.symm⟩
      · exact .inr ⟨a.symm, b.symm⟩
    · rintro (⟨a, b⟩ | ⟨a, b⟩)
      · exact .inl ⟨a.symm, b.symm⟩
      · exact .inr ⟨a.symm, b.symm⟩
  rw [show timeQ (nmAt rs i) (nmAt rs j) = meetQ rs i j from e]
  cases e2 : pl.filter (meetQ rs i j) with
  | nil => rfl
  | cons q l =>
    cases l with
    | nil => simp
    | cons r l =>
      exfalso
      obtain ⟨l1, l2, e3, e4, e5⟩ := List.filter_eq_cons_iff.mp e2
      obtain ⟨l3, l4, e6, e7, e8⟩ := List.filter_eq_cons_iff.mp e5.2

      have := h.nd (l1 ++ q :: l3) r l4 (by rw [e3, e6]; simp)
      rw [List.any_eq_false, List.any_eq_false] at this
      have a1 := this.1 q (by simp)
      have a2 := this.2 q (by simp)
      have b1 := e5.1
      have b2 := e8.1
      unfold meetQ at b1 b2
      simp only [Bool.or_eq_true, Bool.and_eq_true, beq_iff_eq, not_and] at a1 a2 b1 b2
      rcases b1 with ⟨x1, x2⟩ | ⟨x1, x2⟩ <;> rcases b2 with ⟨y1, y2⟩ | ⟨y1, y2⟩
      · exact a1 (x1.symm.trans y1) (x2.symm.trans y2)
      · exact a2 (x1.symm.trans y2) (x2.symm.trans y1)
      · exact a2 (x1.symm.trans y2) (x2.symm.trans y1)
      · exact a1 (x1.symm.trans y1) (x2.symm.trans y2)
def rowAt (rs : List Row) (k : Nat) : Row := rs.getD k ⟨[], 0, 0⟩
theorem rows_rng {rs : List Row} : rs.map encR = (List.range rs.length).map fun k => encR (rowAt rs k) := map_getD (⟨[], 0, 0⟩ : Row)
theorem rowAt_nm {rs : List Row} {k : Nat} : (rowAt rs k).nm = nmAt rs k := by
  unfold rowAt nmAt
  rw [List.getD_eq_getElem?_getD, List.getD_eq_getElem?_getD, List.getElem?_map]
  cases rs[k]? <;> rfl
theorem rowAt_num {rs : List Row} {k : Nat} : (rowAt rs k).num = nuAt rs k := by
  unfold rowAt nuAt
  rw [List.getD_eq_getElem?_getD, List.getD_eq_getElem?_getD, List.getElem?_map]
  cases rs[k]? <;> rfl
theorem rowAt_sc {rs : List Row} {k : Nat} : (rowAt rs k).sc = scAt rs k := by
  unfold rowAt scAt
  rw [List.getD_eq_getElem?_getD, List.getD_eq_getElem?_getD, List.getElem?_map]
  cases rs[k]? <;> rfl
theorem encR_at {rs : List Row} {k : Nat} : encR (rowAt rs k) = .tup [.str (nmAt rs k), .int (nuAt rs k), .int (scAt rs k)] := by
  rw [← rowAt_nm, ← rowAt_num, ← rowAt_sc]; rfl
theorem nmAt_inj {rs : List Row} (h : (rs.map (·.nm)).Nodup) {i j : Nat} (hi : i < rs.length) (hj : j < rs.length) : nmAt rs i = nmAt rs j ↔ i = j :=
  ⟨fun e => getD_inj h (by simpa using hi) (by simpa using hj) e, fun e => by rw [e]⟩
theorem seqI_rows {rs : List Row} : seqI (encL rs) = some ((List.range rs.length).map fun k => encR (rowAt rs k)) := by rw [← rows_rng]; rfl
def SpHopes (f : Fd) : Prop := ∀ (p : Int) (rs : List Row) (pl : List PRow) (a : Nat) st, 0 ≤ p → p ≤ 9 → RowsOk rs → PlanOk rs pl → a < rs.length → f [.int p, encL rs, .tup (pl.map encPr), .str (nmAt rs a)] st = .ok (.int (hopeN rs.length p (nuAt rs) (meetI rs pl) a)) st
theorem hope_oth {rs : List Row} {pl : List PRow} {a : Nat} {p : Int} (ha : a < rs.length) : hopeN rs.length p (nuAt rs) (meetI rs pl) a = p * sumN rs.length fun j => meetI rs pl a j * othN (nuAt rs) a j := by
  unfold hopeN
  congr 1
  have e : sumN rs.length (fun j => meetI rs pl a j * eN a j) = meetI rs pl a a := sumN_eN (c := fun j => meetI rs pl a j) ha
  conv => lhs; rw [← e, ← sumN_sub]
  exact sumN_congr fun j hj => by
    unfold othN eN
    split <;> grind
theorem oth_bd {rs : List Row} (h : RowsS rs) {a j : Nat} (hj : j < rs.length) : 0 ≤ othN (nuAt rs) a j ∧ othN (nuAt rs) a j ≤ 10 ^ 30 := by
  have := nu_ok h hj
  unfold othN
  split <;> omega
theorem sumN_bd {n : Nat} {f : Nat → Int} {b : Int} (h : ∀ i, i < n → f i ≤ b) : sumN n f ≤ n * b := by
  induction n with
  | zero => simp [sumN]
  | succ n ih =>
    have := ih fun i hi => h i (by omega)
    have := h n (by omega)
    show sumN n f + f n ≤ _
    have e : ((n + 1 : Nat) : Int) * b = n * b + b := by rw [Int.natCast_add, Int.add_mul]; simp
    omega
theorem sp_hopes (ht : SpTimes ft) : SpHopes (runF 4 5 (m_hopes Γ ft)) := by
  intro p rs pl a st h0 h9 h hp ha
  have h6 := h.l6
  have hpl := hp.l21
  apply OP_eq
  refine OP_run rfl ?_
  delta m_hopes
  simp! only [seqI_rows]
  rw [comp_mapL (enc := fun k => encR (rowAt rs k)) (g := fun k => .int (meetI rs pl a k * othN (nuAt rs) a k)) (List.range rs.length) (lim_ge (by rw [List.length_range]; omega)) fun k hk => by
    have hk : k < rs.length := by simpa using hk
    have b1 := meetI_bd (rs := rs) (i := a) (j := k) hp.bd
    have b2 := nu_ok h.s hk
    have e : b2i (decide (nmAt rs k = nmAt rs a)) = if k = a then 1 else 0 := by
      by_cases e : k = a
      · subst e; simp [b2i]
      · have : ¬ nmAt rs k = nmAt rs a := fun x => e ((nmAt_inj h.nd hk ha).mp x)
        simp [b2i, e, this]
    have hm : okMul (meetI rs pl a k) (nuAt rs k - if k = a then 1 else 0) = true := okMul_of (by omega) (by omega) (by split <;> omega) (by split <;> omega)
    apply OP_eq
    rw [encR_at]
    simp! only [turnV_eq, ht _ _ _ _ (show pl.length ≤ 100 by omega), times_meet hp, int_bl, e, hm]
    rfl]
  have e0 : ((List.range rs.length).map fun k => meetI rs pl a k * othN (nuAt rs) a k).sum = sumN rs.length fun j => meetI rs pl a j * othN (nuAt rs) a j := sumN_rng
  have b0 : 0 ≤ sumN rs.length fun j => meetI rs pl a j * othN (nuAt rs) a j := sumN_nonneg fun j hj => Int.mul_nonneg (meetI_bd hp.bd).1 (oth_bd h.s hj).1
  have b1 : (sumN rs.length fun j => meetI rs pl a j * othN (nuAt rs) a j) ≤ rs.length * (9 * 10 ^ 30) := sumN_bd fun j hj => Int.mul_le_mul (meetI_bd hp.bd).2 (oth_bd h.s hj).2 (oth_bd h.s hj).1 (by omega)
  have b2 : (rs.length : Int) * (9 * 10 ^ 30) ≤ 6 * (9 * 10 ^ 30) := Int.mul_le_mul_of_nonneg_right (by omega) (by omega)
  have hm : okMul p (sumN rs.length fun j => meetI rs pl a j * othN (nuAt rs) a j) = true := okMul_of (by omega) (by omega) (by omega) (by omega)
  simp! only [sum_mapI (fun k : Nat => meetI rs pl a k * othN (nuAt rs) a k), e0, hm]
  rw [hope_oth ha]
theorem best_S {rs : List Row} {pl : List PRow} {a : Nat} {p : Int} (ha : a < rs.length) : scAt rs a + hopeN rs.length p (nuAt rs) (meetI rs pl) a = bestI p rs pl a := (best_N ha).symm
theorem names_rng {rs : List Row} : (rs.map (·.nm)).map D.str = (List.range rs.length).map fun k => D.str (nmAt rs k) := by
  rw [map_getD (g := D.str) [], List.length_map]; rfl
end
end G
namespace G
end G
namespace G
section
variable {Γ : Ctx} {c : Nat} {f g fd fn fg fs fl fm ft fh fa fb fw : Fd}
theorem idx_rowAt {rs : List Row} {a : Nat} {st : Store} (ha : a < rs.length) : op2 .idx st (encL rs) (.int (a : Int)) = some (.tup [.str (nmAt rs a), .int (nuAt rs a), .int (scAt rs a)]) := by
  rw [← encR_at]
  show atI (rs.map encR) (a : Int) = _
  unfold rowAt
  rw [atI_nat, List.getElem?_map, List.getElem?_eq_getElem ha, List.getD_eq_getElem?_getD, List.getElem?_eq_getElem ha]; rfl
theorem PlanOk.nm {rs ss : List Row} {pl : List PRow} (h : PlanOk rs pl) (e : ss.map (·.nm) = rs.map (·.nm)) : PlanOk ss pl := ⟨h.l21, by rw [e]; exact h.a, by rw [e]; exact h.b, h.t, h.nd⟩
theorem ix_rng {n : Nat} {g : Nat → D} {k : Nat} {st : Store} (hk : k < n) : op2 .idx st (.lst ((List.range n).map g)) (.int (k : Int)) = some (g k) := by
  show atI ((List.range n).map g) (k : Int) = _
  rw [atI_nat, List.getElem?_map, List.getElem?_range hk]; rfl
end
end G
namespace G
section
variable {Γ : Ctx} {c : Nat} {f g fd fn fg fs fl fm ft fh fo fb fw : Fd}
theorem len_encL6 {rs : List Row} {st : Store} : bi .len st [encL rs] = some (.int (rs.length : Int)) := by show some (D.int ((rs.map encR).length : Int)) = _; rw [List.length_map]
end
end G
namespace G
section
variable {Γ : Ctx} {c : Nat} {f g fd fn fg fs fh fa fb fm : Fd}
def SpBestK (c : Nat) (f : Fd) : Prop := ∀ p rs pl (a : Nat) st, 1 ≤ p → p ≤ 9 → RowsOk rs → PlanB pl → a < rs.length → f [objSe c p rs pl, .str (nmAt rs a)] st = .ok (.int (bestI p rs pl a)) st
theorem sp_bestK (hr : HasM Γ c 40 (SpRowOf c)) (hf : HasM Γ c 37 (SpBestSe c)) : SpBestK c (runF 2 2 (m_Season_best_k57 Γ c)) := by
  intro p rs pl a st h1 h9 h hp ha
  obtain ⟨g1, hg1, q1⟩ := hr
  obtain ⟨g2, hg2, q2⟩ := hf
  apply OP_eq
  refine OP_run rfl ?_
  delta m_Season_best_k57
  simp! only [val_me, meX_se hg1, meX_se hg2, q1 p rs pl a _ h ha, q2 p rs pl a _ h1 h9 h.s hp ha]
end
end G
namespace G
section
variable {Γ : Ctx} {c : Nat} {fs fd fh fw fu : Fd}
theorem run_ptsSe (L : SeC Γ c) {p : Int} {rs : List Row} {pl : List PRow} {st : Store} : runF 1 1 (m_List_points Γ) [objSe c p rs pl] st = .ok (.int p) st := by
  apply OP_eq
  refine OP_run rfl ?_
  delta m_List_points
  simp! only [L.stake]
theorem run_rowsSe (L : SeC Γ c) {p : Int} {rs : List Row} {pl : List PRow} {st : Store} : runF 1 1 (m_List_rows Γ) [objSe c p rs pl] st = .ok (encL rs) st := by
  apply OP_eq
  refine OP_run rfl ?_
  delta m_List_rows
  simp! only [L.lines]
theorem run_leftSe (L : SeC Γ c) {p : Int} {rs : List Row} {pl : List PRow} {st : Store} : runF 1 1 (m_Season_left Γ) [objSe c p rs pl] st = .ok (.tup (pl.map encPr)) st := by
  apply OP_eq
  refine OP_run rfl ?_
  delta m_Season_left
  simp! only [L.plan]
structure SeP (Γ : Ctx) (c : Nat) : Prop where
  pts : ∀ p rs pl st, atV Γ 16 (objSe c p rs pl) st = .ok (.int p) st
  rows : ∀ p rs pl st, atV Γ 17 (objSe c p rs pl) st = .ok (encL rs) st
  left : ∀ p rs pl st, atV Γ 20 (objSe c p rs pl) st = .ok (.tup (pl.map encPr)) st
  kinds : SpKindsSe Γ c
theorem seP {K : Cl} (h : Γ.cls c = some K) (hf : K.fields = [6, 7, 8]) {g1 g2 g3 : Nat} (h1 : K.props.lookup 16 = some g1) (h2 : K.props.lookup 17 = some g2) (h3 : K.props.lookup 20 = some g3)
    (q1 : ∀ p rs pl st, Γ.call g1 [objSe c p rs pl] st = .ok (.int p) st) (q2 : ∀ p rs pl st, Γ.call g2 [objSe c p rs pl] st = .ok (encL rs) st) (q3 : ∀ p rs pl st, Γ.call g3 [objSe c p rs pl] st = .ok (.tup (pl.map encPr)) st) (hk : SpKindsSe Γ c) : SeP Γ c :=
  ⟨fun p rs pl st => propSe h hf (by decide) h1 (q1 p rs pl st), fun p rs pl st => propSe h hf (by decide) h2 (q2 p rs pl st), fun p rs pl st => propSe h hf (by decide) h3 (q3 p rs pl st), hk⟩
def shownD (p : Int) (rs : List Row) (pl : List PRow) : D := .lst [.int p, encL rs, .tup (pl.map encPr), kindsD rs, .lst ((List.range rs.length).map fun k => .int (bestI p rs pl k))]
theorem shs_plan53 : ∀ {pl : List PRow}, (∀ q ∈ pl, isNameS q.1 = true ∧ isNameS q.2.1 = true ∧ 1 ≤ q.2.2 ∧ q.2.2 ≤ 9) → Shs 400 (pl.map encPr)
  | [], _ => .nil
  | q :: pl, h => by
    obtain ⟨a, b, c, d⟩ := h q (by simp)
    have h1 := name_len a
    have h2 := name_len b
    exact .cons (.tup (b := 100) (.cons (.str (b := 100) (name_ok a) (by omega)) (by omega) (.cons (.str (b := 100) (name_ok b) (by omega)) (by omega) (.cons (.int (by omega) (by omega)) (by omega) .nil))) (by simp)) (Nat.le_refl _) (shs_plan53 fun x hx => h x (by simp [hx]))
theorem okEqs_plan53 {n : Nat} : ∀ pl : List PRow, okEqs (n + 1) (pl.map encPr) = true
  | [] => rfl
  | q :: pl => by
    rw [List.map_cons]
    show (okEq (n + 1) (encPr q) && okEqs (n + 1) (pl.map encPr)) = true
    rw [okEqs_plan53 pl]
    cases n <;> rfl
theorem plan_nm {rs : List Row} {pl : List PRow} (h : RowsOk rs) (hp : PlanOk rs pl) : ∀ q ∈ pl, isNameS q.1 = true ∧ isNameS q.2.1 = true ∧ 1 ≤ q.2.2 ∧ q.2.2 ≤ 9 := fun q hq => by
  obtain ⟨r, hr, e⟩ := List.mem_map.mp (hp.a q hq)
  obtain ⟨r2, hr2, e2⟩ := List.mem_map.mp (hp.b q hq)
  exact ⟨by rw [← e]; exact (h.ok r hr).nm, by rw [← e2]; exact (h.ok r2 hr2).nm, (hp.t q hq).1, (hp.t q hq).2⟩
theorem shs_rows53 : ∀ {rs : List Row}, (∀ r ∈ rs, RowOk r) → Shs 400 (rs.map encR)
  | [], _ => .nil
  | r :: rs, h => by
    have h0 := h r (by simp)
    have h1 := name_len h0.nm
    have := h0.n1; have := h0.n2; have := h0.s1; have := h0.s2
    exact .cons (.tup (b := 100) (.cons (.str (b := 100) (name_ok h0.nm) (by omega)) (by omega) (.cons (.int (by omega) (by omega)) (by omega) (.cons (.int (by omega) (by omega)) (by omega) .nil))) (by simp)) (Nat.le_refl _) (shs_rows53 fun x hx => h x (by simp [hx]))
theorem shs_names53 : ∀ {rs : List Row}, (∀ r ∈ rs, RowOk r) → Shs 100 (rs.map fun r => D.str r.nm)
  | [], _ => .nil
  | r :: rs, h => .cons (.str (b := 100) (name_ok (h r (by simp)).nm) (by have := name_len (h r (by simp)).nm; omega)) (Nat.le_refl _) (shs_names53 fun x hx => h x (by simp [hx]))
theorem okEqs_names53 {n : Nat} : ∀ rs : List Row, okEqs n (rs.map fun r => D.str r.nm) = true
  | [] => by cases n <;> rfl
  | r :: rs => by
    rw [List.map_cons]
    show (okEq n (.str r.nm) && okEqs n (rs.map fun r => D.str r.nm)) = true
    rw [okEqs_names53 rs]
    cases n <;> rfl
theorem kept_repr {p : Int} {rs : List Row} {pl : List PRow} {st : Store} (h1 : 1 ≤ p) (h9 : p ≤ 9) (h : RowsOk rs) (hp : PlanOk rs pl) : bi .repr st [.lst [.int p, encL rs, .tup (pl.map encPr)]] = some (.str (reprD (.lst [.int p, encL rs, .tup (pl.map encPr)]))) := by
  have l6 := h.l6
  have l21 := hp.l21
  refine repr_eq (b := 1000000) rfl ?_ (by omega) ?_
  · exact .lst (b := 10000) (.cons (.int (by omega) (by omega)) (by omega) (.cons (.tup (shs_rows53 h.ok) (c := 4000) (by rw [List.length_map]; omega)) (by omega) (.cons (.tup (shs_plan53 (plan_nm h hp)) (c := 9000) (by rw [List.length_map]; omega)) (by omega) .nil))) (by simp)
  · show (okEq 31 (.int p) && (okEqs 30 (rs.map encR) && (okEqs 30 (pl.map encPr) && okEqs 31 []))) = true
    rw [okEqs_rows, okEqs_plan53]; rfl
theorem shown_repr {p : Int} {rs : List Row} {pl : List PRow} {st : Store} (h1 : 1 ≤ p) (h9 : p ≤ 9) (h : RowsOk rs) (hp : PlanOk rs pl) : bi .repr st [shownD p rs pl] = some (.str (reprD (shownD p rs pl))) := by
  have l6 := h.l6
  have l21 := hp.l21
  have hb : ∀ k, -(10 ^ 50) ≤ bestI p rs pl k ∧ bestI p rs pl k ≤ 10 ^ 50 := fun k => by
    have := bestI_bd (a := k) h1 h9 h.s hp.bd
    unfold Bd at this
    omega
  have sb : ∀ l : List Nat, Shs 60 (l.map fun k => D.int (bestI p rs pl k)) := fun l => by
    induction l with
    | nil => exact .nil
    | cons k l ih => exact .cons (.int (hb k).1 (hb k).2) (Nat.le_refl _) ih
  have ob : ∀ l : List Nat, okEqs 30 (l.map fun k => D.int (bestI p rs pl k)) = true := fun l => by
    induction l with
    | nil => rfl
    | cons k l ih =>
      rw [List.map_cons]
      show (okEq 30 (.int (bestI p rs pl k)) && okEqs 30 (l.map fun k => D.int (bestI p rs pl k))) = true
      rw [ih]; rfl
  refine repr_eq (b := 1000000) rfl ?_ (by omega) ?_
  · exact .lst (b := 10000) (.cons (.int (by omega) (by omega)) (by omega) (.cons (.tup (shs_rows53 h.ok) (c := 4000) (by rw [List.length_map]; omega)) (by omega) (.cons (.tup (shs_plan53 (plan_nm h hp)) (c := 9000) (by rw [List.length_map]; omega)) (by omega) (.cons (.tup (shs_names53 h.ok) (c := 4000) (by rw [List.length_map]; omega)) (by omega) (.cons (.lst (sb _) (c := 4000) (by rw [List.length_map, List.length_range]; omega)) (by omega) .nil))))) (by simp)
  · show (okEq 31 (.int p) && (okEqs 30 (rs.map encR) && (okEqs 30 (pl.map encPr) && (okEqs 30 (rs.map fun r => D.str r.nm) && (okEqs 30 ((List.range rs.length).map fun k => D.int (bestI p rs pl k)) && okEqs 31 []))))) = true
    rw [okEqs_rows, okEqs_plan53, okEqs_names53, ob]; rfl
def SpShown53 (c : Nat) (f : Fd) : Prop := ∀ (p : Int) (rs : List Row) (pl : List PRow) st, 1 ≤ p → p ≤ 9 → RowsOk rs → PlanOk rs pl → f [objSe c p rs pl, .lst (namesK rs)] st = .ok (.str (reprD (shownD p rs pl))) st
theorem sp_shown53 (P : SeP Γ c) (hb : HasM Γ c 41 (SpBestK c)) : SpShown53 c (runF 2 4 (m_shown Γ c)) := by
  intro p rs pl st h1 h9 h hp
  obtain ⟨g1, hg1, q1⟩ := hb
  have l6 := h.l6
  have sr := fun st => shown_repr (st := st) h1 h9 h hp
  unfold shownD at sr
  apply OP_eq
  refine OP_run rfl ?_
  delta m_shown
  have sqn : seqI (.lst (namesK rs)) = some (namesK rs) := rfl
  simp! only [sqn]
  unfold namesK
  rw [comp_mapL (enc := fun k => D.str (nmAt rs k)) (g := fun k => .int (bestI p rs pl k)) (List.range rs.length) (lim_ge (by rw [List.length_range]; omega)) fun k hk => by
    have hk : k < rs.length := by simpa using hk
    apply OP_eq
    simp! only [turnV_eq, val_me, meX_se hg1, q1 p rs pl k _ h1 h9 h hp.bd hk]]
  simp! only [P.pts, P.rows, P.left, P.kinds p rs pl _ l6, sr]
  rfl
def SpDue53 (f : Fd) : Prop := ∀ (p : Int) (rs : List Row) (pl : List PRow) st, 1 ≤ p → p ≤ 9 → RowsOk rs → PlanOk rs pl → f [.int p, encL rs, .tup (pl.map encPr)] st = .ok (.str (reprD (shownD p rs pl))) st
theorem sp_due53 (hh : SpHopes fh) : SpDue53 (runF 3 6 (m_due_k53 Γ fh)) := by
  intro p rs pl st h1 h9 h hp
  have l6 := h.l6
  have lm : (List.range rs.length).length ≤ LIM := lim_ge (by rw [List.length_range]; omega)
  have sr := fun st => shown_repr (st := st) h1 h9 h hp
  unfold shownD at sr
  apply OP_eq
  refine OP_run rfl ?_
  delta m_due_k53
  have r0 : ∀ k st, op2 .idx st (encR (rowAt rs k)) (.int 0) = some (.str (nmAt rs k)) := fun k st => by rw [encR_at]; rfl
  have r2 : ∀ k st, op2 .idx st (encR (rowAt rs k)) (.int 2) = some (.int (scAt rs k)) := fun k st => by rw [encR_at]; rfl
  simp! only [seqI_rows]
  rw [comp_mapL (enc := fun k => encR (rowAt rs k)) (g := fun k => .str (nmAt rs k)) _ lm fun k _ => by
    apply OP_eq
    simp! only [turnV_eq, r0]]
  simp! only [seqI_rows]
  rw [comp_mapL (enc := fun k => encR (rowAt rs k)) (g := fun k => .int (bestI p rs pl k)) _ lm fun k hk => by
    have hk : k < rs.length := by simpa using hk
    apply OP_eq
    simp! only [turnV_eq, r0, r2, hh p rs pl k _ (by omega) h9 h hp hk, best_S hk]]
  have ek : D.tup ((List.range rs.length).map fun k => D.str (nmAt rs k)) = kindsD rs := by
    rw [← names_rng, List.map_map]; rfl
  simp! only [ek, sr]
  rfl
theorem val_mkS {c : Nat} {es : List Sem} {env : Env} {st : Store} : (mkSE Γ c es).val env st = (args es env st).bind fun ds st => mkObj (unf Γ) c ds st := rfl
theorem val_id {g : Env → Store → Option Bool} {env : Env} {st : Store} : (idE g).val env st = .of ((g env st).map .bl) st := rfl
theorem val_boolN53 {c : Nat} {s : Sem} {env : Env} {st : Store} : (boolNE c s).val env st = (s.val env st).bind fun x st => boolNV c x st := rfl
theorem mk_twin {K : Cl} (L : SeK Γ c K) (hi : SpInitSe c (Γ.call K.init)) {p : Int} {rs : List Row} {pl : List PRow} {st : Store} (h1 : 1 ≤ p) (h2 : p ≤ 9) (h : RowsOk rs) (hp : PlanOk rs pl) :
    ∃ fs, mkObj (unf Γ) c [.int p, encL rs, .tup (pl.map encPr)] st = .ok (.loc st.length) (st ++ [.ins c fs]) := by
  have e := hi p rs pl st.length (st ++ [.ins c []]) h1 h2 h hp (by simp)
  have e2 : (st ++ [Obj.ins c []]).set st.length (Obj.ins c [(6, .int p), (7, encL rs), (8, .tup (pl.map encPr))]) = st ++ [Obj.ins c [(6, .int p), (7, encL rs), (8, .tup (pl.map encPr))]] := by simp
  rw [e2] at e
  refine ⟨[(6, .int p), (7, encL rs), (8, .tup (pl.map encPr))], ?_⟩
  unfold mkObj
  have hq : (unf Γ).cls c = some { K with frozen := false } := by
    show (Γ.cls c).map _ = _
    rw [L.at_]; rfl
  rw [hq]
  show (match Γ.call K.init [.loc st.length, .int p, encL rs, .tup (pl.map encPr)] (st ++ [Obj.ins c []]) with
    | .ok .non st' => O.ok (D.loc st.length) st'
    | .ex b fs st' => .ex b fs st'
    | _ => .bad) = _
  rw [e]
theorem val_meK53 {c : Nat} {m : Nm} {so : Sem} {is : List Nat} {ss : List Sem} {env : Env} {st : Store} : (meKE Γ c m so is ss).val env st = (so.val env st).bind fun x st => meKV Γ c m is ss env x st := rfl
theorem meK_se {c g : Nat} {m : Nm} {is : List Nat} {ss : List Sem} {env : Env} {st : Store} {p : Int} {rs : List Row} {pl : List PRow} (h : ((Γ.cls c).bind fun k => k.meths.lookup m) = some g) : meKV Γ c m is ss env (objSe c p rs pl) st = (args ss env st).bind fun ds st => Γ.call g (objSe c p rs pl :: pick .non is ds) st := by
  unfold meKV
  rw [h]
  exact if_pos rfl
theorem ne_strs {s : List Nat} {st : Store} : op2 .ne st (.str s) (.str s) = some (.bl false) := by
  show (if (okEq 64 (.str s) && okEq 64 (.str s)) = true then some (D.bl (!pyEq (.str s) (.str s))) else none) = _
  simp [okEq, pyEq]
theorem told53 {st : Store} : bi .repr st [.lst [.bl true, .bl false, .bl true, .bl false, .bl true]] = some (.str [91, 84, 114, 117, 101, 44, 32, 70, 97, 108, 115, 101, 44, 32, 84, 114, 117, 101, 44, 32, 70, 97, 108, 115, 101, 44, 32, 84, 114, 117, 101, 93]) := by
  have b : ∀ x, Sh 60 (.bl x) := fun x => .bl x
  rw [repr_eq (b := 1000) rfl (.lst (b := 60) (.cons (b _) (by omega) (.cons (b _) (by omega) (.cons (b _) (by omega) (.cons (b _) (by omega) (.cons (b _) (by omega) .nil))))) (by simp)) (by omega) rfl]
  rfl
theorem plan_nil {rs : List Row} : PlanOk rs [] := ⟨by simp, by simp, by simp, by simp, fun pre q post e => by
  have := congrArg List.length e
  simp at this⟩
theorem pick210 {a b c : D} : pick D.non [2, 1, 0] [a, b, c] = [c, b, a] := rfl
theorem pick120 {a b c : D} : pick D.non [1, 2, 0] [a, b, c] = [b, c, a] := rfl
theorem sp_right53 {K : Cl} (L : SeK Γ c K) (hi : SpInitSe c (Γ.call K.init)) (hse : SpSeasonD 6 fs) (hd : SpDip fd) (hs : SpShown53 c fw) (hu : SpDue53 fu) (hh : SpHopes fh) (hb : HasM Γ c 41 (SpBestK c)) : SpRight (runF 1 13 (m_right_k53 Γ fs c fd fw fu fh)) := by
  intro l st hw
  obtain ⟨g1, hg1, q1⟩ := hb
  refine OP_run rfl ?_
  delta m_right_k53
  obtain ⟨BB, hBB⟩ : ∃ BB : StS, BB = (seqS (forS (.nm 1) (rngE [kE (.int 2)]) (seqS (ifS (opE .ne (callE fw [vE 10, vE 8]) (callE fu [vE 5, vE 6, vE 7])) (seqS (retS (kE (.bl false))) (passS)) (passS)) (seqS (ifS (opE .ne (callE fw [vE 11, vE 8]) (callE fu [vE 5, vE 6, tupE []])) (seqS (retS (kE (.bl false))) (passS)) (passS)) (passS)))) (seqS (nmS 2 (callE fd [vE 0, biE .len [vE 6]])) (seqS (ifS (opE .ne (biE .repr [meKE Γ c 41 (vE 10) [0] [opE .idx (vE 8) (vE 2)]]) (biE .repr [opE .add (opE .idx (opE .idx (vE 6) (vE 2)) (kE (.int 2))) (callE fh [vE 5, vE 6, vE 7, opE .idx (vE 8) (vE 2)])])) (seqS (retS (kE (.bl false))) (passS)) (passS)) (seqS (nmS 3 (mkSE Γ c [vE 5, vE 6, vE 7])) (seqS (nmS 4 (lstE [idE (idSV c 10 false), idE (idOV c 10 3 false), idE (idOV c 10 3 true), idE (idSV c 10 true), boolNE c (vE 10)])) (seqS (retS (Sem.bop true [opE .eq (biE .repr [vE 4]) (kE (.str [91, 84, 114, 117, 101, 44, 32, 70, 97, 108, 115, 101, 44, 32, 84, 114, 117, 101, 44, 32, 70, 97, 108, 115, 101, 44, 32, 84, 114, 117, 101, 93])), opE .eq (biE .repr [lstE [vE 5, vE 6, vE 7]]) (vE 9)])) (passS))))))) := ⟨_, rfl⟩
  rw [← hBB]
  simp! only []
  refine (hse l 0 6 st hw (by omega) (by omega) (by omega)).mono ?_
  rintro _ st1 ⟨p, rs, pl, rfl, h1, h9, h, hlm, hsc, hp, hw1⟩
  have l6 := h.l6
  have l1 := h.l1
  have lm : (List.range rs.length).length ≤ LIM := lim_ge (by rw [List.length_range]; omega)
  have hmk := fun st => mk_season L hi (st := st) h1 h9 h hp
  have hmk0 : ∀ st, mkObj Γ c [.int p, encL rs, .tup []] st = .ok (objSe c p rs []) st := fun st => mk_season L hi (st := st) (pl := []) h1 h9 h plan_nil
  have kr := fun st => kept_repr (st := st) h1 h9 h hp
  have r0 : ∀ k st, op2 .idx st (encR (rowAt rs k)) (.int 0) = some (.str (nmAt rs k)) := fun k st => by rw [encR_at]; rfl
  have S1 := fun st => hs p rs pl st h1 h9 h hp
  have S2 := fun st => hs p rs [] st h1 h9 h plan_nil
  have U1 := fun st => hu p rs pl st h1 h9 h hp
  have U2 : ∀ st, fu [.int p, encL rs, .tup []] st = .ok (.str (reprD (shownD p rs []))) st := fun st => hu p rs [] st h1 h9 h plan_nil
  simp! only [seqI_rows]
  rw [comp_mapL (enc := fun k => encR (rowAt rs k)) (g := fun k => .str (nmAt rs k)) _ lm fun k _ => by
    apply OP_eq
    simp! only [turnV_eq, r0]]
  have en : ((List.range rs.length).map fun k => D.str (nmAt rs k)) = namesK rs := rfl
  rw [en]
  simp! only [kr, hmk, hmk0, pick210]
  refine (hd l _ 2 st1 hw1 (by omega) (by omega) (by omega)).mono ?_
  rintro _ st2 ⟨k1, rfl, _, _, hw2⟩
  simp! only []
  have tail : ∀ st3, Wl l 601 st3 → ∀ (nx : Env → Store → Prop) (bk ct : Env → Store → Prop), @RP ⟨nx, fun r _ => r = .bl true, bk, ct⟩ (BB [.v (.loc l), .em, .em, .em, .em, .v (.int p), .v (encL rs), .v (.tup (pl.map encPr)), .v (.lst (namesK rs)), .v (.str (reprD (.lst [.int p, encL rs, .tup (pl.map encPr)]))), .v (objSe c p rs pl), .v (objSe c p rs []), .em] st3) := by
    rw [hBB]
    intro st3 hw3 nx bk ct
    simp! only []
    refine ⟨⟨by unfold LIM; omega, by unfold LIM; omega⟩, ?_⟩
    rw [range0]
    refine forL_invL (enc := fun (k : Nat) => D.int (k : Int)) (fun (pre : List Nat) env st' => ∃ (s1 : Sl), env = [.v (.loc l), s1, .em, .em, .em, .v (.int p), .v (encL rs), .v (.tup (pl.map encPr)), .v (.lst (namesK rs)), .v (.str (reprD (.lst [.int p, encL rs, .tup (pl.map encPr)]))), .v (objSe c p rs pl), .v (objSe c p rs []), .em] ∧ st' = st3) ⟨_, rfl, rfl⟩ ?_ ?_
    · rintro pre x post env st4 e ⟨s1, rfl, rfl⟩
      refine ⟨_, by simp! only []; rfl, ?_⟩
      simp! only [S1, S2, U1, U2, ne_strs]
      exact ⟨_, rfl⟩
    · rintro env st4 ⟨s1, rfl, rfl⟩
      simp! only [len_encL6]
      refine (hd l _ rs.length st4 hw3 (by omega) (by omega) (by omega)).mono ?_
      rintro _ st5 ⟨k2, rfl, h20, h21, hw5⟩
      obtain ⟨a, rfl⟩ := Int.eq_ofNat_of_zero_le h20
      have ha : a < rs.length := by omega
      have idn : ∀ st, op2 .idx st (.lst (namesK rs)) (.int (a : Int)) = some (.str (nmAt rs a)) := fun st => by
        unfold namesK
        exact ix_rng (g := fun k => D.str (nmAt rs k)) ha
      have rb : ∀ st, bi .repr st [.int (bestI p rs pl a)] = some (.str (reprD (.int (bestI p rs pl a)))) := fun st => by
        have := bestI_bd (a := a) h1 h9 h.s hp.bd
        unfold Bd at this
        exact repr_eq (b := 60) rfl (.int (by omega) (by omega)) (by omega) rfl
      have pk1 : ∀ d : D, pick D.non [0] [d] = [d] := fun _ => rfl
      obtain ⟨fs2, htw⟩ := mk_twin L hi (st := st5) h1 h9 h hp
      have i1 : ∀ neg env st, env.get 10 = some (objSe c p rs pl) → idSV c 10 neg env st = some (!neg) := fun neg env st he => by
        unfold idSV
        rw [he]
        exact if_pos rfl
      have i2 : ∀ neg env, env.get 10 = some (objSe c p rs pl) → env.get 3 = some (.loc st5.length) → idOV c 10 3 neg env (st5 ++ [.ins c fs2]) = some neg := fun neg env he h3 => by
        unfold idOV
        rw [he, h3]
        show (match (st5 ++ [Obj.ins c fs2])[st5.length]? with
          | some (.ins b2 _) => if c = c ∧ b2 = c then some neg else none
          | _ => none) = _
        rw [List.getElem?_concat_length]
        exact if_pos ⟨rfl, rfl⟩
      have bn : ∀ st, boolNV c (objSe c p rs pl) st = .ok (.bl true) st := fun st => if_pos rfl
      simp! only [idn, val_meK53, meK_se hg1, pk1, q1 p rs pl a _ h1 h9 h hp.bd ha, idx_rowAt ha, hh p rs pl a _ (show 0 ≤ p by omega) h9 h hp ha, best_S ha, rb, ne_strs]
      simp! only [val_mkS, htw]
      have c1 : ∀ st, idSV c 10 false ([.v (.loc l), s1, .v (.int (a : Int)), .v (.loc st5.length), .em, .v (.int p), .v (encL rs), .v (.tup (pl.map encPr)), .v (.lst (namesK rs)), .v (.str (reprD (.lst [.int p, encL rs, .tup (pl.map encPr)]))), .v (objSe c p rs pl), .v (objSe c p rs []), .em] : Env) st = some true := fun st => i1 false _ st rfl
      have c2 : ∀ st, idSV c 10 true ([.v (.loc l), s1, .v (.int (a : Int)), .v (.loc st5.length), .em, .v (.int p), .v (encL rs), .v (.tup (pl.map encPr)), .v (.lst (namesK rs)), .v (.str (reprD (.lst [.int p, encL rs, .tup (pl.map encPr)]))), .v (objSe c p rs pl), .v (objSe c p rs []), .em] : Env) st = some false := fun st => i1 true _ st rfl
      have d1 : idOV c 10 3 false ([.v (.loc l), s1, .v (.int (a : Int)), .v (.loc st5.length), .em, .v (.int p), .v (encL rs), .v (.tup (pl.map encPr)), .v (.lst (namesK rs)), .v (.str (reprD (.lst [.int p, encL rs, .tup (pl.map encPr)]))), .v (objSe c p rs pl), .v (objSe c p rs []), .em] : Env) (st5 ++ [.ins c fs2]) = some false := i2 false _ rfl rfl
      have d2 : idOV c 10 3 true ([.v (.loc l), s1, .v (.int (a : Int)), .v (.loc st5.length), .em, .v (.int p), .v (encL rs), .v (.tup (pl.map encPr)), .v (.lst (namesK rs)), .v (.str (reprD (.lst [.int p, encL rs, .tup (pl.map encPr)]))), .v (objSe c p rs pl), .v (objSe c p rs []), .em] : Env) (st5 ++ [.ins c fs2]) = some true := i2 true _ rfl rfl
      simp! only [val_id, c1, c2, d1, d2, Option.map_some, Bool.not_false, Bool.not_true, val_boolN53, bn, told53, kr, decide_true]
  refine ⟨fun _ => ?_, fun _ => ?_⟩
  · simp! only [pick120, hmk]
    exact tail st2 (hw2.up (by omega)) _ _ _
  · exact tail st2 (hw2.up (by omega)) _ _ _
end
end G
namespace K53
open G
abbrev C (n : Nat) : G.Ctx := pt.ctx (pt.call n)
theorem cc (n i : Nat) : (C n).call i = pt.call n i := rfl
theorem at_call {f g : Fd} {ds : List D} {st : Store} {r : O D} (e : f = g) (h : g ds st = r) : f ds st = r := by rw [e]; exact h
theorem q5 (n : Nat) : SpInt (pt.call (n + 1) 5) := by rw [c_5]; exact sp_integer _
theorem q6 (n : Nat) : SpWithin (pt.call (n + 2) 6) := by rw [c_6]; exact sp_within _ (q5 n)
theorem q7 (n : Nat) : SpName (pt.call (n + 1) 7) := by rw [c_7]; exact sp_name _
theorem sk (n : Nat) : SeK (C n) 0 (clsT.getD 0 ⟨"", ⟨[], 0, [], [], false⟩, []⟩).cl := ⟨rfl, rfl, rfl⟩
theorem se (n : Nat) : SeC (C n) 0 := seC (sk n).at_ (sk n).flds
theorem ks (n : Nat) : SpKindsSe (C (n + 1)) 0 := sp_kindsSe (sk (n + 1)).at_ (sk (n + 1)).flds (g := 19) rfl fun p rs pl st h => at_call ((cc (n + 1) 19).trans (c_19 n)) (run_kindsSe (se n) h)
theorem sep (n : Nat) : SeP (C (n + 1)) 0 := seP (sk (n + 1)).at_ (sk (n + 1)).flds (g1 := 16) (g2 := 17) (g3 := 18) rfl rfl rfl (fun p rs pl st => at_call ((cc (n + 1) 16).trans (c_16 n)) (run_ptsSe (se n))) (fun p rs pl st => at_call ((cc (n + 1) 17).trans (c_17 n)) (run_rowsSe (se n))) (fun p rs pl st => at_call ((cc (n + 1) 18).trans (c_18 n)) (run_leftSe (se n))) (ks n)
theorem q8 (n : Nat) : SpChkPts (pt.call (n + 3) 8) := by rw [c_8]; exact sp_chkpts _ (q6 n)
theorem q9 (n : Nat) : SpRow (pt.call (n + 3) 9) := by rw [c_9]; exact sp_row _ (q7 (n + 1)) (q6 n)
theorem q10 (n : Nat) : SpWrong (pt.call (n + 4) 10) := by rw [c_10]; exact sp_wrong _ (q9 n)
theorem q11 (n : Nat) : SpChkRows (pt.call (n + 5) 11) := by rw [c_11]; exact sp_chkrows _ (q10 n)
theorem q12 (n : Nat) : SpChkKind (pt.call (n + 1) 12) := by rw [c_12]; exact sp_chkKind
theorem q13 (n : Nat) : SpIsLeft (pt.call (n + 3) 13) := by rw [c_13]; exact sp_isLeft (q6 n)
theorem q14 (n : Nat) : SpWrongLeft (pt.call (n + 4) 14) := by rw [c_14]; exact sp_wrongLeft (q13 n)
theorem q15 (n : Nat) : SpInitSe 0 (pt.call (n + 6) 15) := by rw [c_15]; exact sp_initSe (sk _) (q8 (n + 2)) (q11 n) (q14 (n + 1))
theorem q20 (n : Nat) : SpMeet 0 (pt.call (n + 2) 20) := by rw [c_20]; exact sp_meet (se _) (ks n)
theorem q22 (n : Nat) : SpOthers 0 (pt.call (n + 1) 22) := by rw [c_22]; exact sp_others (se _)
theorem q23 (n : Nat) : SpBestSe 0 (pt.call (n + 3) 23) := by rw [c_23]; exact sp_bestSe (se _) ⟨20, rfl, q20 n⟩ ⟨22, rfl, q22 (n + 1)⟩
theorem q26 (n : Nat) : SpRowOf 0 (pt.call (n + 2) 26) := by rw [c_26]; exact sp_rowOf (ks n) (q12 n)
theorem q27 (n : Nat) : SpBestK 0 (pt.call (n + 4) 27) := by rw [c_27]; exact sp_bestK ⟨26, rfl, q26 (n + 1)⟩ ⟨23, rfl, q23 n⟩
theorem q32 (n : Nat) : SpWell (pt.call (n + 1) 32) := by rw [c_32]; exact sp_spring
theorem q33 [FrC] (n : Nat) : SpDip (pt.call (n + 1) 33) := by rw [c_33]; exact sp_draw _
theorem q34 [FrC] (n : Nat) : SpRange (pt.call (n + 2) 34) 5 0 (10 ^ 30 - 1) := by rw [c_34]; exact sp_greatF (q33 n)
theorem q35 (n : Nat) : SpRange (pt.call (n + 3) 35) 6 1 (10 ^ 30) := by rw [c_35]; exact sp_numberF (q33 (n + 1)) (q34 n)
theorem q36 (n : Nat) : SpRange (pt.call (n + 3) 36) 7 0 (5 * 10 ^ 32) := by rw [c_36]; exact sp_soFar (q33 (n + 1)) (q34 n)
theorem q37 [FrC] (n : Nat) : SpNames (pt.call (n + 2) 37) := by rw [c_37]; exact sp_named (q33 n)
theorem q38 (n : Nat) : SpLeftD (pt.call (n + 2) 38) := by rw [c_38]; exact sp_leftD (q33 n)
theorem q39 (n : Nat) : SpTimes (pt.call (n + 1) 39) := by rw [c_39]; exact sp_times
theorem q40 (n : Nat) : SpHopes (pt.call (n + 2) 40) := by rw [c_40]; exact sp_hopes (q39 n)
theorem q41 (n : Nat) : SpSeasonD 6 (pt.call (n + 4) 41) := by rw [c_41]; exact sp_seasonD (q37 (n + 1)) (q33 (n + 2)) (q35 n) (q36 n) (q38 (n + 1))
theorem q42 (n : Nat) : SpShown53 0 (pt.call (n + 5) 42) := by rw [c_42]; exact sp_shown53 (sep (n + 3)) ⟨27, rfl, q27 n⟩
theorem q43 (n : Nat) : SpDue53 (pt.call (n + 3) 43) := by rw [c_43]; exact sp_due53 (q40 n)
theorem q44 (n : Nat) : SpRight (pt.call (n + 7) 44) := by rw [c_44]; exact sp_right53 (sk _) (q15 n) (q41 (n + 2)) (q33 (n + 5)) (q42 (n + 1)) (q43 (n + 3)) (q40 (n + 4)) ⟨27, rfl, q27 (n + 2)⟩
theorem q45 (n : Nat) : SpLaw (pt.call (n + 8) 45) := by rw [c_45]; exact sp_law (q44 n) (q32 (n + 6))
theorem law_true : ∀ ns : List Int, ns.length ≤ 63 → Trues (pt.call 40 45) ns := by
  intro ns hl
  have h : SpLaw (pt.call (32 + 8) 45) := q45 32
  have := h ns [] hl
  unfold Trues
  revert this
  show OP _ (pt.call (32 + 8) 45 [.fl (ns.map .int)] []) → ∃ st, pt.call (32 + 8) 45 [.fl (ns.map .int)] [] = _
  generalize pt.call (32 + 8) 45 [.fl (ns.map .int)] [] = o
  cases o with
  | ok a st =>
    intro e
    have e : a = .bl true := e
    exact ⟨st, by rw [e]⟩
  | _ => exact fun h => h.elim
end K53
namespace K53
open PySem PySem.Spec PyProof.Rows G
theorem bdM_15_120 {Y : Wd} {fd : FuncData} (D : L2.FunD Y.K d15.name d15.qual d15.params d15.body d15.scope [] [] (d15.pa.ad Y.K) fd) : BdM Y.K fd d15.ps ["left", "points", "rows"] [1, 2, 0] :=
  bdM_of (pt := pt) D rfl rfl fun _ _ _ _ _ _ z us hl => match us, hl with | [_, _, _], _ => rfl
theorem bdM_15_210 {Y : Wd} {fd : FuncData} (D : L2.FunD Y.K d15.name d15.qual d15.params d15.body d15.scope [] [] (d15.pa.ad Y.K) fd) : BdM Y.K fd d15.ps ["left", "rows", "points"] [2, 1, 0] :=
  bdM_of (pt := pt) D rfl rfl fun _ _ _ _ _ _ z us hl => match us, hl with | [_, _, _], _ => rfl
theorem bdM_27_0 {Y : Wd} {fd : FuncData} (D : L2.FunD Y.K d27.name d27.qual d27.params d27.body d27.scope [] [] (d27.pa.ad Y.K) fd) : BdM Y.K fd d27.ps ["kind"] [0] :=
  bdM_of (pt := pt) D rfl rfl fun _ _ _ _ _ _ z us hl => match us, hl with | [_], _ => rfl
theorem ok_0 : DfOk pt d0 := ⟨⟨rfl, rfl, rfl, by decide +kernel, rfl, by decide +kernel, by decide +kernel⟩, fun _ _ _ _ _ _ us hl => match us, hl with | [_], _ => rfl, fun _ Y Γ k X W Ow0 fr hfr F CS M Z => by
  obtain rfl : fr = false := not_fr rfl hfr
  have E : En pt Y Γ k d0.N X W d0.scope := ⟨F, M⟩
  have B : Eb pt Y Γ k d0.N X W d0.scope Ow0 false := ⟨E, CS⟩
  show JSs X B.w d0.body (m__wall Γ); delta m__wall
  exact s_cons B (s_whl B (r_k E (by rfl)) (s_cons B (s_pass B) (s_nil B))) (s_nil B), fun h => Bool.noConfusion (show false = true from h), fun h => Bool.noConfusion (show false = true from h), fun h => Bool.noConfusion (show false = true from h)⟩
theorem ok_1 : DfOk pt d1 := ⟨⟨rfl, rfl, rfl, by decide +kernel, rfl, by decide +kernel, by decide +kernel⟩, fun _ _ _ _ _ _ us hl => match us, hl with | [_, _], _ => rfl, fun _ Y Γ k X W Ow0 fr hfr F CS M Z => by
  obtain rfl : fr = false := not_fr rfl hfr
  have E : En pt Y Γ k d1.N X W d1.scope := ⟨F, M⟩
  have B : Eb pt Y Γ k d1.N X W d1.scope Ow0 false := ⟨E, CS⟩
  skip
  exact s_bads B, fun h => Bool.noConfusion (show false = true from h), fun h => Bool.noConfusion (show false = true from h), fun h => Bool.noConfusion (show false = true from h)⟩
theorem ok_2 : DfOk pt d2 := ⟨⟨rfl, rfl, rfl, by decide +kernel, rfl, by decide +kernel, by decide +kernel⟩, fun _ _ _ _ _ _ us hl => match us, hl with | [_, _], _ => rfl, fun _ Y Γ k X W Ow0 fr hfr F CS M Z => by
  obtain rfl : fr = false := not_fr rfl hfr
  have E : En pt Y Γ k d2.N X W d2.scope := ⟨F, M⟩
  have B : Eb pt Y Γ k d2.N X W d2.scope Ow0 false := ⟨E, CS⟩
  skip
  exact s_bads B, fun h => Bool.noConfusion (show false = true from h), fun h => Bool.noConfusion (show false = true from h), fun h => Bool.noConfusion (show false = true from h)⟩
theorem ok_3 : DfOk pt d3 := ⟨⟨rfl, rfl, rfl, by decide +kernel, rfl, by decide +kernel, by decide +kernel⟩, fun _ _ _ _ _ _ us hl => match us, hl with | [_, _], _ => rfl, fun _ Y Γ k X W Ow0 fr hfr F CS M Z => by
  obtain rfl : fr = false := not_fr rfl hfr
  have E : En pt Y Γ k d3.N X W d3.scope := ⟨F, M⟩
  have B : Eb pt Y Γ k d3.N X W d3.scope Ow0 false := ⟨E, CS⟩
  skip
  exact s_bads B, fun h => Bool.noConfusion (show false = true from h), fun h => Bool.noConfusion (show false = true from h), fun h => Bool.noConfusion (show false = true from h)⟩
theorem ok_4 : DfOk pt d4 := ⟨⟨rfl, rfl, rfl, by decide +kernel, rfl, by decide +kernel, by decide +kernel⟩, fun _ _ _ _ _ _ us hl => match us, hl with | [_, _], _ => rfl, fun _ Y Γ k X W Ow0 fr hfr F CS M Z => by
  obtain rfl : fr = false := not_fr rfl hfr
  have E : En pt Y Γ k d4.N X W d4.scope := ⟨F, M⟩
  have B : Eb pt Y Γ k d4.N X W d4.scope Ow0 false := ⟨E, CS⟩
  skip
  exact s_bads B, fun h => Bool.noConfusion (show false = true from h), fun h => Bool.noConfusion (show false = true from h), fun h => Bool.noConfusion (show false = true from h)⟩
theorem ok_5 : DfOk pt d5 := ⟨⟨rfl, rfl, rfl, by decide +kernel, rfl, by decide +kernel, by decide +kernel⟩, fun _ _ _ _ _ _ us hl => match us, hl with | [_], _ => rfl, fun _ Y Γ k X W Ow0 fr hfr F CS M Z => by
  obtain rfl : fr = false := not_fr rfl hfr
  have E : En pt Y Γ k d5.N X W d5.scope := ⟨F, M⟩
  have B : Eb pt Y Γ k d5.N X W d5.scope Ow0 false := ⟨E, CS⟩
  show JSs X B.w d5.body (m_is_integer Γ); delta m_is_integer
  exact s_cons B (s_ret B rfl (r_and E rfl (.cons rfl (r_isi E .int 0 (by rfl) rfl (by kernel_rfl) (by kernel_rfl) (by kernel_rfl) (by kernel_rfl) rfl (r_v E (i := 0) (by kernel_rfl))) (.cons rfl (r_no E (r_isi E .bool 1 (by rfl) rfl (by kernel_rfl) (by kernel_rfl) (by kernel_rfl) (by kernel_rfl) rfl (r_v E (i := 0) (by kernel_rfl)))) .nil)))) (s_nil B), fun h => Bool.noConfusion (show false = true from h), fun h => Bool.noConfusion (show false = true from h), fun h => Bool.noConfusion (show false = true from h)⟩
theorem ok_6 : DfOk pt d6 := ⟨⟨rfl, rfl, rfl, by decide +kernel, rfl, by decide +kernel, by decide +kernel⟩, fun _ _ _ _ _ _ us hl => match us, hl with | [_, _, _], _ => rfl, fun _ Y Γ k X W Ow0 fr hfr F CS M Z => by
  obtain rfl : fr = false := not_fr rfl hfr
  have E : En pt Y Γ k d6.N X W d6.scope := ⟨F, M⟩
  have B : Eb pt Y Γ k d6.N X W d6.scope Ow0 false := ⟨E, CS⟩
  show JSs X B.w d6.body (m_is_within Γ (Γ.call 5)); delta m_is_within
  exact s_cons B (s_ret B rfl (r_and E rfl (.cons rfl (r_call E 5 at_5 rfl (by kernel_rfl) (by kernel_rfl) rfl (.cons rfl (r_v E (i := 0) (by kernel_rfl)) .nil)) (.cons rfl (r_chain E (op := .le) (op2 := .le) rfl rfl rfl (r_v E (i := 1) (by kernel_rfl)) (r_v E (i := 0) (by kernel_rfl)) (r_v E (i := 2) (by kernel_rfl))) .nil)))) (s_nil B), fun h => Bool.noConfusion (show false = true from h), fun h => Bool.noConfusion (show false = true from h), fun h => Bool.noConfusion (show false = true from h)⟩
theorem ok_7 : DfOk pt d7 := ⟨⟨rfl, rfl, rfl, by decide +kernel, rfl, by decide +kernel, by decide +kernel⟩, fun _ _ _ _ _ _ us hl => match us, hl with | [_], _ => rfl, fun _ Y Γ k X W Ow0 fr hfr F CS M Z => by
  obtain rfl : fr = false := not_fr rfl hfr
  have E : En pt Y Γ k d7.N X W d7.scope := ⟨F, M⟩
  have B : Eb pt Y Γ k d7.N X W d7.scope Ow0 false := ⟨E, CS⟩
  show JSs X B.w d7.body (m_is_name Γ); delta m_is_name
  exact s_cons B (s_if B (r_or E rfl (.cons rfl (r_no E (r_isi E .str 2 (by rfl) rfl (by kernel_rfl) (by kernel_rfl) (by kernel_rfl) (by kernel_rfl) rfl (r_v E (i := 0) (by kernel_rfl)))) (.cons rfl (r_no E (r_chain E (op := .le) (op2 := .le) rfl rfl rfl (r_k E (by rfl)) (r_bi E .len rfl (by kernel_rfl) (by kernel_rfl) rfl (.cons rfl (r_v E (i := 0) (by kernel_rfl)) .nil)) (r_gi E 5 (by rfl) (by kernel_rfl) (by kernel_rfl)))) .nil))) (s_cons B (s_ret B rfl (r_k E (by rfl))) (s_nil B)) (s_nil B)) (s_cons B (s_ret B rfl (r_and E rfl (.cons rfl (r_cmp E (op := .mem) rfl rfl (r_ix E rfl (r_v E (i := 0) (by kernel_rfl)) (r_k E (by rfl))) (r_gs E 0 (by rfl) (by kernel_rfl) (by kernel_rfl))) (.cons rfl (r_bi E .all rfl (by kernel_rfl) (by kernel_rfl) rfl (.cons rfl (r_lc E (lc_ok E (rI := true) (own := [("sign", 1)]) (p := .nm 1) rfl (by kernel_rfl) (by kernel_rfl) (i_of E (r_v E (i := 0) (by kernel_rfl))) (fun _ E' hfE' => p_nm E' (by kernel_rfl)) (fun _ E' => .nil) (fun _ E' => r_or E' rfl (.cons rfl (r_cmp E' (op := .mem) rfl rfl (r_v E' (i := 1) (by kernel_rfl)) (r_gs E' 0 (by rfl) (by kernel_rfl) (by kernel_rfl))) (.cons rfl (r_cmp E' (op := .mem) rfl rfl (r_v E' (i := 1) (by kernel_rfl)) (r_gs E' 1 (by rfl) (by kernel_rfl) (by kernel_rfl))) .nil))))) .nil)) .nil)))) (s_nil B)), fun h => Bool.noConfusion (show false = true from h), fun h => Bool.noConfusion (show false = true from h), fun h => Bool.noConfusion (show false = true from h)⟩
theorem ok_8 : DfOk pt d8 := ⟨⟨rfl, rfl, rfl, by decide +kernel, rfl, by decide +kernel, by decide +kernel⟩, fun _ _ _ _ _ _ us hl => match us, hl with | [_], _ => rfl, fun _ Y Γ k X W Ow0 fr hfr F CS M Z => by
  obtain rfl : fr = false := not_fr rfl hfr
  have E : En pt Y Γ k d8.N X W d8.scope := ⟨F, M⟩
  have B : Eb pt Y Γ k d8.N X W d8.scope Ow0 false := ⟨E, CS⟩
  show JSs X B.w d8.body (m_check_points Γ (Γ.call 6) 0); delta m_check_points
  exact s_cons B (s_if B (r_no E (r_call E 6 at_6 rfl (by kernel_rfl) (by kernel_rfl) rfl (.cons rfl (r_v E (i := 0) (by kernel_rfl)) (.cons rfl (r_k E (by rfl)) (.cons rfl (r_gi E 0 (by rfl) (by kernel_rfl) (by kernel_rfl)) .nil))))) (s_cons B (s_raise B 0 (by rfl) (by rfl) (by rfl) (by kernel_rfl) (by kernel_rfl) rfl (r_v E (i := 0) (by kernel_rfl))) (s_nil B)) (s_nil B)) (s_nil B), fun h => Bool.noConfusion (show false = true from h), fun h => Bool.noConfusion (show false = true from h), fun h => Bool.noConfusion (show false = true from h)⟩
theorem ok_9 : DfOk pt d9 := ⟨⟨rfl, rfl, rfl, by decide +kernel, rfl, by decide +kernel, by decide +kernel⟩, fun _ _ _ _ _ _ us hl => match us, hl with | [_], _ => rfl, fun _ Y Γ k X W Ow0 fr hfr F CS M Z => by
  obtain rfl : fr = false := not_fr rfl hfr
  have E : En pt Y Γ k d9.N X W d9.scope := ⟨F, M⟩
  have B : Eb pt Y Γ k d9.N X W d9.scope Ow0 false := ⟨E, CS⟩
  show JSs X B.w d9.body (m_is_row Γ (Γ.call 7) (Γ.call 6)); delta m_is_row
  exact s_cons B (s_if B (r_or E rfl (.cons rfl (r_no E (r_isi E .tuple 3 (by rfl) rfl (by kernel_rfl) (by kernel_rfl) (by kernel_rfl) (by kernel_rfl) rfl (r_v E (i := 0) (by kernel_rfl)))) (.cons rfl (r_cmp E (op := .ne) rfl rfl (r_bi E .len rfl (by kernel_rfl) (by kernel_rfl) rfl (.cons rfl (r_v E (i := 0) (by kernel_rfl)) .nil)) (r_k E (by rfl))) (.cons rfl (r_no E (r_call E 7 at_7 rfl (by kernel_rfl) (by kernel_rfl) rfl (.cons rfl (r_ix E rfl (r_v E (i := 0) (by kernel_rfl)) (r_k E (by rfl))) .nil))) .nil)))) (s_cons B (s_ret B rfl (r_k E (by rfl))) (s_nil B)) (s_nil B)) (s_cons B (s_ret B rfl (r_and E rfl (.cons rfl (r_call E 6 at_6 rfl (by kernel_rfl) (by kernel_rfl) rfl (.cons rfl (r_ix E rfl (r_v E (i := 0) (by kernel_rfl)) (r_k E (by rfl))) (.cons rfl (r_k E (by rfl)) (.cons rfl (r_gi E 2 (by rfl) (by kernel_rfl) (by kernel_rfl)) .nil)))) (.cons rfl (r_call E 6 at_6 rfl (by kernel_rfl) (by kernel_rfl) rfl (.cons rfl (r_ix E rfl (r_v E (i := 0) (by kernel_rfl)) (r_k E (by rfl))) (.cons rfl (r_k E (by rfl)) (.cons rfl (r_gi E 3 (by rfl) (by kernel_rfl) (by kernel_rfl)) .nil)))) .nil)))) (s_nil B)), fun h => Bool.noConfusion (show false = true from h), fun h => Bool.noConfusion (show false = true from h), fun h => Bool.noConfusion (show false = true from h)⟩
theorem ok_10 : DfOk pt d10 := ⟨⟨rfl, rfl, rfl, by decide +kernel, rfl, by decide +kernel, by decide +kernel⟩, fun _ _ _ _ _ _ us hl => match us, hl with | [_], _ => rfl, fun _ Y Γ k X W Ow0 fr hfr F CS M Z => by
  obtain rfl : fr = false := not_fr rfl hfr
  have E : En pt Y Γ k d10.N X W d10.scope := ⟨F, M⟩
  have B : Eb pt Y Γ k d10.N X W d10.scope Ow0 false := ⟨E, CS⟩
  show JSs X B.w d10.body (m_wrong_row Γ (Γ.call 9)); delta m_wrong_row
  exact s_cons B (s_own B (i := 1) (by kernel_rfl) rfl (f_lst E (by kernel_rfl) .nil)) (s_cons B (s_for B rfl (i_enum E (by kernel_rfl) (by kernel_rfl) rfl (r_v E (i := 0) (by kernel_rfl))) (p_tp E rfl rfl (pts_cons rfl (p_nmB B (by kernel_rfl)) (pts_cons rfl (p_nmB B (by kernel_rfl)) pts_nil))) (s_cons B (s_if B (r_or E rfl (.cons rfl (r_no E (r_call E 9 at_9 rfl (by kernel_rfl) (by kernel_rfl) rfl (.cons rfl (r_v E (i := 3) (by kernel_rfl)) .nil))) (.cons rfl (r_cmp E (op := .mem) rfl rfl (r_ix E rfl (r_v E (i := 3) (by kernel_rfl)) (r_k E (by rfl))) (r_pk E (i := 1) (by kernel_rfl))) (.cons rfl (r_cmp E (op := .ge) rfl rfl (r_v E (i := 2) (by kernel_rfl)) (r_gi E 1 (by rfl) (by kernel_rfl) (by kernel_rfl))) .nil)))) (s_cons B (s_ret B rfl (r_v E (i := 2) (by kernel_rfl))) (s_nil B)) (s_nil B)) (s_cons B (s_app B (i := 1) (by kernel_rfl) rfl rfl (r_ix E rfl (r_v E (i := 3) (by kernel_rfl)) (r_k E (by rfl)))) (s_nil B)))) (s_cons B (s_ret B rfl (r_k E (by rfl))) (s_nil B))), fun h => Bool.noConfusion (show false = true from h), fun h => Bool.noConfusion (show false = true from h), fun h => Bool.noConfusion (show false = true from h)⟩
theorem ok_11 : DfOk pt d11 := ⟨⟨rfl, rfl, rfl, by decide +kernel, rfl, by decide +kernel, by decide +kernel⟩, fun _ _ _ _ _ _ us hl => match us, hl with | [_], _ => rfl, fun _ Y Γ k X W Ow0 fr hfr F CS M Z => by
  obtain rfl : fr = false := not_fr rfl hfr
  have E : En pt Y Γ k d11.N X W d11.scope := ⟨F, M⟩
  have B : Eb pt Y Γ k d11.N X W d11.scope Ow0 false := ⟨E, CS⟩
  show JSs X B.w d11.body (m_check_rows Γ 1 (Γ.call 10)); delta m_check_rows
  exact s_cons B (s_if B (r_or E rfl (.cons rfl (r_no E (r_isi E .tuple 3 (by rfl) rfl (by kernel_rfl) (by kernel_rfl) (by kernel_rfl) (by kernel_rfl) rfl (r_v E (i := 0) (by kernel_rfl)))) (.cons rfl (r_cmp E (op := .eq) rfl rfl (r_bi E .len rfl (by kernel_rfl) (by kernel_rfl) rfl (.cons rfl (r_v E (i := 0) (by kernel_rfl)) .nil)) (r_k E (by rfl))) .nil))) (s_cons B (s_raise B 1 (by rfl) (by rfl) (by rfl) (by kernel_rfl) (by kernel_rfl) rfl (r_k E (by rfl))) (s_nil B)) (s_nil B)) (s_cons B (s_nm B (i := 1) (by kernel_rfl) rfl (r_call E 10 at_10 rfl (by kernel_rfl) (by kernel_rfl) rfl (.cons rfl (r_v E (i := 0) (by kernel_rfl)) .nil))) (s_cons B (s_if B (r_cmp E (op := .isnot) rfl rfl (r_v E (i := 1) (by kernel_rfl)) (r_k E (by rfl))) (s_cons B (s_raise B 1 (by rfl) (by rfl) (by rfl) (by kernel_rfl) (by kernel_rfl) rfl (r_v E (i := 1) (by kernel_rfl))) (s_nil B)) (s_nil B)) (s_nil B))), fun h => Bool.noConfusion (show false = true from h), fun h => Bool.noConfusion (show false = true from h), fun h => Bool.noConfusion (show false = true from h)⟩
theorem ok_12 : DfOk pt d12 := ⟨⟨rfl, rfl, rfl, by decide +kernel, rfl, by decide +kernel, by decide +kernel⟩, fun _ _ _ _ _ _ us hl => match us, hl with | [_, _], _ => rfl, fun _ Y Γ k X W Ow0 fr hfr F CS M Z => by
  obtain rfl : fr = false := not_fr rfl hfr
  have E : En pt Y Γ k d12.N X W d12.scope := ⟨F, M⟩
  have B : Eb pt Y Γ k d12.N X W d12.scope Ow0 false := ⟨E, CS⟩
  show JSs X B.w d12.body (m_check_kind Γ 3); delta m_check_kind
  exact s_cons B (s_if B (r_cmp E (op := .nmem) rfl rfl (r_v E (i := 1) (by kernel_rfl)) (r_v E (i := 0) (by kernel_rfl))) (s_cons B (s_raise B 3 (by rfl) (by rfl) (by rfl) (by kernel_rfl) (by kernel_rfl) rfl (r_v E (i := 1) (by kernel_rfl))) (s_nil B)) (s_nil B)) (s_nil B), fun h => Bool.noConfusion (show false = true from h), fun h => Bool.noConfusion (show false = true from h), fun h => Bool.noConfusion (show false = true from h)⟩
theorem ok_13 : DfOk pt d13 := ⟨⟨rfl, rfl, rfl, by decide +kernel, rfl, by decide +kernel, by decide +kernel⟩, fun _ _ _ _ _ _ us hl => match us, hl with | [_, _], _ => rfl, fun _ Y Γ k X W Ow0 fr hfr F CS M Z => by
  obtain rfl : fr = false := not_fr rfl hfr
  have E : En pt Y Γ k d13.N X W d13.scope := ⟨F, M⟩
  have B : Eb pt Y Γ k d13.N X W d13.scope Ow0 false := ⟨E, CS⟩
  show JSs X B.w d13.body (m_is_left Γ (Γ.call 6)); delta m_is_left
  exact s_cons B (s_if B (r_or E rfl (.cons rfl (r_no E (r_isi E .tuple 3 (by rfl) rfl (by kernel_rfl) (by kernel_rfl) (by kernel_rfl) (by kernel_rfl) rfl (r_v E (i := 0) (by kernel_rfl)))) (.cons rfl (r_cmp E (op := .ne) rfl rfl (r_bi E .len rfl (by kernel_rfl) (by kernel_rfl) rfl (.cons rfl (r_v E (i := 0) (by kernel_rfl)) .nil)) (r_k E (by rfl))) (.cons rfl (r_no E (r_call E 6 at_6 rfl (by kernel_rfl) (by kernel_rfl) rfl (.cons rfl (r_ix E rfl (r_v E (i := 0) (by kernel_rfl)) (r_k E (by rfl))) (.cons rfl (r_k E (by rfl)) (.cons rfl (r_gi E 4 (by rfl) (by kernel_rfl) (by kernel_rfl)) .nil))))) .nil)))) (s_cons B (s_ret B rfl (r_k E (by rfl))) (s_nil B)) (s_nil B)) (s_cons B (s_ret B rfl (r_and E rfl (.cons rfl (r_cmp E (op := .mem) rfl rfl (r_ix E rfl (r_v E (i := 0) (by kernel_rfl)) (r_k E (by rfl))) (r_v E (i := 1) (by kernel_rfl))) (.cons rfl (r_cmp E (op := .mem) rfl rfl (r_ix E rfl (r_v E (i := 0) (by kernel_rfl)) (r_k E (by rfl))) (r_v E (i := 1) (by kernel_rfl))) .nil)))) (s_nil B)), fun h => Bool.noConfusion (show false = true from h), fun h => Bool.noConfusion (show false = true from h), fun h => Bool.noConfusion (show false = true from h)⟩
theorem ok_14 : DfOk pt d14 := ⟨⟨rfl, rfl, rfl, by decide +kernel, rfl, by decide +kernel, by decide +kernel⟩, fun _ _ _ _ _ _ us hl => match us, hl with | [_, _], _ => rfl, fun _ Y Γ k X W Ow0 fr hfr F CS M Z => by
  obtain rfl : fr = false := not_fr rfl hfr
  have E : En pt Y Γ k d14.N X W d14.scope := ⟨F, M⟩
  have B : Eb pt Y Γ k d14.N X W d14.scope Ow0 false := ⟨E, CS⟩
  show JSs X B.w d14.body (m_wrong_left Γ (Γ.call 13)); delta m_wrong_left
  exact s_cons B (s_own B (i := 2) (by kernel_rfl) rfl (f_lst E (by kernel_rfl) .nil)) (s_cons B (s_for B rfl (i_enum E (by kernel_rfl) (by kernel_rfl) rfl (r_v E (i := 0) (by kernel_rfl))) (p_tp E rfl rfl (pts_cons rfl (p_nmB B (by kernel_rfl)) (pts_cons rfl (p_nmB B (by kernel_rfl)) pts_nil))) (s_cons B (s_if B (r_or E rfl (.cons rfl (r_no E (r_call E 13 at_13 rfl (by kernel_rfl) (by kernel_rfl) rfl (.cons rfl (r_v E (i := 4) (by kernel_rfl)) (.cons rfl (r_v E (i := 1) (by kernel_rfl)) .nil)))) (.cons rfl (r_cmp E (op := .mem) rfl rfl (r_tup E (by kernel_rfl) (.cons rfl (r_ix E rfl (r_v E (i := 4) (by kernel_rfl)) (r_k E (by rfl))) (.cons rfl (r_ix E rfl (r_v E (i := 4) (by kernel_rfl)) (r_k E (by rfl))) .nil))) (r_pk E (i := 2) (by kernel_rfl))) (.cons rfl (r_cmp E (op := .mem) rfl rfl (r_tup E (by kernel_rfl) (.cons rfl (r_ix E rfl (r_v E (i := 4) (by kernel_rfl)) (r_k E (by rfl))) (.cons rfl (r_ix E rfl (r_v E (i := 4) (by kernel_rfl)) (r_k E (by rfl))) .nil))) (r_pk E (i := 2) (by kernel_rfl))) .nil)))) (s_cons B (s_ret B rfl (r_v E (i := 3) (by kernel_rfl))) (s_nil B)) (s_nil B)) (s_cons B (s_app B (i := 2) (by kernel_rfl) rfl rfl (r_tup E (by kernel_rfl) (.cons rfl (r_ix E rfl (r_v E (i := 4) (by kernel_rfl)) (r_k E (by rfl))) (.cons rfl (r_ix E rfl (r_v E (i := 4) (by kernel_rfl)) (r_k E (by rfl))) .nil)))) (s_nil B)))) (s_cons B (s_ret B rfl (r_k E (by rfl))) (s_nil B))), fun h => Bool.noConfusion (show false = true from h), fun h => Bool.noConfusion (show false = true from h), fun h => Bool.noConfusion (show false = true from h)⟩
theorem ok_15 : DfOk pt d15 := ⟨⟨rfl, rfl, rfl, by decide +kernel, rfl, by decide +kernel, by decide +kernel⟩, fun _ _ _ _ _ _ us hl => match us, hl with | [_, _, _, _], _ => rfl, fun _ Y Γ k X W Ow0 fr hfr F CS M Z => by
  obtain rfl : fr = false := not_fr rfl hfr
  have E : En pt Y Γ k d15.N X W d15.scope := ⟨F, M⟩
  have B : Eb pt Y Γ k d15.N X W d15.scope Ow0 false := ⟨E, CS⟩
  show JSs X B.w d15.body (m_Season_init Γ (Γ.call 8) (Γ.call 11) 2 (Γ.call 14)); delta m_Season_init
  exact s_cons B (s_ex B rfl (r_call E 8 at_8 rfl (by kernel_rfl) (by kernel_rfl) rfl (.cons rfl (r_v E (i := 1) (by kernel_rfl)) .nil))) (s_cons B (s_ex B rfl (r_call E 11 at_11 rfl (by kernel_rfl) (by kernel_rfl) rfl (.cons rfl (r_v E (i := 2) (by kernel_rfl)) .nil))) (s_cons B (s_lcN B (i := 4) (by kernel_rfl) (by kernel_rfl) rfl (lc_ok E (rI := true) (own := [("row", 6)]) (p := .nm 6) rfl (by kernel_rfl) (by kernel_rfl) (i_of E (r_v E (i := 2) (by kernel_rfl))) (fun _ E' hfE' => p_nm E' (by kernel_rfl)) (fun _ E' => .nil) (fun _ E' => r_ix E' rfl (r_v E' (i := 6) (by kernel_rfl)) (r_k E' (by rfl))))) (s_cons B (s_if B (r_no E (r_isi E .tuple 3 (by rfl) rfl (by kernel_rfl) (by kernel_rfl) (by kernel_rfl) (by kernel_rfl) rfl (r_v E (i := 3) (by kernel_rfl)))) (s_cons B (s_raise B 2 (by rfl) (by rfl) (by rfl) (by kernel_rfl) (by kernel_rfl) rfl (r_k E (by rfl))) (s_nil B)) (s_nil B)) (s_cons B (s_nm B (i := 5) (by kernel_rfl) rfl (r_call E 14 at_14 rfl (by kernel_rfl) (by kernel_rfl) rfl (.cons rfl (r_v E (i := 3) (by kernel_rfl)) (.cons rfl (r_v E (i := 4) (by kernel_rfl)) .nil)))) (s_cons B (s_if B (r_cmp E (op := .isnot) rfl rfl (r_v E (i := 5) (by kernel_rfl)) (r_k E (by rfl))) (s_cons B (s_raise B 2 (by rfl) (by rfl) (by rfl) (by kernel_rfl) (by kernel_rfl) rfl (r_v E (i := 5) (by kernel_rfl))) (s_nil B)) (s_nil B)) (s_cons B (s_fld B 6 (by rfl) rfl (r_v E (i := 0) (by kernel_rfl)) (r_v E (i := 1) (by kernel_rfl))) (s_cons B (s_fld B 7 (by rfl) rfl (r_v E (i := 0) (by kernel_rfl)) (r_v E (i := 2) (by kernel_rfl))) (s_cons B (s_fld B 8 (by rfl) rfl (r_v E (i := 0) (by kernel_rfl)) (r_v E (i := 3) (by kernel_rfl))) (s_nil B))))))))), fun h => Bool.noConfusion (show false = true from h), fun h => Bool.noConfusion (show false = true from h), fun h => Bool.noConfusion (show false = true from h)⟩
theorem ok_16 : DfOk pt d16 := ⟨⟨rfl, rfl, rfl, by decide +kernel, rfl, by decide +kernel, by decide +kernel⟩, fun _ _ _ _ _ _ us hl => match us, hl with | [_], _ => rfl, fun _ Y Γ k X W Ow0 fr hfr F CS M Z => by
  obtain rfl : fr = false := not_fr rfl hfr
  have E : En pt Y Γ k d16.N X W d16.scope := ⟨F, M⟩
  have B : Eb pt Y Γ k d16.N X W d16.scope Ow0 false := ⟨E, CS⟩
  show JSs X B.w d16.body (m_List_points Γ); delta m_List_points
  exact s_cons B (s_ret B rfl (r_at E 6 (by rfl) rfl (r_v E (i := 0) (by kernel_rfl)))) (s_nil B), fun h => Bool.noConfusion (show false = true from h), fun h => Bool.noConfusion (show false = true from h), fun h => Bool.noConfusion (show false = true from h)⟩
theorem ok_17 : DfOk pt d17 := ⟨⟨rfl, rfl, rfl, by decide +kernel, rfl, by decide +kernel, by decide +kernel⟩, fun _ _ _ _ _ _ us hl => match us, hl with | [_], _ => rfl, fun _ Y Γ k X W Ow0 fr hfr F CS M Z => by
  obtain rfl : fr = false := not_fr rfl hfr
  have E : En pt Y Γ k d17.N X W d17.scope := ⟨F, M⟩
  have B : Eb pt Y Γ k d17.N X W d17.scope Ow0 false := ⟨E, CS⟩
  show JSs X B.w d17.body (m_List_rows Γ); delta m_List_rows
  exact s_cons B (s_ret B rfl (r_at E 7 (by rfl) rfl (r_v E (i := 0) (by kernel_rfl)))) (s_nil B), fun h => Bool.noConfusion (show false = true from h), fun h => Bool.noConfusion (show false = true from h), fun h => Bool.noConfusion (show false = true from h)⟩
theorem ok_18 : DfOk pt d18 := ⟨⟨rfl, rfl, rfl, by decide +kernel, rfl, by decide +kernel, by decide +kernel⟩, fun _ _ _ _ _ _ us hl => match us, hl with | [_], _ => rfl, fun _ Y Γ k X W Ow0 fr hfr F CS M Z => by
  obtain rfl : fr = false := not_fr rfl hfr
  have E : En pt Y Γ k d18.N X W d18.scope := ⟨F, M⟩
  have B : Eb pt Y Γ k d18.N X W d18.scope Ow0 false := ⟨E, CS⟩
  show JSs X B.w d18.body (m_Season_left Γ); delta m_Season_left
  exact s_cons B (s_ret B rfl (r_at E 8 (by rfl) rfl (r_v E (i := 0) (by kernel_rfl)))) (s_nil B), fun h => Bool.noConfusion (show false = true from h), fun h => Bool.noConfusion (show false = true from h), fun h => Bool.noConfusion (show false = true from h)⟩
theorem ok_19 : DfOk pt d19 := ⟨⟨rfl, rfl, rfl, by decide +kernel, rfl, by decide +kernel, by decide +kernel⟩, fun _ _ _ _ _ _ us hl => match us, hl with | [_], _ => rfl, fun _ Y Γ k X W Ow0 fr hfr F CS M Z => by
  obtain rfl : fr = false := not_fr rfl hfr
  have E : En pt Y Γ k d19.N X W d19.scope := ⟨F, M⟩
  have B : Eb pt Y Γ k d19.N X W d19.scope Ow0 false := ⟨E, CS⟩
  show JSs X B.w d19.body (m_List_kinds Γ); delta m_List_kinds
  exact s_cons B (s_ret B rfl (r_bi E .tuple rfl (by kernel_rfl) (by kernel_rfl) rfl (.cons rfl (r_lc E (lc_ok E (rI := true) (own := [("row", 1)]) (p := .nm 1) rfl (by kernel_rfl) (by kernel_rfl) (i_of E (r_at E 7 (by rfl) rfl (r_v E (i := 0) (by kernel_rfl)))) (fun _ E' hfE' => p_nm E' (by kernel_rfl)) (fun _ E' => .nil) (fun _ E' => r_ix E' rfl (r_v E' (i := 1) (by kernel_rfl)) (r_k E' (by rfl))))) .nil))) (s_nil B), fun h => Bool.noConfusion (show false = true from h), fun h => Bool.noConfusion (show false = true from h), fun h => Bool.noConfusion (show false = true from h)⟩
theorem ok_20 : DfOk pt d20 := ⟨⟨rfl, rfl, rfl, by decide +kernel, rfl, by decide +kernel, by decide +kernel⟩, fun _ _ _ _ _ _ us hl => match us, hl with | [_, _, _], _ => rfl, fun _ Y Γ k X W Ow0 fr hfr F CS M Z => by
  obtain rfl : fr = false := not_fr rfl hfr
  have E : En pt Y Γ k d20.N X W d20.scope := ⟨F, M⟩
  have B : Eb pt Y Γ k d20.N X W d20.scope Ow0 false := ⟨E, CS⟩
  show JSs X B.w d20.body (m_Season_meetings Γ); delta m_Season_meetings
  exact s_cons B (s_nm B (i := 3) (by kernel_rfl) rfl (r_at E 18 (by rfl) rfl (r_v E (i := 0) (by kernel_rfl)))) (s_cons B (s_nm B (i := 4) (by kernel_rfl) rfl (r_lst E (by kernel_rfl) (.cons rfl (r_tup E (by kernel_rfl) (.cons rfl (r_ix E rfl (r_v E (i := 3) (by kernel_rfl)) (r_v E (i := 1) (by kernel_rfl))) (.cons rfl (r_ix E rfl (r_v E (i := 3) (by kernel_rfl)) (r_v E (i := 2) (by kernel_rfl))) .nil))) (.cons rfl (r_tup E (by kernel_rfl) (.cons rfl (r_ix E rfl (r_v E (i := 3) (by kernel_rfl)) (r_v E (i := 2) (by kernel_rfl))) (.cons rfl (r_ix E rfl (r_v E (i := 3) (by kernel_rfl)) (r_v E (i := 1) (by kernel_rfl))) .nil))) .nil)))) (s_cons B (s_lcN B (i := 5) (by kernel_rfl) (by kernel_rfl) rfl (lc_ok E (rI := true) (own := [("kind", 6), ("other", 7), ("times", 8)]) (p := .tp [.nm 6, .nm 7, .nm 8]) rfl (by kernel_rfl) (by kernel_rfl) (i_of E (r_at E 8 (by rfl) rfl (r_v E (i := 0) (by kernel_rfl)))) (fun _ E' hfE' => p_tp E' rfl rfl (pts_cons rfl (p_nm E' (by kernel_rfl)) (pts_cons rfl (p_nm E' (by kernel_rfl)) (pts_cons rfl (p_nm E' (by kernel_rfl)) pts_nil)))) (fun _ E' => .one (r_cmp E' (op := .mem) rfl rfl (r_tup E' (by kernel_rfl) (.cons rfl (r_v E' (i := 6) (by kernel_rfl)) (.cons rfl (r_v E' (i := 7) (by kernel_rfl)) .nil))) (r_v E' (i := 4) (by kernel_rfl)))) (fun _ E' => r_v E' (i := 8) (by kernel_rfl)))) (s_cons B (s_ret B rfl (r_ifeS E (r_cmp E (op := .ne) rfl rfl (r_v E (i := 5) (by kernel_rfl)) (r_lst E (by kernel_rfl) .nil)) (r_ix E rfl (r_v E (i := 5) (by kernel_rfl)) (r_k E (by rfl))) (r_k E (by rfl)))) (s_nil B)))), fun h => Bool.noConfusion (show false = true from h), fun h => Bool.noConfusion (show false = true from h), fun h => Bool.noConfusion (show false = true from h)⟩
theorem ok_21 : DfOk pt d21 := ⟨⟨rfl, rfl, rfl, by decide +kernel, rfl, by decide +kernel, by decide +kernel⟩, fun _ _ _ _ _ _ us hl => match us, hl with | [_, _], _ => rfl, fun _ Y Γ k X W Ow0 fr hfr F CS M Z => by
  obtain rfl : fr = false := not_fr rfl hfr
  have E : En pt Y Γ k d21.N X W d21.scope := ⟨F, M⟩
  have B : Eb pt Y Γ k d21.N X W d21.scope Ow0 false := ⟨E, CS⟩
  show JSs X B.w d21.body (m_Season_within Γ 0); delta m_Season_within
  exact s_cons B (s_nm B (i := 2) (by kernel_rfl) rfl (r_k E (by rfl))) (s_cons B (s_for B rfl (i_enum E (by kernel_rfl) (by kernel_rfl) rfl (r_v E (i := 1) (by kernel_rfl))) (p_tp E rfl rfl (pts_cons rfl (p_nmB B (by kernel_rfl)) (pts_cons rfl (p_nmB B (by kernel_rfl)) pts_nil))) (s_cons B (s_aug B (op := .add) (i := 2) (by kernel_rfl) (by first | exact .inl ⟨rfl, rfl⟩ | exact .inr ⟨rfl, rfl⟩) (r_op E (op := .fdiv) rfl (r_op E (op := .mul) rfl (r_op E (op := .mul) rfl (r_me E 0 34 20 (by rfl) (by rfl) at_20 rfl (by rfl) (by rfl) (r_v E (i := 0) (by kernel_rfl)) (.cons rfl (r_v E (i := 3) (by kernel_rfl)) (.cons rfl (r_v E (i := 3) (by kernel_rfl)) .nil)) rfl) (r_v E (i := 4) (by kernel_rfl))) (r_op E (op := .sub) rfl (r_v E (i := 4) (by kernel_rfl)) (r_k E (by rfl)))) (r_k E (by rfl)))) (s_cons B (s_aug B (op := .add) (i := 2) (by kernel_rfl) (by first | exact .inl ⟨rfl, rfl⟩ | exact .inr ⟨rfl, rfl⟩) (r_bi E .sum rfl (by kernel_rfl) (by kernel_rfl) rfl (.cons rfl (r_lc E (lc_ok E (rI := true) (own := [("two", 5)]) (p := .nm 5) rfl (by kernel_rfl) (by kernel_rfl) (i_rng1 E (by kernel_rfl) (by kernel_rfl) rfl (r_v E (i := 3) (by kernel_rfl))) (fun _ E' hfE' => p_nm E' (by kernel_rfl)) (fun _ E' => .nil) (fun _ E' => r_op E' (op := .mul) rfl (r_op E' (op := .mul) rfl (r_me E' 0 34 20 (by rfl) (by rfl) at_20 rfl (by rfl) (by rfl) (r_v E' (i := 0) (by kernel_rfl)) (.cons rfl (r_v E' (i := 3) (by kernel_rfl)) (.cons rfl (r_v E' (i := 5) (by kernel_rfl)) .nil)) rfl) (r_v E' (i := 4) (by kernel_rfl))) (r_ix E' rfl (r_v E' (i := 1) (by kernel_rfl)) (r_v E' (i := 5) (by kernel_rfl)))))) .nil))) (s_nil B)))) (s_cons B (s_ret B rfl (r_op E (op := .mul) rfl (r_at E 6 (by rfl) rfl (r_v E (i := 0) (by kernel_rfl))) (r_v E (i := 2) (by kernel_rfl)))) (s_nil B))), fun h => Bool.noConfusion (show false = true from h), fun h => Bool.noConfusion (show false = true from h), fun h => Bool.noConfusion (show false = true from h)⟩
theorem ok_22 : DfOk pt d22 := ⟨⟨rfl, rfl, rfl, by decide +kernel, rfl, by decide +kernel, by decide +kernel⟩, fun _ _ _ _ _ _ us hl => match us, hl with | [_, _], _ => rfl, fun _ Y Γ k X W Ow0 fr hfr F CS M Z => by
  obtain rfl : fr = false := not_fr rfl hfr
  have E : En pt Y Γ k d22.N X W d22.scope := ⟨F, M⟩
  have B : Eb pt Y Γ k d22.N X W d22.scope Ow0 false := ⟨E, CS⟩
  show JSs X B.w d22.body (m_Season_others_of_k57 Γ); delta m_Season_others_of_k57
  exact s_cons B (s_ret B rfl (r_lc E (lc_ok E (rI := true) (own := [("place", 2), ("row", 3)]) (p := .tp [.nm 2, .nm 3]) rfl (by kernel_rfl) (by kernel_rfl) (i_enum E (by kernel_rfl) (by kernel_rfl) rfl (r_at E 7 (by rfl) rfl (r_v E (i := 0) (by kernel_rfl)))) (fun _ E' hfE' => p_tp E' rfl rfl (pts_cons rfl (p_nm E' (by kernel_rfl)) (pts_cons rfl (p_nm E' (by kernel_rfl)) pts_nil))) (fun _ E' => .nil) (fun _ E' => r_op E' (op := .sub) rfl (r_ix E' rfl (r_v E' (i := 3) (by kernel_rfl)) (r_k E' (by rfl))) (r_bi E' .int rfl (by kernel_rfl) (by kernel_rfl) rfl (.cons rfl (r_cmp E' (op := .eq) rfl rfl (r_v E' (i := 2) (by kernel_rfl)) (r_v E' (i := 1) (by kernel_rfl))) .nil)))))) (s_nil B), fun h => Bool.noConfusion (show false = true from h), fun h => Bool.noConfusion (show false = true from h), fun h => Bool.noConfusion (show false = true from h)⟩
theorem ok_23 : DfOk pt d23 := ⟨⟨rfl, rfl, rfl, by decide +kernel, rfl, by decide +kernel, by decide +kernel⟩, fun _ _ _ _ _ _ us hl => match us, hl with | [_, _], _ => rfl, fun _ Y Γ k X W Ow0 fr hfr F CS M Z => by
  obtain rfl : fr = false := not_fr rfl hfr
  have E : En pt Y Γ k d23.N X W d23.scope := ⟨F, M⟩
  have B : Eb pt Y Γ k d23.N X W d23.scope Ow0 false := ⟨E, CS⟩
  show JSs X B.w d23.body (m_Season_best_of_k57 Γ 0); delta m_Season_best_of_k57
  exact s_cons B (s_nm B (i := 2) (by kernel_rfl) rfl (r_bi E .sum rfl (by kernel_rfl) (by kernel_rfl) rfl (.cons rfl (r_lc E (lc_ok E (rI := true) (own := [("to", 3), ("number", 4)]) (p := .tp [.nm 3, .nm 4]) rfl (by kernel_rfl) (by kernel_rfl) (i_enum E (by kernel_rfl) (by kernel_rfl) rfl (r_me E 0 36 22 (by rfl) (by rfl) at_22 rfl (by rfl) (by rfl) (r_v E (i := 0) (by kernel_rfl)) (.cons rfl (r_v E (i := 1) (by kernel_rfl)) .nil) rfl)) (fun _ E' hfE' => p_tp E' rfl rfl (pts_cons rfl (p_nm E' (by kernel_rfl)) (pts_cons rfl (p_nm E' (by kernel_rfl)) pts_nil))) (fun _ E' => .nil) (fun _ E' => r_op E' (op := .mul) rfl (r_me E' 0 34 20 (by rfl) (by rfl) at_20 rfl (by rfl) (by rfl) (r_v E' (i := 0) (by kernel_rfl)) (.cons rfl (r_v E' (i := 1) (by kernel_rfl)) (.cons rfl (r_v E' (i := 3) (by kernel_rfl)) .nil)) rfl) (r_v E' (i := 4) (by kernel_rfl))))) .nil))) (s_cons B (s_ret B rfl (r_op E (op := .add) rfl (r_ix E rfl (r_ix E rfl (r_at E 7 (by rfl) rfl (r_v E (i := 0) (by kernel_rfl))) (r_v E (i := 1) (by kernel_rfl))) (r_k E (by rfl))) (r_op E (op := .mul) rfl (r_at E 6 (by rfl) rfl (r_v E (i := 0) (by kernel_rfl))) (r_v E (i := 2) (by kernel_rfl))))) (s_nil B)), fun h => Bool.noConfusion (show false = true from h), fun h => Bool.noConfusion (show false = true from h), fun h => Bool.noConfusion (show false = true from h)⟩
theorem ok_24 : DfOk pt d24 := ⟨⟨rfl, rfl, rfl, by decide +kernel, rfl, by decide +kernel, by decide +kernel⟩, fun _ _ _ _ _ _ us hl => match us, hl with | [_, _], _ => rfl, fun _ Y Γ k X W Ow0 fr hfr F CS M Z => by
  obtain rfl : fr = false := not_fr rfl hfr
  have E : En pt Y Γ k d24.N X W d24.scope := ⟨F, M⟩
  have B : Eb pt Y Γ k d24.N X W d24.scope Ow0 false := ⟨E, CS⟩
  show JSs X B.w d24.body (m_Season_others_of Γ (Γ.call 0)); delta m_Season_others_of
  exact s_cons B (s_ex B rfl (r_call E 0 at_0 rfl (by kernel_rfl) (by kernel_rfl) rfl (.cons rfl (r_k E (by rfl)) .nil))) (s_nil B), fun h => Bool.noConfusion (show false = true from h), fun h => Bool.noConfusion (show false = true from h), fun h => Bool.noConfusion (show false = true from h)⟩
theorem ok_25 : DfOk pt d25 := ⟨⟨rfl, rfl, rfl, by decide +kernel, rfl, by decide +kernel, by decide +kernel⟩, fun _ _ _ _ _ _ us hl => match us, hl with | [_, _], _ => rfl, fun _ Y Γ k X W Ow0 fr hfr F CS M Z => by
  obtain rfl : fr = false := not_fr rfl hfr
  have E : En pt Y Γ k d25.N X W d25.scope := ⟨F, M⟩
  have B : Eb pt Y Γ k d25.N X W d25.scope Ow0 false := ⟨E, CS⟩
  show JSs X B.w d25.body (m_Season_best_of Γ (Γ.call 0)); delta m_Season_best_of
  exact s_cons B (s_ex B rfl (r_call E 0 at_0 rfl (by kernel_rfl) (by kernel_rfl) rfl (.cons rfl (r_k E (by rfl)) .nil))) (s_nil B), fun h => Bool.noConfusion (show false = true from h), fun h => Bool.noConfusion (show false = true from h), fun h => Bool.noConfusion (show false = true from h)⟩
theorem ok_26 : DfOk pt d26 := ⟨⟨rfl, rfl, rfl, by decide +kernel, rfl, by decide +kernel, by decide +kernel⟩, fun _ _ _ _ _ _ us hl => match us, hl with | [_, _], _ => rfl, fun _ Y Γ k X W Ow0 fr hfr F CS M Z => by
  obtain rfl : fr = false := not_fr rfl hfr
  have E : En pt Y Γ k d26.N X W d26.scope := ⟨F, M⟩
  have B : Eb pt Y Γ k d26.N X W d26.scope Ow0 false := ⟨E, CS⟩
  show JSs X B.w d26.body (m_Season_row_of_k57 Γ (Γ.call 12)); delta m_Season_row_of_k57
  exact s_cons B (s_ex B rfl (r_call E 12 at_12 rfl (by kernel_rfl) (by kernel_rfl) rfl (.cons rfl (r_at E 18 (by rfl) rfl (r_v E (i := 0) (by kernel_rfl))) (.cons rfl (r_v E (i := 1) (by kernel_rfl)) .nil)))) (s_cons B (s_ret B rfl (r_tindex E rfl rfl rfl (r_at E 18 (by rfl) rfl (r_v E (i := 0) (by kernel_rfl))) (r_v E (i := 1) (by kernel_rfl)))) (s_nil B)), fun h => Bool.noConfusion (show false = true from h), fun h => Bool.noConfusion (show false = true from h), fun h => Bool.noConfusion (show false = true from h)⟩
theorem ok_27 : DfOk pt d27 := ⟨⟨rfl, rfl, rfl, by decide +kernel, rfl, by decide +kernel, by decide +kernel⟩, fun _ _ _ _ _ _ us hl => match us, hl with | [_, _], _ => rfl, fun _ Y Γ k X W Ow0 fr hfr F CS M Z => by
  obtain rfl : fr = false := not_fr rfl hfr
  have E : En pt Y Γ k d27.N X W d27.scope := ⟨F, M⟩
  have B : Eb pt Y Γ k d27.N X W d27.scope Ow0 false := ⟨E, CS⟩
  show JSs X B.w d27.body (m_Season_best_k57 Γ 0); delta m_Season_best_k57
  exact s_cons B (s_ret B rfl (r_me E 0 37 23 (by rfl) (by rfl) at_23 rfl (by rfl) (by rfl) (r_v E (i := 0) (by kernel_rfl)) (.cons rfl (r_me E 0 40 26 (by rfl) (by rfl) at_26 rfl (by rfl) (by rfl) (r_v E (i := 0) (by kernel_rfl)) (.cons rfl (r_v E (i := 1) (by kernel_rfl)) .nil) rfl) .nil) rfl)) (s_nil B), fun h => Bool.noConfusion (show false = true from h), fun h => Bool.noConfusion (show false = true from h), fun h => Bool.noConfusion (show false = true from h)⟩
theorem ok_28 : DfOk pt d28 := ⟨⟨rfl, rfl, rfl, by decide +kernel, rfl, by decide +kernel, by decide +kernel⟩, fun _ _ _ _ _ _ us hl => match us, hl with | [_, _], _ => rfl, fun _ Y Γ k X W Ow0 fr hfr F CS M Z => by
  obtain rfl : fr = false := not_fr rfl hfr
  have E : En pt Y Γ k d28.N X W d28.scope := ⟨F, M⟩
  have B : Eb pt Y Γ k d28.N X W d28.scope Ow0 false := ⟨E, CS⟩
  show JSs X B.w d28.body (m_Season_is_first Γ (Γ.call 0)); delta m_Season_is_first
  exact s_cons B (s_ex B rfl (r_call E 0 at_0 rfl (by kernel_rfl) (by kernel_rfl) rfl (.cons rfl (r_k E (by rfl)) .nil))) (s_nil B), fun h => Bool.noConfusion (show false = true from h), fun h => Bool.noConfusion (show false = true from h), fun h => Bool.noConfusion (show false = true from h)⟩
theorem ok_29 : DfOk pt d29 := ⟨⟨rfl, rfl, rfl, by decide +kernel, rfl, by decide +kernel, by decide +kernel⟩, fun _ _ _ _ _ _ us hl => match us, hl with | [_, _], _ => rfl, fun _ Y Γ k X W Ow0 fr hfr F CS M Z => by
  obtain rfl : fr = false := not_fr rfl hfr
  have E : En pt Y Γ k d29.N X W d29.scope := ⟨F, M⟩
  have B : Eb pt Y Γ k d29.N X W d29.scope Ow0 false := ⟨E, CS⟩
  show JSs X B.w d29.body (m_Season_is_last Γ (Γ.call 0)); delta m_Season_is_last
  exact s_cons B (s_ex B rfl (r_call E 0 at_0 rfl (by kernel_rfl) (by kernel_rfl) rfl (.cons rfl (r_k E (by rfl)) .nil))) (s_nil B), fun h => Bool.noConfusion (show false = true from h), fun h => Bool.noConfusion (show false = true from h), fun h => Bool.noConfusion (show false = true from h)⟩
theorem ok_30 : DfOk pt d30 := ⟨⟨rfl, rfl, rfl, by decide +kernel, rfl, by decide +kernel, by decide +kernel⟩, fun _ _ _ _ _ _ us hl => match us, hl with | [_], _ => rfl, fun _ Y Γ k X W Ow0 fr hfr F CS M Z => by
  obtain rfl : fr = false := not_fr rfl hfr
  have E : En pt Y Γ k d30.N X W d30.scope := ⟨F, M⟩
  have B : Eb pt Y Γ k d30.N X W d30.scope Ow0 false := ⟨E, CS⟩
  show JSs X B.w d30.body (m_Season_row_of Γ (Γ.call 0)); delta m_Season_row_of
  exact s_cons B (s_ex B rfl (r_call E 0 at_0 rfl (by kernel_rfl) (by kernel_rfl) rfl (.cons rfl (r_k E (by rfl)) .nil))) (s_nil B), fun h => Bool.noConfusion (show false = true from h), fun h => Bool.noConfusion (show false = true from h), fun h => Bool.noConfusion (show false = true from h)⟩
theorem ok_31 : DfOk pt d31 := ⟨⟨rfl, rfl, rfl, by decide +kernel, rfl, by decide +kernel, by decide +kernel⟩, fun _ _ _ _ _ _ us hl => match us, hl with | [_], _ => rfl, fun _ Y Γ k X W Ow0 fr hfr F CS M Z => by
  obtain rfl : fr = false := not_fr rfl hfr
  have E : En pt Y Γ k d31.N X W d31.scope := ⟨F, M⟩
  have B : Eb pt Y Γ k d31.N X W d31.scope Ow0 false := ⟨E, CS⟩
  show JSs X B.w d31.body (m_Season_best Γ (Γ.call 0)); delta m_Season_best
  exact s_cons B (s_ex B rfl (r_call E 0 at_0 rfl (by kernel_rfl) (by kernel_rfl) rfl (.cons rfl (r_k E (by rfl)) .nil))) (s_nil B), fun h => Bool.noConfusion (show false = true from h), fun h => Bool.noConfusion (show false = true from h), fun h => Bool.noConfusion (show false = true from h)⟩
theorem ok_32 : DfOk pt d32 := ⟨⟨rfl, rfl, rfl, by decide +kernel, rfl, by decide +kernel, by decide +kernel⟩, fun _ _ _ _ _ _ us hl => match us, hl with | [_, _], _ => rfl, fun _ Y Γ k X W Ow0 fr hfr F CS M Z => by
  obtain rfl : fr = false := not_fr rfl hfr
  have E : En pt Y Γ k d32.N X W d32.scope := ⟨F, M⟩
  have B : Eb pt Y Γ k d32.N X W d32.scope Ow0 false := ⟨E, CS⟩
  show JSs X B.w d32.body (m_spring Γ); delta m_spring
  exact s_cons B (s_nm B (i := 2) (by kernel_rfl) rfl (r_ifeS E (r_cmp E (op := .lt) rfl rfl (r_v E (i := 1) (by kernel_rfl)) (r_bi E .len rfl (by kernel_rfl) (by kernel_rfl) rfl (.cons rfl (r_v E (i := 0) (by kernel_rfl)) .nil))) (r_bi E .int rfl (by kernel_rfl) (by kernel_rfl) rfl (.cons rfl (r_ix E rfl (r_v E (i := 0) (by kernel_rfl)) (r_v E (i := 1) (by kernel_rfl))) .nil)) (r_k E (by rfl)))) (s_cons B (s_nm B (i := 3) (by kernel_rfl) rfl (r_op E (op := .add) rfl (r_k E (by rfl)) (r_op E (op := .mul) rfl (r_k E (by rfl)) (r_v E (i := 1) (by kernel_rfl))))) (s_cons B (s_for B rfl (i_of E (r_sl E (r_v E (i := 0) (by kernel_rfl)) .none (.some (r_k E (by rfl))))) (p_nmB B (by kernel_rfl)) (s_cons B (s_nm B (i := 3) (by kernel_rfl) rfl (r_op E (op := .mod) rfl (r_bi E .int rfl (by kernel_rfl) (by kernel_rfl) rfl (.cons rfl (r_op E (op := .add) rfl (r_op E (op := .add) rfl (r_op E (op := .mul) rfl (r_v E (i := 3) (by kernel_rfl)) (r_k E (by rfl))) (r_op E (op := .mod) rfl (r_bi E .int rfl (by kernel_rfl) (by kernel_rfl) rfl (.cons rfl (r_v E (i := 4) (by kernel_rfl)) .nil)) (r_k E (by rfl)))) (r_k E (by rfl))) .nil)) (r_k E (by rfl)))) (s_nil B))) (s_cons B (s_nm B (i := 3) (by kernel_rfl) rfl (r_op E (op := .mod) rfl (r_bi E .int rfl (by kernel_rfl) (by kernel_rfl) rfl (.cons rfl (r_op E (op := .add) rfl (r_op E (op := .add) rfl (r_op E (op := .mul) rfl (r_v E (i := 3) (by kernel_rfl)) (r_k E (by rfl))) (r_op E (op := .mod) rfl (r_bi E .int rfl (by kernel_rfl) (by kernel_rfl) rfl (.cons rfl (r_v E (i := 2) (by kernel_rfl)) .nil)) (r_k E (by rfl)))) (r_k E (by rfl))) .nil)) (r_k E (by rfl)))) (s_cons B (s_ret B rfl (r_new E (.cons rfl (r_v E (i := 3) (by kernel_rfl)) (.cons rfl (r_ifeS E (r_cmp E (op := .ge) rfl rfl (r_bi E .abs rfl (by kernel_rfl) (by kernel_rfl) rfl (.cons rfl (r_v E (i := 2) (by kernel_rfl)) .nil)) (r_op E (op := .pow) rfl (r_k E (by rfl)) (r_k E (by rfl)))) (r_bi E .abs rfl (by kernel_rfl) (by kernel_rfl) rfl (.cons rfl (r_v E (i := 2) (by kernel_rfl)) .nil)) (r_k E (by rfl))) (.cons rfl (r_k E (by rfl)) .nil))))) (s_nil B))))), fun h => Bool.noConfusion (show false = true from h), fun h => Bool.noConfusion (show false = true from h), fun h => Bool.noConfusion (show false = true from h)⟩
theorem ok_33 : DfOk pt d33 := ⟨⟨rfl, rfl, rfl, by decide +kernel, rfl, by decide +kernel, by decide +kernel⟩, fun _ _ _ _ _ _ us hl => match us, hl with | [_, _], _ => rfl, fun _ Y Γ k X W Ow0 fr hfr F CS M Z => by
  obtain rfl : fr = false := not_fr rfl hfr
  have E : En pt Y Γ k d33.N X W d33.scope := ⟨F, M⟩
  have B : Eb pt Y Γ k d33.N X W d33.scope Ow0 false := ⟨E, CS⟩
  show JSs X B.w d33.body (m_draw Γ); delta m_draw
  exact s_cons B (s_if B (r_cmp E (op := .gt) rfl rfl (r_ix E rfl (r_v E (i := 0) (by kernel_rfl)) (r_k E (by rfl))) (r_k E (by rfl))) (s_cons B (s_unp B rfl rfl (r_bi E .divmod rfl (by kernel_rfl) (by kernel_rfl) rfl (.cons rfl (r_ix E rfl (r_v E (i := 0) (by kernel_rfl)) (r_k E (by rfl))) (.cons rfl (r_v E (i := 1) (by kernel_rfl)) .nil))) (.cons rfl (t_sub B rfl (r_v E (i := 0) (by kernel_rfl)) (r_k E (by rfl))) (.cons rfl (t_nm B (i := 2) (by kernel_rfl)) .nil))) (s_cons B (s_ret B rfl (r_v E (i := 2) (by kernel_rfl))) (s_nil B))) (s_nil B)) (s_cons B (s_tg B rfl (.inl rfl) rfl (r_op E (op := .add) rfl (r_ix E rfl (r_v E (i := 0) (by kernel_rfl)) (r_k E (by rfl))) (r_k E (by rfl))) (t_sub B rfl (r_v E (i := 0) (by kernel_rfl)) (r_k E (by rfl)))) (s_cons B (s_tg B rfl (.inl rfl) rfl (r_op E (op := .mod) rfl (r_bi E .int rfl (by kernel_rfl) (by kernel_rfl) rfl (.cons rfl (r_op E (op := .add) rfl (r_op E (op := .add) rfl (r_op E (op := .mul) rfl (r_ix E rfl (r_v E (i := 0) (by kernel_rfl)) (r_k E (by rfl))) (r_k E (by rfl))) (r_op E (op := .mul) rfl (r_op E (op := .mul) rfl (r_ix E rfl (r_v E (i := 0) (by kernel_rfl)) (r_k E (by rfl))) (r_ix E rfl (r_v E (i := 0) (by kernel_rfl)) (r_k E (by rfl)))) (r_k E (by rfl)))) (r_k E (by rfl))) .nil)) (r_k E (by rfl))) (t_sub B rfl (r_v E (i := 0) (by kernel_rfl)) (r_k E (by rfl)))) (s_cons B (s_ret B rfl (r_op E (op := .mod) rfl (r_bi E .int rfl (by kernel_rfl) (by kernel_rfl) rfl (.cons rfl (r_op E (op := .fdiv) rfl (r_ix E rfl (r_v E (i := 0) (by kernel_rfl)) (r_k E (by rfl))) (r_k E (by rfl))) .nil)) (r_v E (i := 1) (by kernel_rfl)))) (s_nil B)))), fun h => Bool.noConfusion (show false = true from h), fun h => Bool.noConfusion (show false = true from h), fun h => Bool.noConfusion (show false = true from h)⟩
theorem ok_34 : DfOk pt d34 := ⟨⟨rfl, rfl, rfl, by decide +kernel, rfl, by decide +kernel, by decide +kernel⟩, fun _ _ _ _ _ _ us hl => match us, hl with | [_], _ => rfl, fun _ Y Γ k X W Ow0 fr hfr F CS M Z => by
  obtain rfl : fr = false := not_fr rfl hfr
  have E : En pt Y Γ k d34.N X W d34.scope := ⟨F, M⟩
  have B : Eb pt Y Γ k d34.N X W d34.scope Ow0 false := ⟨E, CS⟩
  show JSs X B.w d34.body (m_great_k57 Γ (Γ.call 33)); delta m_great_k57
  exact s_cons B (s_nm B (i := 1) (by kernel_rfl) rfl (r_k E (by rfl))) (s_cons B (s_for B rfl (i_rng1 E (by kernel_rfl) (by kernel_rfl) rfl (r_k E (by rfl))) (p_nmB B (by kernel_rfl)) (s_cons B (s_nm B (i := 1) (by kernel_rfl) rfl (r_op E (op := .add) rfl (r_op E (op := .mul) rfl (r_v E (i := 1) (by kernel_rfl)) (r_op E (op := .pow) rfl (r_k E (by rfl)) (r_k E (by rfl)))) (r_call E 33 at_33 rfl (by kernel_rfl) (by kernel_rfl) rfl (.cons rfl (r_v E (i := 0) (by kernel_rfl)) (.cons rfl (r_op E (op := .pow) rfl (r_k E (by rfl)) (r_k E (by rfl))) .nil))))) (s_nil B))) (s_cons B (s_ret B rfl (r_v E (i := 1) (by kernel_rfl))) (s_nil B))), fun h => Bool.noConfusion (show false = true from h), fun h => Bool.noConfusion (show false = true from h), fun h => Bool.noConfusion (show false = true from h)⟩
theorem ok_35 : DfOk pt d35 := ⟨⟨rfl, rfl, rfl, by decide +kernel, rfl, by decide +kernel, by decide +kernel⟩, fun _ _ _ _ _ _ us hl => match us, hl with | [_], _ => rfl, fun _ Y Γ k X W Ow0 fr hfr F CS M Z => by
  obtain rfl : fr = false := not_fr rfl hfr
  have E : En pt Y Γ k d35.N X W d35.scope := ⟨F, M⟩
  have B : Eb pt Y Γ k d35.N X W d35.scope Ow0 false := ⟨E, CS⟩
  show JSs X B.w d35.body (m_number_k57 Γ (Γ.call 33) (Γ.call 34)); delta m_number_k57
  exact s_cons B (s_nm B (i := 1) (by kernel_rfl) rfl (r_call E 33 at_33 rfl (by kernel_rfl) (by kernel_rfl) rfl (.cons rfl (r_v E (i := 0) (by kernel_rfl)) (.cons rfl (r_k E (by rfl)) .nil)))) (s_cons B (s_if B (r_cmp E (op := .lt) rfl rfl (r_v E (i := 1) (by kernel_rfl)) (r_k E (by rfl))) (s_cons B (s_ret B rfl (r_op E (op := .add) rfl (r_k E (by rfl)) (r_call E 33 at_33 rfl (by kernel_rfl) (by kernel_rfl) rfl (.cons rfl (r_v E (i := 0) (by kernel_rfl)) (.cons rfl (r_k E (by rfl)) .nil))))) (s_nil B)) (s_nil B)) (s_cons B (s_if B (r_cmp E (op := .eq) rfl rfl (r_v E (i := 1) (by kernel_rfl)) (r_k E (by rfl))) (s_cons B (s_ret B rfl (r_op E (op := .add) rfl (r_k E (by rfl)) (r_call E 33 at_33 rfl (by kernel_rfl) (by kernel_rfl) rfl (.cons rfl (r_v E (i := 0) (by kernel_rfl)) (.cons rfl (r_k E (by rfl)) .nil))))) (s_nil B)) (s_nil B)) (s_cons B (s_ret B rfl (r_ifeS E (r_cmp E (op := .eq) rfl rfl (r_v E (i := 1) (by kernel_rfl)) (r_k E (by rfl))) (r_op E (op := .add) rfl (r_k E (by rfl)) (r_call E 34 at_34 rfl (by kernel_rfl) (by kernel_rfl) rfl (.cons rfl (r_v E (i := 0) (by kernel_rfl)) .nil))) (r_op E (op := .sub) rfl (r_op E (op := .pow) rfl (r_k E (by rfl)) (r_k E (by rfl))) (r_call E 33 at_33 rfl (by kernel_rfl) (by kernel_rfl) rfl (.cons rfl (r_v E (i := 0) (by kernel_rfl)) (.cons rfl (r_k E (by rfl)) .nil)))))) (s_nil B)))), fun h => Bool.noConfusion (show false = true from h), fun h => Bool.noConfusion (show false = true from h), fun h => Bool.noConfusion (show false = true from h)⟩
theorem ok_36 : DfOk pt d36 := ⟨⟨rfl, rfl, rfl, by decide +kernel, rfl, by decide +kernel, by decide +kernel⟩, fun _ _ _ _ _ _ us hl => match us, hl with | [_], _ => rfl, fun _ Y Γ k X W Ow0 fr hfr F CS M Z => by
  obtain rfl : fr = false := not_fr rfl hfr
  have E : En pt Y Γ k d36.N X W d36.scope := ⟨F, M⟩
  have B : Eb pt Y Γ k d36.N X W d36.scope Ow0 false := ⟨E, CS⟩
  show JSs X B.w d36.body (m_so_far Γ (Γ.call 33) (Γ.call 34)); delta m_so_far
  exact s_cons B (s_nm B (i := 1) (by kernel_rfl) rfl (r_call E 33 at_33 rfl (by kernel_rfl) (by kernel_rfl) rfl (.cons rfl (r_v E (i := 0) (by kernel_rfl)) (.cons rfl (r_k E (by rfl)) .nil)))) (s_cons B (s_if B (r_cmp E (op := .lt) rfl rfl (r_v E (i := 1) (by kernel_rfl)) (r_k E (by rfl))) (s_cons B (s_ret B rfl (r_call E 33 at_33 rfl (by kernel_rfl) (by kernel_rfl) rfl (.cons rfl (r_v E (i := 0) (by kernel_rfl)) (.cons rfl (r_k E (by rfl)) .nil)))) (s_nil B)) (s_nil B)) (s_cons B (s_ret B rfl (r_ifeS E (r_cmp E (op := .eq) rfl rfl (r_v E (i := 1) (by kernel_rfl)) (r_k E (by rfl))) (r_call E 33 at_33 rfl (by kernel_rfl) (by kernel_rfl) rfl (.cons rfl (r_v E (i := 0) (by kernel_rfl)) (.cons rfl (r_op E (op := .pow) rfl (r_k E (by rfl)) (r_k E (by rfl))) .nil))) (r_op E (op := .add) rfl (r_op E (op := .mul) rfl (r_k E (by rfl)) (r_call E 34 at_34 rfl (by kernel_rfl) (by kernel_rfl) rfl (.cons rfl (r_v E (i := 0) (by kernel_rfl)) .nil))) (r_call E 33 at_33 rfl (by kernel_rfl) (by kernel_rfl) rfl (.cons rfl (r_v E (i := 0) (by kernel_rfl)) (.cons rfl (r_k E (by rfl)) .nil)))))) (s_nil B))), fun h => Bool.noConfusion (show false = true from h), fun h => Bool.noConfusion (show false = true from h), fun h => Bool.noConfusion (show false = true from h)⟩
theorem ok_37 : DfOk pt d37 := ⟨⟨rfl, rfl, rfl, by decide +kernel, rfl, by decide +kernel, by decide +kernel⟩, fun _ _ _ _ _ _ us hl => match us, hl with | [_, _], _ => rfl, fun _ Y Γ k X W Ow0 fr hfr F CS M Z => by
  obtain rfl : fr = false := not_fr rfl hfr
  have E : En pt Y Γ k d37.N X W d37.scope := ⟨F, M⟩
  have B : Eb pt Y Γ k d37.N X W d37.scope Ow0 false := ⟨E, CS⟩
  show JSs X B.w d37.body (m_named Γ (Γ.call 33)); delta m_named
  exact s_cons B (s_parN B (ts := [(false, 3), (false, 4)]) (by kernel_rfl) (by kernel_rfl) (.cons (B.nml (i := 3) (by kernel_rfl)) (.cons (B.nml (i := 4) (by kernel_rfl)) .nil)) (.val rfl (r_k E (by kernel_rfl)) (.val rfl (r_k E (by kernel_rfl)) .nil))) (s_cons B (s_parN B (ts := [(false, 5), (true, 6)]) (by kernel_rfl) (by kernel_rfl) (.cons (B.nml (i := 5) (by kernel_rfl)) (.cons (B.nml (i := 6) (by kernel_rfl)) .nil)) (.val rfl (r_lst E (by kernel_rfl) (.cons rfl (r_k E (by kernel_rfl)) (.cons rfl (r_k E (by kernel_rfl)) (.cons rfl (r_k E (by kernel_rfl)) (.cons rfl (r_k E (by kernel_rfl)) (.cons rfl (r_k E (by kernel_rfl)) (.cons rfl (r_k E (by kernel_rfl)) (.cons rfl (r_k E (by kernel_rfl)) (.cons rfl (r_k E (by kernel_rfl)) .nil))))))))) (.own rfl (f_lst E (by kernel_rfl) .nil) lst_sh .nil))) (s_cons B (s_for B rfl (i_rng1 E (by kernel_rfl) (by kernel_rfl) rfl (r_v E (i := 1) (by kernel_rfl))) (p_nmB B (by kernel_rfl)) (s_cons B (s_nm B (i := 7) (by kernel_rfl) rfl (r_ix E rfl (r_v E (i := 3) (by kernel_rfl)) (r_call E 33 at_33 rfl (by kernel_rfl) (by kernel_rfl) rfl (.cons rfl (r_v E (i := 0) (by kernel_rfl)) (.cons rfl (r_k E (by rfl)) .nil))))) (s_cons B (s_for B rfl (i_rng1 E (by kernel_rfl) (by kernel_rfl) rfl (r_ifeS E (r_cmp E (op := .eq) rfl rfl (r_call E 33 at_33 rfl (by kernel_rfl) (by kernel_rfl) rfl (.cons rfl (r_v E (i := 0) (by kernel_rfl)) (.cons rfl (r_k E (by rfl)) .nil))) (r_k E (by rfl))) (r_call E 33 at_33 rfl (by kernel_rfl) (by kernel_rfl) rfl (.cons rfl (r_v E (i := 0) (by kernel_rfl)) (.cons rfl (r_k E (by rfl)) .nil))) (r_call E 33 at_33 rfl (by kernel_rfl) (by kernel_rfl) rfl (.cons rfl (r_v E (i := 0) (by kernel_rfl)) (.cons rfl (r_k E (by rfl)) .nil))))) (p_nmB B (by kernel_rfl)) (s_cons B (s_nm B (i := 7) (by kernel_rfl) rfl (r_op E (op := .add) rfl (r_v E (i := 7) (by kernel_rfl)) (r_ix E rfl (r_v E (i := 4) (by kernel_rfl)) (r_call E 33 at_33 rfl (by kernel_rfl) (by kernel_rfl) rfl (.cons rfl (r_v E (i := 0) (by kernel_rfl)) (.cons rfl (r_k E (by rfl)) .nil)))))) (s_nil B))) (s_cons B (s_if B (r_cmp E (op := .eq) rfl rfl (r_call E 33 at_33 rfl (by kernel_rfl) (by kernel_rfl) rfl (.cons rfl (r_v E (i := 0) (by kernel_rfl)) (.cons rfl (r_k E (by rfl)) .nil))) (r_k E (by rfl))) (s_cons B (s_nm B (i := 7) (by kernel_rfl) rfl (r_ix E rfl (r_v E (i := 5) (by kernel_rfl)) (r_call E 33 at_33 rfl (by kernel_rfl) (by kernel_rfl) rfl (.cons rfl (r_v E (i := 0) (by kernel_rfl)) (.cons rfl (r_k E (by rfl)) .nil))))) (s_nil B)) (s_nil B)) (s_cons B (s_nm B (i := 9) (by kernel_rfl) rfl (r_op E (op := .add) rfl (r_lst E (by kernel_rfl) (.cons rfl (r_v E (i := 7) (by kernel_rfl)) .nil)) (r_lc E (lc_ok E (rI := true) (own := [("_law_k", 10)]) (p := .nm 10) rfl (by kernel_rfl) (by kernel_rfl) (i_rng1 E (by kernel_rfl) (by kernel_rfl) rfl (r_v E (i := 1) (by kernel_rfl))) (fun _ E' hfE' => p_nm E' (by kernel_rfl)) (fun _ E' => .nil) (fun _ E' => r_op E' (op := .add) rfl (r_k E' (by kernel_rfl)) (r_bi E' .str rfl (by kernel_rfl) (by kernel_rfl) rfl (.cons rfl (r_v E' (i := 10) (by kernel_rfl)) .nil))))))) (s_cons B (s_app B (i := 6) (by kernel_rfl) rfl rfl (r_ix E rfl (r_lc E (lc_ok E (rI := true) (own := [("_law_each", 11)]) (p := .nm 11) rfl (by kernel_rfl) (by kernel_rfl) (i_of E (r_v E (i := 9) (by kernel_rfl))) (fun _ E' hfE' => p_nm E' (by kernel_rfl)) (fun _ E' => .one (r_cmp E' (op := .nmem) rfl rfl (r_v E' (i := 11) (by kernel_rfl)) (r_pk E' (i := 6) (by kernel_rfl)))) (fun _ E' => r_v E' (i := 11) (by kernel_rfl)))) (r_k E (by rfl)))) (s_nil B))))))) (s_frzs B 6 (s_cons B (s_ret B rfl (r_v E (i := 6) (by kernel_rfl))) (s_nil B))))), fun h => Bool.noConfusion (show false = true from h), fun h => Bool.noConfusion (show false = true from h), fun h => Bool.noConfusion (show false = true from h)⟩
theorem ok_38 : DfOk pt d38 := ⟨⟨rfl, rfl, rfl, by decide +kernel, rfl, by decide +kernel, by decide +kernel⟩, fun _ _ _ _ _ _ us hl => match us, hl with | [_, _], _ => rfl, fun _ Y Γ k X W Ow0 fr hfr F CS M Z => by
  obtain rfl : fr = false := not_fr rfl hfr
  have E : En pt Y Γ k d38.N X W d38.scope := ⟨F, M⟩
  have B : Eb pt Y Γ k d38.N X W d38.scope Ow0 false := ⟨E, CS⟩
  show JSs X B.w d38.body (m_left Γ (Γ.call 33)); delta m_left
  exact s_cons B (s_nm B (i := 2) (by kernel_rfl) rfl (r_lst E (by kernel_rfl) .nil)) (s_cons B (s_for B rfl (i_rng1 E (by kernel_rfl) (by kernel_rfl) rfl (r_bi E .len rfl (by kernel_rfl) (by kernel_rfl) rfl (.cons rfl (r_v E (i := 1) (by kernel_rfl)) .nil))) (p_nmB B (by kernel_rfl)) (s_cons B (s_for B rfl (i_rng1 E (by kernel_rfl) (by kernel_rfl) rfl (r_op E (op := .add) rfl (r_v E (i := 3) (by kernel_rfl)) (r_k E (by rfl)))) (p_nmB B (by kernel_rfl)) (s_cons B (s_if B (r_cmp E (op := .eq) rfl rfl (r_call E 33 at_33 rfl (by kernel_rfl) (by kernel_rfl) rfl (.cons rfl (r_v E (i := 0) (by kernel_rfl)) (.cons rfl (r_k E (by rfl)) .nil))) (r_k E (by rfl))) (s_cons B (s_nm B (i := 5) (by kernel_rfl) rfl (r_ifeS E (r_cmp E (op := .eq) rfl rfl (r_call E 33 at_33 rfl (by kernel_rfl) (by kernel_rfl) rfl (.cons rfl (r_v E (i := 0) (by kernel_rfl)) (.cons rfl (r_k E (by rfl)) .nil))) (r_k E (by rfl))) (r_tup E (by kernel_rfl) (.cons rfl (r_ix E rfl (r_v E (i := 1) (by kernel_rfl)) (r_v E (i := 3) (by kernel_rfl))) (.cons rfl (r_ix E rfl (r_v E (i := 1) (by kernel_rfl)) (r_v E (i := 4) (by kernel_rfl))) .nil))) (r_tup E (by kernel_rfl) (.cons rfl (r_ix E rfl (r_v E (i := 1) (by kernel_rfl)) (r_v E (i := 4) (by kernel_rfl))) (.cons rfl (r_ix E rfl (r_v E (i := 1) (by kernel_rfl)) (r_v E (i := 3) (by kernel_rfl))) .nil))))) (s_cons B (s_nm B (i := 6) (by kernel_rfl) rfl (r_call E 33 at_33 rfl (by kernel_rfl) (by kernel_rfl) rfl (.cons rfl (r_v E (i := 0) (by kernel_rfl)) (.cons rfl (r_op E (op := .add) rfl (r_bi E .len rfl (by kernel_rfl) (by kernel_rfl) rfl (.cons rfl (r_v E (i := 2) (by kernel_rfl)) .nil)) (r_k E (by rfl))) .nil)))) (s_cons B (s_nm B (i := 2) (by kernel_rfl) rfl (r_op E (op := .add) rfl (r_op E (op := .add) rfl (r_sl E (r_v E (i := 2) (by kernel_rfl)) .none (.some (r_v E (i := 6) (by kernel_rfl)))) (r_lst E (by kernel_rfl) (.cons rfl (r_op E (op := .add) rfl (r_v E (i := 5) (by kernel_rfl)) (r_tup E (by kernel_rfl) (.cons rfl (r_op E (op := .add) rfl (r_k E (by rfl)) (r_call E 33 at_33 rfl (by kernel_rfl) (by kernel_rfl) rfl (.cons rfl (r_v E (i := 0) (by kernel_rfl)) (.cons rfl (r_k E (by rfl)) .nil)))) .nil))) .nil))) (r_sl E (r_v E (i := 2) (by kernel_rfl)) (.some (r_v E (i := 6) (by kernel_rfl))) .none))) (s_nil B)))) (s_nil B)) (s_nil B))) (s_nil B))) (s_cons B (s_ret B rfl (r_bi E .tuple rfl (by kernel_rfl) (by kernel_rfl) rfl (.cons rfl (r_v E (i := 2) (by kernel_rfl)) .nil))) (s_nil B))), fun h => Bool.noConfusion (show false = true from h), fun h => Bool.noConfusion (show false = true from h), fun h => Bool.noConfusion (show false = true from h)⟩
theorem ok_39 : DfOk pt d39 := ⟨⟨rfl, rfl, rfl, by decide +kernel, rfl, by decide +kernel, by decide +kernel⟩, fun _ _ _ _ _ _ us hl => match us, hl with | [_, _, _], _ => rfl, fun _ Y Γ k X W Ow0 fr hfr F CS M Z => by
  obtain rfl : fr = false := not_fr rfl hfr
  have E : En pt Y Γ k d39.N X W d39.scope := ⟨F, M⟩
  have B : Eb pt Y Γ k d39.N X W d39.scope Ow0 false := ⟨E, CS⟩
  show JSs X B.w d39.body (m_times Γ); delta m_times
  exact s_cons B (s_ret B rfl (r_bi E .sum rfl (by kernel_rfl) (by kernel_rfl) rfl (.cons rfl (r_lc E (lc_ok E (rI := true) (own := [("_law_row", 3)]) (p := .nm 3) rfl (by kernel_rfl) (by kernel_rfl) (i_of E (r_v E (i := 0) (by kernel_rfl))) (fun _ E' hfE' => p_nm E' (by kernel_rfl)) (fun _ E' => .one (r_or E' rfl (.cons rfl (r_cmp E' (op := .eq) rfl rfl (r_sl E' (r_v E' (i := 3) (by kernel_rfl)) .none (.some (r_k E' (by rfl)))) (r_tup E' (by kernel_rfl) (.cons rfl (r_v E' (i := 1) (by kernel_rfl)) (.cons rfl (r_v E' (i := 2) (by kernel_rfl)) .nil)))) (.cons rfl (r_cmp E' (op := .eq) rfl rfl (r_sl E' (r_v E' (i := 3) (by kernel_rfl)) .none (.some (r_k E' (by rfl)))) (r_tup E' (by kernel_rfl) (.cons rfl (r_v E' (i := 2) (by kernel_rfl)) (.cons rfl (r_v E' (i := 1) (by kernel_rfl)) .nil)))) .nil)))) (fun _ E' => r_ix E' rfl (r_v E' (i := 3) (by kernel_rfl)) (r_k E' (by rfl))))) .nil))) (s_nil B), fun h => Bool.noConfusion (show false = true from h), fun h => Bool.noConfusion (show false = true from h), fun h => Bool.noConfusion (show false = true from h)⟩
theorem ok_40 : DfOk pt d40 := ⟨⟨rfl, rfl, rfl, by decide +kernel, rfl, by decide +kernel, by decide +kernel⟩, fun _ _ _ _ _ _ us hl => match us, hl with | [_, _, _, _], _ => rfl, fun _ Y Γ k X W Ow0 fr hfr F CS M Z => by
  obtain rfl : fr = false := not_fr rfl hfr
  have E : En pt Y Γ k d40.N X W d40.scope := ⟨F, M⟩
  have B : Eb pt Y Γ k d40.N X W d40.scope Ow0 false := ⟨E, CS⟩
  show JSs X B.w d40.body (m_hopes Γ (Γ.call 39)); delta m_hopes
  exact s_cons B (s_ret B rfl (r_op E (op := .mul) rfl (r_v E (i := 0) (by kernel_rfl)) (r_bi E .sum rfl (by kernel_rfl) (by kernel_rfl) rfl (.cons rfl (r_lc E (lc_ok E (rI := true) (own := [("_law_row", 4)]) (p := .nm 4) rfl (by kernel_rfl) (by kernel_rfl) (i_of E (r_v E (i := 1) (by kernel_rfl))) (fun _ E' hfE' => p_nm E' (by kernel_rfl)) (fun _ E' => .nil) (fun _ E' => r_op E' (op := .mul) rfl (r_call E' 39 at_39 rfl (by kernel_rfl) (by kernel_rfl) rfl (.cons rfl (r_v E' (i := 2) (by kernel_rfl)) (.cons rfl (r_v E' (i := 3) (by kernel_rfl)) (.cons rfl (r_ix E' rfl (r_v E' (i := 4) (by kernel_rfl)) (r_k E' (by rfl))) .nil)))) (r_op E' (op := .sub) rfl (r_ix E' rfl (r_v E' (i := 4) (by kernel_rfl)) (r_k E' (by rfl))) (r_bi E' .int rfl (by kernel_rfl) (by kernel_rfl) rfl (.cons rfl (r_cmp E' (op := .eq) rfl rfl (r_ix E' rfl (r_v E' (i := 4) (by kernel_rfl)) (r_k E' (by rfl))) (r_v E' (i := 3) (by kernel_rfl))) .nil)))))) .nil)))) (s_nil B), fun h => Bool.noConfusion (show false = true from h), fun h => Bool.noConfusion (show false = true from h), fun h => Bool.noConfusion (show false = true from h)⟩
theorem ok_41 : DfOk pt d41 := ⟨⟨rfl, rfl, rfl, by decide +kernel, rfl, by decide +kernel, by decide +kernel⟩, fun _ _ _ _ _ _ us hl => match us, hl with | [_, _], _ => rfl, fun _ Y Γ k X W Ow0 fr hfr F CS M Z => by
  obtain rfl : fr = false := not_fr rfl hfr
  have E : En pt Y Γ k d41.N X W d41.scope := ⟨F, M⟩
  have B : Eb pt Y Γ k d41.N X W d41.scope Ow0 false := ⟨E, CS⟩
  show JSs X B.w d41.body (m_season Γ (Γ.call 37) (Γ.call 33) (Γ.call 35) (Γ.call 36) (Γ.call 38)); delta m_season
  exact s_cons B (s_nm B (i := 2) (by kernel_rfl) rfl (r_call E 37 at_37 rfl (by kernel_rfl) (by kernel_rfl) rfl (.cons rfl (r_v E (i := 0) (by kernel_rfl)) (.cons rfl (r_op E (op := .add) rfl (r_k E (by rfl)) (r_call E 33 at_33 rfl (by kernel_rfl) (by kernel_rfl) rfl (.cons rfl (r_v E (i := 0) (by kernel_rfl)) (.cons rfl (r_v E (i := 1) (by kernel_rfl)) .nil)))) .nil)))) (s_cons B (s_nm B (i := 3) (by kernel_rfl) rfl (r_bi E .tuple rfl (by kernel_rfl) (by kernel_rfl) rfl (.cons rfl (r_lc E (lc_ok E (rI := true) (own := [("_law_name", 4)]) (p := .nm 4) rfl (by kernel_rfl) (by kernel_rfl) (i_of E (r_v E (i := 2) (by kernel_rfl))) (fun _ E' hfE' => p_nm E' (by kernel_rfl)) (fun _ E' => .nil) (fun _ E' => r_tup E' (by kernel_rfl) (.cons rfl (r_v E' (i := 4) (by kernel_rfl)) (.cons rfl (r_call E' 35 at_35 rfl (by kernel_rfl) (by kernel_rfl) rfl (.cons rfl (r_v E' (i := 0) (by kernel_rfl)) .nil)) (.cons rfl (r_call E' 36 at_36 rfl (by kernel_rfl) (by kernel_rfl) rfl (.cons rfl (r_v E' (i := 0) (by kernel_rfl)) .nil)) .nil)))))) .nil))) (s_cons B (s_ret B rfl (r_lst E (by kernel_rfl) (.cons rfl (r_op E (op := .add) rfl (r_k E (by rfl)) (r_call E 33 at_33 rfl (by kernel_rfl) (by kernel_rfl) rfl (.cons rfl (r_v E (i := 0) (by kernel_rfl)) (.cons rfl (r_k E (by rfl)) .nil)))) (.cons rfl (r_v E (i := 3) (by kernel_rfl)) (.cons rfl (r_call E 38 at_38 rfl (by kernel_rfl) (by kernel_rfl) rfl (.cons rfl (r_v E (i := 0) (by kernel_rfl)) (.cons rfl (r_v E (i := 2) (by kernel_rfl)) .nil))) .nil))))) (s_nil B))), fun h => Bool.noConfusion (show false = true from h), fun h => Bool.noConfusion (show false = true from h), fun h => Bool.noConfusion (show false = true from h)⟩
theorem ok_42 : DfOk pt d42 := ⟨⟨rfl, rfl, rfl, by decide +kernel, rfl, by decide +kernel, by decide +kernel⟩, fun _ _ _ _ _ _ us hl => match us, hl with | [_, _], _ => rfl, fun _ Y Γ k X W Ow0 fr hfr F CS M Z => by
  obtain rfl : fr = false := not_fr rfl hfr
  have E : En pt Y Γ k d42.N X W d42.scope := ⟨F, M⟩
  have B : Eb pt Y Γ k d42.N X W d42.scope Ow0 false := ⟨E, CS⟩
  show JSs X B.w d42.body (m_shown Γ 0); delta m_shown
  exact s_cons B (s_lcN B (i := 2) (by kernel_rfl) (by kernel_rfl) rfl (lc_ok E (rI := true) (own := [("_law_name", 3)]) (p := .nm 3) rfl (by kernel_rfl) (by kernel_rfl) (i_of E (r_v E (i := 1) (by kernel_rfl))) (fun _ E' hfE' => p_nm E' (by kernel_rfl)) (fun _ E' => .nil) (fun _ E' => r_me E' 0 41 27 (by rfl) (by rfl) at_27 rfl (by rfl) (by rfl) (r_v E' (i := 0) (by kernel_rfl)) (.cons rfl (r_v E' (i := 3) (by kernel_rfl)) .nil) rfl))) (s_cons B (s_ret B rfl (r_repr E (by kernel_rfl) (by kernel_rfl) rfl (.cons rfl (r_lst E (by kernel_rfl) (.cons rfl (r_at E 16 (by rfl) rfl (r_v E (i := 0) (by kernel_rfl))) (.cons rfl (r_at E 17 (by rfl) rfl (r_v E (i := 0) (by kernel_rfl))) (.cons rfl (r_at E 20 (by rfl) rfl (r_v E (i := 0) (by kernel_rfl))) (.cons rfl (r_at E 18 (by rfl) rfl (r_v E (i := 0) (by kernel_rfl))) (.cons rfl (r_v E (i := 2) (by kernel_rfl)) .nil)))))) .nil))) (s_nil B)), fun h => Bool.noConfusion (show false = true from h), fun h => Bool.noConfusion (show false = true from h), fun h => Bool.noConfusion (show false = true from h)⟩
theorem ok_43 : DfOk pt d43 := ⟨⟨rfl, rfl, rfl, by decide +kernel, rfl, by decide +kernel, by decide +kernel⟩, fun _ _ _ _ _ _ us hl => match us, hl with | [_, _, _], _ => rfl, fun _ Y Γ k X W Ow0 fr hfr F CS M Z => by
  obtain rfl : fr = false := not_fr rfl hfr
  have E : En pt Y Γ k d43.N X W d43.scope := ⟨F, M⟩
  have B : Eb pt Y Γ k d43.N X W d43.scope Ow0 false := ⟨E, CS⟩
  show JSs X B.w d43.body (m_due_k53 Γ (Γ.call 40)); delta m_due_k53
  exact s_cons B (s_lcN B (i := 3) (by kernel_rfl) (by kernel_rfl) rfl (lc_ok E (rI := true) (own := [("_law_row", 5)]) (p := .nm 5) rfl (by kernel_rfl) (by kernel_rfl) (i_of E (r_v E (i := 1) (by kernel_rfl))) (fun _ E' hfE' => p_nm E' (by kernel_rfl)) (fun _ E' => .nil) (fun _ E' => r_ix E' rfl (r_v E' (i := 5) (by kernel_rfl)) (r_k E' (by rfl))))) (s_cons B (s_lcN B (i := 4) (by kernel_rfl) (by kernel_rfl) rfl (lc_ok E (rI := true) (own := [("_law_row", 5)]) (p := .nm 5) rfl (by kernel_rfl) (by kernel_rfl) (i_of E (r_v E (i := 1) (by kernel_rfl))) (fun _ E' hfE' => p_nm E' (by kernel_rfl)) (fun _ E' => .nil) (fun _ E' => r_op E' (op := .add) rfl (r_ix E' rfl (r_v E' (i := 5) (by kernel_rfl)) (r_k E' (by rfl))) (r_call E' 40 at_40 rfl (by kernel_rfl) (by kernel_rfl) rfl (.cons rfl (r_v E' (i := 0) (by kernel_rfl)) (.cons rfl (r_v E' (i := 1) (by kernel_rfl)) (.cons rfl (r_v E' (i := 2) (by kernel_rfl)) (.cons rfl (r_ix E' rfl (r_v E' (i := 5) (by kernel_rfl)) (r_k E' (by rfl))) .nil)))))))) (s_cons B (s_ret B rfl (r_repr E (by kernel_rfl) (by kernel_rfl) rfl (.cons rfl (r_lst E (by kernel_rfl) (.cons rfl (r_v E (i := 0) (by kernel_rfl)) (.cons rfl (r_v E (i := 1) (by kernel_rfl)) (.cons rfl (r_v E (i := 2) (by kernel_rfl)) (.cons rfl (r_bi E .tuple rfl (by kernel_rfl) (by kernel_rfl) rfl (.cons rfl (r_v E (i := 3) (by kernel_rfl)) .nil)) (.cons rfl (r_v E (i := 4) (by kernel_rfl)) .nil)))))) .nil))) (s_nil B))), fun h => Bool.noConfusion (show false = true from h), fun h => Bool.noConfusion (show false = true from h), fun h => Bool.noConfusion (show false = true from h)⟩
theorem ok_44 : DfOk pt d44 := ⟨⟨rfl, rfl, rfl, by decide +kernel, rfl, by decide +kernel, by decide +kernel⟩, fun _ _ _ _ _ _ us hl => match us, hl with | [_], _ => rfl, fun _ Y Γ k X W Ow0 fr hfr F CS M Z => by
  obtain rfl : fr = false := not_fr rfl hfr
  have E : En pt Y Γ k d44.N X W d44.scope := ⟨F, M⟩
  have B : Eb pt Y Γ k d44.N X W d44.scope Ow0 false := ⟨E, CS⟩
  show JSs X B.w d44.body (m_right_k53 Γ (Γ.call 41) 0 (Γ.call 33) (Γ.call 42) (Γ.call 43) (Γ.call 40)); delta m_right_k53
  exact s_cons B (s_unp B rfl rfl (r_call E 41 at_41 rfl (by kernel_rfl) (by kernel_rfl) rfl (.cons rfl (r_v E (i := 0) (by kernel_rfl)) (.cons rfl (r_k E (by rfl)) .nil))) (.cons rfl (t_nm B (i := 5) (by kernel_rfl)) (.cons rfl (t_nm B (i := 6) (by kernel_rfl)) (.cons rfl (t_nm B (i := 7) (by kernel_rfl)) .nil)))) (s_cons B (s_par2 B (i := 8) (j := 9) (by kernel_rfl) (by kernel_rfl) (by decide) (by kernel_rfl) (by kernel_rfl) (by kernel_rfl) (.val rfl (r_lc E (lc_ok E (rI := true) (own := [("_law_row", 12)]) (p := .nm 12) rfl (by kernel_rfl) (by kernel_rfl) (i_of E (r_v E (i := 6) (by kernel_rfl))) (fun _ E' hfE' => p_nm E' (by kernel_rfl)) (fun _ E' => .nil) (fun _ E' => r_ix E' rfl (r_v E' (i := 12) (by kernel_rfl)) (r_k E' (by rfl))))) (.val rfl (r_repr E (by kernel_rfl) (by kernel_rfl) rfl (.cons rfl (r_lst E (by kernel_rfl) (.cons rfl (r_v E (i := 5) (by kernel_rfl)) (.cons rfl (r_v E (i := 6) (by kernel_rfl)) (.cons rfl (r_v E (i := 7) (by kernel_rfl)) .nil)))) .nil)) .nil))) (s_cons B (s_par2 B (i := 10) (j := 11) (by kernel_rfl) (by kernel_rfl) (by decide) (by kernel_rfl) (by kernel_rfl) (by kernel_rfl) (.val rfl (r_mk E 0 (by rfl) (by rfl) (by rfl) (by rfl) (by kernel_rfl) (by kernel_rfl) rfl (.cons rfl (r_v E (i := 5) (by kernel_rfl)) (.cons rfl (r_v E (i := 6) (by kernel_rfl)) (.cons rfl (r_v E (i := 7) (by kernel_rfl)) .nil)))) (.val rfl (r_mkK E 0 [2, 1, 0] (by rfl) at_15 rfl rfl (by kernel_rfl) (by kernel_rfl) (fun fd D => bdM_15_210 D) (.cons (r_tup E (by kernel_rfl) .nil) (.cons (r_v E (i := 6) (by kernel_rfl)) (.cons (r_v E (i := 5) (by kernel_rfl)) .nil)))) .nil))) (s_cons B (s_if B (r_cmp E (op := .eq) rfl rfl (r_call E 33 at_33 rfl (by kernel_rfl) (by kernel_rfl) rfl (.cons rfl (r_v E (i := 0) (by kernel_rfl)) (.cons rfl (r_k E (by rfl)) .nil))) (r_k E (by rfl))) (s_cons B (s_nm B (i := 10) (by kernel_rfl) rfl (r_mkK E 0 [1, 2, 0] (by rfl) at_15 rfl rfl (by kernel_rfl) (by kernel_rfl) (fun fd D => bdM_15_120 D) (.cons (r_v E (i := 7) (by kernel_rfl)) (.cons (r_v E (i := 5) (by kernel_rfl)) (.cons (r_v E (i := 6) (by kernel_rfl)) .nil))))) (s_nil B)) (s_nil B)) (s_cons B (s_for B rfl (i_rng1 E (by kernel_rfl) (by kernel_rfl) rfl (r_k E (by rfl))) (p_nmB B (by kernel_rfl)) (s_cons B (s_if B (r_cmp E (op := .ne) rfl rfl (r_call E 42 at_42 rfl (by kernel_rfl) (by kernel_rfl) rfl (.cons rfl (r_v E (i := 10) (by kernel_rfl)) (.cons rfl (r_v E (i := 8) (by kernel_rfl)) .nil))) (r_call E 43 at_43 rfl (by kernel_rfl) (by kernel_rfl) rfl (.cons rfl (r_v E (i := 5) (by kernel_rfl)) (.cons rfl (r_v E (i := 6) (by kernel_rfl)) (.cons rfl (r_v E (i := 7) (by kernel_rfl)) .nil))))) (s_cons B (s_ret B rfl (r_k E (by rfl))) (s_nil B)) (s_nil B)) (s_cons B (s_if B (r_cmp E (op := .ne) rfl rfl (r_call E 42 at_42 rfl (by kernel_rfl) (by kernel_rfl) rfl (.cons rfl (r_v E (i := 11) (by kernel_rfl)) (.cons rfl (r_v E (i := 8) (by kernel_rfl)) .nil))) (r_call E 43 at_43 rfl (by kernel_rfl) (by kernel_rfl) rfl (.cons rfl (r_v E (i := 5) (by kernel_rfl)) (.cons rfl (r_v E (i := 6) (by kernel_rfl)) (.cons rfl (r_tup E (by kernel_rfl) .nil) .nil))))) (s_cons B (s_ret B rfl (r_k E (by rfl))) (s_nil B)) (s_nil B)) (s_nil B)))) (s_cons B (s_nm B (i := 2) (by kernel_rfl) rfl (r_call E 33 at_33 rfl (by kernel_rfl) (by kernel_rfl) rfl (.cons rfl (r_v E (i := 0) (by kernel_rfl)) (.cons rfl (r_bi E .len rfl (by kernel_rfl) (by kernel_rfl) rfl (.cons rfl (r_v E (i := 6) (by kernel_rfl)) .nil)) .nil)))) (s_cons B (s_if B (r_cmp E (op := .ne) rfl rfl (r_repr E (by kernel_rfl) (by kernel_rfl) rfl (.cons rfl (r_meK E 0 41 27 [0] (by rfl) (by rfl) at_27 (by rfl) (by rfl) (fun fd D => bdM_27_0 D) (r_v E (i := 10) (by kernel_rfl)) (.cons (r_ix E rfl (r_v E (i := 8) (by kernel_rfl)) (r_v E (i := 2) (by kernel_rfl))) .nil) rfl) .nil)) (r_repr E (by kernel_rfl) (by kernel_rfl) rfl (.cons rfl (r_op E (op := .add) rfl (r_ix E rfl (r_ix E rfl (r_v E (i := 6) (by kernel_rfl)) (r_v E (i := 2) (by kernel_rfl))) (r_k E (by rfl))) (r_call E 40 at_40 rfl (by kernel_rfl) (by kernel_rfl) rfl (.cons rfl (r_v E (i := 5) (by kernel_rfl)) (.cons rfl (r_v E (i := 6) (by kernel_rfl)) (.cons rfl (r_v E (i := 7) (by kernel_rfl)) (.cons rfl (r_ix E rfl (r_v E (i := 8) (by kernel_rfl)) (r_v E (i := 2) (by kernel_rfl))) .nil)))))) .nil))) (s_cons B (s_ret B rfl (r_k E (by rfl))) (s_nil B)) (s_nil B)) (s_cons B (s_nm B (i := 3) (by kernel_rfl) rfl (r_mkS E 0 (by rfl) (by rfl) (by rfl) (by rfl) (by kernel_rfl) (by kernel_rfl) rfl (.cons rfl (r_v E (i := 5) (by kernel_rfl)) (.cons rfl (r_v E (i := 6) (by kernel_rfl)) (.cons rfl (r_v E (i := 7) (by kernel_rfl)) .nil))))) (s_cons B (s_nm B (i := 4) (by kernel_rfl) rfl (r_lst E (by kernel_rfl) (.cons rfl (r_idS E 0 4 false (by rfl) (by rfl) (by rfl) (by rfl)) (.cons rfl (r_idO E 0 4 false (by rfl) (by rfl) (by rfl) (by rfl) (by rfl)) (.cons rfl (r_idO E 0 4 true (by rfl) (by rfl) (by rfl) (by rfl) (by rfl)) (.cons rfl (r_idS E 0 4 true (by rfl) (by rfl) (by rfl) (by rfl)) (.cons rfl (r_boolN E 0 (by rfl) (by rfl) (by rfl) (by kernel_rfl) (by kernel_rfl) rfl (r_v E (i := 10) (by kernel_rfl))) .nil))))))) (s_cons B (s_ret B rfl (r_and E rfl (.cons rfl (r_cmp E (op := .eq) rfl rfl (r_repr E (by kernel_rfl) (by kernel_rfl) rfl (.cons rfl (r_v E (i := 4) (by kernel_rfl)) .nil)) (r_k E (by kernel_rfl))) (.cons rfl (r_cmp E (op := .eq) rfl rfl (r_repr E (by kernel_rfl) (by kernel_rfl) rfl (.cons rfl (r_lst E (by kernel_rfl) (.cons rfl (r_v E (i := 5) (by kernel_rfl)) (.cons rfl (r_v E (i := 6) (by kernel_rfl)) (.cons rfl (r_v E (i := 7) (by kernel_rfl)) .nil)))) .nil)) (r_v E (i := 9) (by kernel_rfl))) .nil)))) (s_nil B)))))))))), fun h => Bool.noConfusion (show false = true from h), fun h => Bool.noConfusion (show false = true from h), fun h => Bool.noConfusion (show false = true from h)⟩
theorem ok_45 : DfOk pt d45 := ⟨⟨rfl, rfl, rfl, by decide +kernel, rfl, by decide +kernel, by decide +kernel⟩, fun _ _ _ _ _ _ us hl => match us, hl with | [_], _ => rfl, fun _ Y Γ k X W Ow0 fr hfr F CS M Z => by
  obtain rfl : fr = false := not_fr rfl hfr
  have E : En pt Y Γ k d45.N X W d45.scope := ⟨F, M⟩
  have B : Eb pt Y Γ k d45.N X W d45.scope Ow0 false := ⟨E, CS⟩
  show JSs X B.w d45.body (m_law Γ (Γ.call 44) (Γ.call 32)); delta m_law
  exact s_cons B (s_for B rfl (i_rng1 E (by kernel_rfl) (by kernel_rfl) rfl (r_bi E .max rfl (by kernel_rfl) (by kernel_rfl) rfl (.cons rfl (r_k E (by rfl)) (.cons rfl (r_bi E .min rfl (by kernel_rfl) (by kernel_rfl) rfl (.cons rfl (r_bi E .len rfl (by kernel_rfl) (by kernel_rfl) rfl (.cons rfl (r_v E (i := 0) (by kernel_rfl)) .nil)) (.cons rfl (r_k E (by rfl)) .nil))) .nil)))) (p_nmB B (by kernel_rfl)) (s_cons B (s_if B (r_no E (r_call E 44 at_44 rfl (by kernel_rfl) (by kernel_rfl) rfl (.cons rfl (r_call E 32 at_32 rfl (by kernel_rfl) (by kernel_rfl) rfl (.cons rfl (r_v E (i := 0) (by kernel_rfl)) (.cons rfl (r_v E (i := 1) (by kernel_rfl)) .nil))) .nil))) (s_cons B (s_ret B rfl (r_k E (by rfl))) (s_nil B)) (s_nil B)) (s_nil B))) (s_cons B (s_ret B rfl (r_k E (by rfl))) (s_nil B)), fun h => Bool.noConfusion (show false = true from h), fun h => Bool.noConfusion (show false = true from h), fun h => Bool.noConfusion (show false = true from h)⟩
theorem ok_all : ∀ d ∈ pt.defs, DfOk pt d := al_cons ok_0 (al_cons ok_1 (al_cons ok_2 (al_cons ok_3 (al_cons ok_4 (al_cons ok_5 (al_cons ok_6 (al_cons ok_7 (al_cons ok_8 (al_cons ok_9 (al_cons ok_10 (al_cons ok_11 (al_cons ok_12 (al_cons ok_13 (al_cons ok_14 (al_cons ok_15 (al_cons ok_16 (al_cons ok_17 (al_cons ok_18 (al_cons ok_19 (al_cons ok_20 (al_cons ok_21 (al_cons ok_22 (al_cons ok_23 (al_cons ok_24 (al_cons ok_25 (al_cons ok_26 (al_cons ok_27 (al_cons ok_28 (al_cons ok_29 (al_cons ok_30 (al_cons ok_31 (al_cons ok_32 (al_cons ok_33 (al_cons ok_34 (al_cons ok_35 (al_cons ok_36 (al_cons ok_37 (al_cons ok_38 (al_cons ok_39 (al_cons ok_40 (al_cons ok_41 (al_cons ok_42 (al_cons ok_43 (al_cons ok_44 (al_cons ok_45 al_nil)))))))))))))))))))))))))))))))))))))))))))))
theorem xok : XOk pt := (al_cons (fun f hf => by cases hf; exact ⟨_, _, _, _, _, _, _, at_1, rfl, rfl, ok_1.sc, by decide, by decide, by decide, by decide⟩) (al_cons (fun f hf => by cases hf; exact ⟨_, _, _, _, _, _, _, at_2, rfl, rfl, ok_2.sc, by decide, by decide, by decide, by decide⟩) (al_cons (fun f hf => by cases hf; exact ⟨_, _, _, _, _, _, _, at_3, rfl, rfl, ok_3.sc, by decide, by decide, by decide, by decide⟩) (al_cons (fun f hf => by cases hf; exact ⟨_, _, _, _, _, _, _, at_4, rfl, rfl, ok_4.sc, by decide, by decide, by decide, by decide⟩) al_nil))))
end K53
open PySem PySem.W PySem.Calls PyProof.Rows
theorem PySem.Challenge.cw_scorelists_k53_seasons_made_holds : PySem.Challenge.rw_scorelists_k53_seasons_made.Holds := by
  w_on; o_law
  refine HandSHeadRun.head_any (r := OpenLaw.row PySem.Challenge.rw_scorelists_k53_seasons_made) (q := view (OpenLaw.row PySem.Challenge.rw_scorelists_k53_seasons_made).prog [44]) (H := G.hookP 5 K53.pt) (ob := K53.ob) (M := 8000) (loose := K53.loose) (d := HandSHeadRun.topDef (OpenLaw.row PySem.Challenge.rw_scorelists_k53_seasons_made).prog 44) (kwd := []) K53.ob_eq
    (by kernel_rfl) (fun s => by kernel_rfl) K53.run (by kernel_rfl) (by kernel_rfl) (by kernel_rfl) (by rfl) (by first | assumption | decide +kernel) (by decide +kernel) ⟨rfl, rfl, rfl, rfl, rfl, by decide +kernel⟩ ?hw ?hc
  case hw => w_witness2
  case hc => exact G.law_glue (l := PySem.Challenge.rw_scorelists_k53_seasons_made) (pt := K53.pt) (n := 40) (iL := 45) (k := 0) (x := "_law_script") rfl (by kernel_rfl) ⟨rfl, by decide +kernel, by decide +kernel⟩ K53.at_45 (by rfl) rfl K53.ok_all K53.xok K53.law_true rfl
