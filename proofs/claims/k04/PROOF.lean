import PyProof.Rows.All
import Wide.All
import OpenK.AllK
import Wide.FinOn
import HandS.ForMost
import HandS.Star
import HandS.IsInst
import HandS.Deep
import HandS.TupAny
import HandS.TupSets
import HandS.Flow
import HandS.Style
import HandS.Zip
import HandS.Wide
import KE.KUnpackStar
import HandS.NoneIn
import HandS.DeepEq
import PyProof.ReprRoads
import PyProof.RulesMatch
import HandS.Defaults
import HandS.Words
import HandS.More
import HandS.Ends
import KE.KDictZip
import HandS.Zip0
import HandS.SortOrd
import HandS.HeadEnd
import PySem.Challenge.RW_firstfault_k04_values_and_settings_told
import KE.KStateDown
import HandS.Base
import HandS.Call
import HandS.WordsExc
import HandS.Head0
import HandS.Head1
import HandS.Head2
import HandS.HeadHook1
import HandS.HeadHook2
set_option Elab.async false
set_option linter.all false
/-! Pi1: pure values, the store, the small language and its evaluator (no heap, no program). -/
namespace Pi
open PySem

def szl : Nat := 16777216

inductive PV where
  | non | bl (b : Bool) | int (i : Int) | str (x : Str)
  | tup (xs : List PV) | lst (xs : List PV)
  | dic (kvs : List (Str × PV))
  | ref (n : Nat)
  | scr (ns : List Int)

inductive PObj where
  | lst (xs : List PV)

structure Store where
  objs : List PObj
def Store.get (S : Store) (n : Nat) : Option PObj := S.objs[n]?
def Store.size (S : Store) : Nat := S.objs.length
def Store.put (S : Store) (n : Nat) (o : PObj) : Store := ⟨S.objs.set n o⟩
def Store.add (S : Store) (o : PObj) : Store := ⟨S.objs ++ [o]⟩

inductive Res (α : Type) where
  | ok (a : α) (S : Store) | ex (c : Nat) (fs : List PV) (S : Store) | no
def Res.bind {α β : Type} (r : Res α) (f : α → Store → Res β) : Res β :=
  match r with
  | .ok a S => f a S
  | .ex c fs S => .ex c fs S
  | .no => .no

abbrev PEnv := List (Option PV)

/-! ### the small language -/
inductive Bop where
  | add | sub | mul | fdiv | mod | pow
  deriving DecidableEq
inductive Cop where
  | eq | ne | lt | le | gt | ge | isN | isnotN | inn | notin
  deriving DecidableEq
inductive Bt where
  | len | tupleOf | listOf (b : Bool) | intOf | sumOf | allOf | anyOf | min2 | max2 | repr | sortedSet | dictZip
  deriving DecidableEq
inductive Mt where
  | append | index
  deriving DecidableEq
/-- targets -/
inductive Pt where
  | nm (i : Nat) | tup (ps : List Pt) | star (ps : List Pt) (r : Nat)
/-- expressions; rng1 .. zip stand where something is walked -/
inductive E where
  | var (i : Nat)
  | con (v : PV)
  | tup (es : List E) | lst (b : Bool) (es : List E) | star (e : E)
  | dis (ks : List Str) (es : List E)
  | bin (o : Bop) (a b : E)
  | neg (a : E) | nott (a : E)
  | cmp (o : Cop) (a b : E)
  | chain (o o' : Cop) (a b c : E)
  | andd (a b : E) | orr (a b : E)
  | ifx (c a b : E)
  | idx (a i : E)
  | slc (a : E) (lo hi : Option E)
  | isi (a : E) (cs : List String)
  | call (f : Nat) (as : List E)
  | blt (b : Bt) (as : List E)
  | meth (m : Mt) (o : E) (as : List E)
  | comp (b : Bool) (vs : List Nat) (t : Pt) (it : E) (ifs : Option E) (el : E)
  | rng1 (a : E) | rng2 (a b : E) | enum (e : E) | zip (a b : E)
inductive Sm where
  | set (t : Pt) (e : E)
  | par (ts : List Nat) (es : List E)
  | sub (o i e : E)
  | exp (e : E)
  | iff (c : E) (a b : List Sm)
  | whl (c : E) (b : List Sm)
  | forr (t : Pt) (it : E) (b : List Sm)
  | ret (e : E) | retN | pas | brk | cnt
  | mat (e : E) (cs : List (Option PV × List Sm))

/-! ### values -/
/-- a list that stands in the store, read -/
def dr (S : Store) : PV → PV
  | .ref n => match S.get n with
    | some (.lst xs) => .lst xs
    | none => .ref n
  | v => v
def mapO {α β : Type} (f : α → Option β) : List α → Option (List β)
  | [] => some []
  | x :: xs => match f x, mapO f xs with
    | some y, some ys => some (y :: ys)
    | _, _ => none
/-- a value as plain data, to a depth -/
def dat : Nat → Store → PV → Option PyData
  | _, _, .non => some .none
  | _, _, .bl b => some (.bool b)
  | _, _, .int i => some (.int i)
  | _, _, .str x => some (.str x)
  | n + 1, S, .tup xs => (mapO (dat n S) xs).map .tuple
  | n + 1, S, .lst xs => (mapO (dat n S) xs).map .list
  | n + 1, S, .ref k => match S.get k with
    | some (.lst xs) => (mapO (dat n S) xs).map .list
    | none => none
  | _, _, _ => none
def eqS (x y : Str) : Bool := x.cps.toList == y.cps.toList
def scalEq : PV → PV → Option Bool
  | .non, .non => some true
  | .int i, .int j => some (i == j)
  | .bl a, .bl b => some (a == b)
  | .str x, .str y => some (eqS x y)
  | .non, .int _ => some false | .int _, .non => some false
  | .non, .str _ => some false | .str _, .non => some false
  | .int _, .str _ => some false | .str _, .int _ => some false
  | .non, .bl _ => some false | .bl _, .non => some false
  | .bl _, .str _ => some false | .str _, .bl _ => some false
  | _, _ => none
def deepEq (S : Store) (a b : PV) : Option Bool :=
  match dat 40 S a, dat 40 S b with
  | some d, some e => if SeqAt.shaped d && SeqAt.shaped e then some (PyData.eqv d e) else none
  | _, _ => none
def valEq (S : Store) (a b : PV) : Option Bool :=
  match scalEq a b with
  | some c => some c
  | none => deepEq S a b
def isScal : PV → Bool
  | .non | .bl _ | .int _ | .str _ => true
  | _ => false
def anyEq (S : Store) (a : PV) : List PV → Option Bool
  | [] => some false
  | b :: bs => match deepEq S b a, anyEq S a bs with
    | some c, some d => some (c || d)
    | _, _ => none
/-- x in xs -/
def memEq (S : Store) (a : PV) (xs : List PV) : Option Bool :=
  match dat 40 S a, mapO (dat 40 S) xs with
  | some d, some ds => if SeqAt.shaped d && SeqAt.shaped (.list ds) then some (ds.any fun z => PyData.eqv z d) else none
  | _, _ => none
def tru (S : Store) (v : PV) : Option Bool :=
  match dr S v with
  | .non => some false
  | .bl b => some b
  | .int i => some (i != 0)
  | .tup xs | .lst xs => some !xs.isEmpty
  | .str x => if Nat.ble x.length szl then some ((x.length : Int) != 0) else none
  | .dic kvs => some !kvs.isEmpty
  | .scr ns => some !ns.isEmpty
  | _ => none
def tyName (S : Store) (v : PV) : Option String :=
  match dr S v with
  | .non => some "NoneType" | .bl _ => some "bool" | .int _ => some "int" | .str _ => some "str"
  | .tup _ => some "tuple" | .lst _ => some "list" | .dic _ => some "dict" | .ref _ => none | .scr _ => some "list"
/-- isinstance by a built-in class's name -/
def isOf (t c : String) : Bool := t == c || (t == "bool" && c == "int")

def bopI (o : Bop) (i j : Int) : Option Int :=
  match o with
  | .add => some (i + j)
  | .sub => some (i - j)
  | .mul => if (decide (-18446744073709551616 < i) && decide (i < 18446744073709551616)) || (decide (-18446744073709551616 < j) && decide (j < 18446744073709551616)) then some (i * j) else none
  | .fdiv => if decide (0 < j) && decide (j < 1073741824) then some (i / j) else none
  | .mod => if decide (0 < j) then some (i % j) else none
  | .pow => if decide (0 ≤ j) && decide (j ≤ 1000000) && decide (i.natAbs < 18446744073709551616) then some (i ^ j.toNat) else none
def bop (o : Bop) (S : Store) (a b : PV) : Option PV :=
  match dr S a, dr S b with
  | .int i, .int j => (bopI o i j).map .int
  | .tup xs, .tup ys => match o with
    | .add => if Nat.ble (xs.length + ys.length) szl then some (.tup (xs ++ ys)) else none
    | _ => none
  | .lst xs, .lst ys => match o with
    | .add => if Nat.ble (xs.length + ys.length) szl then some (.lst (xs ++ ys)) else none
    | _ => none
  | _, _ => none
def cmpI (o : Cop) (i j : Int) : Option Bool :=
  match o with
  | .lt => some (decide (i < j)) | .le => some (decide (i ≤ j)) | .gt => some (decide (j < i)) | .ge => some (decide (j ≤ i))
  | _ => none
def isNon : PV → Bool
  | .non => true
  | _ => false
def memIn (S : Store) (a : PV) : PV → Option Bool
  | .tup xs | .lst xs => memEq S a xs
  | _ => none
def cmpV (o : Cop) : PV → PV → Option Bool
  | .int i, .int j => cmpI o i j
  | _, _ => none
def cop (o : Cop) (S : Store) (a b : PV) : Option Bool :=
  match o with
  | .eq => valEq S a b
  | .ne => (valEq S a b).map fun c => !c
  | .isN => if isNon b then some (isNon a) else none
  | .isnotN => if isNon b then some (!isNon a) else none
  | .inn => memIn S a (dr S b)
  | .notin => (memIn S a (dr S b)).map fun c => !c
  | o => cmpV o a b
def assocS (k : Str) : List (Str × PV) → Option PV
  | [] => none
  | (x, v) :: r => if eqS x k then some v else assocS k r
def getIx (S : Store) (a i : PV) : Option PV :=
  match dr S a, i with
  | .tup xs, .int k | .lst xs, .int k => L2.atI xs k
  | .dic kvs, .str x => assocS x kvs
  | _, _ => none
def pcut (xs : List PV) (lo hi : Option Int) : List PV := (xs.drop (HT.sIx xs.length 0 lo)).take (HT.sIx xs.length xs.length hi - HT.sIx xs.length 0 lo)
def slice (S : Store) (a : PV) (lo hi : Option Int) : Option PV :=
  match dr S a with
  | .tup xs => some (.tup (pcut xs lo hi))
  | .lst xs => some (.lst (pcut xs lo hi))
  | .scr ns => some (.lst (pcut (ns.map .int) lo hi))
  | _ => none
def intsOf : List PV → Option (List Int)
  | [] => some []
  | .int i :: r => (intsOf r).map (i :: ·)
  | _ :: _ => none
def boolsOf : List PV → Option (List Bool)
  | [] => some []
  | .bl i :: r => (boolsOf r).map (i :: ·)
  | _ :: _ => none
def seqOf (S : Store) (v : PV) : Option (List PV) :=
  match dr S v with
  | .tup xs | .lst xs => some xs
  | _ => none
/-- tuples of ints, all of one length d -/
def rowsOf (d : Nat) : List PV → Option (List (List Int))
  | [] => some []
  | .tup xs :: r => match intsOf xs, rowsOf d r with
    | some ns, some rs => if Nat.beq ns.length d then some (ns :: rs) else none
    | _, _ => none
  | _ :: _ => none
def lexLt : List Int → List Int → Bool
  | [], [] => false | [], _ :: _ => true | _ :: _, [] => false
  | x :: xs, y :: ys => if decide (x = y) then lexLt xs ys else decide (x < y)
/-- into an ascending list, once -/
def insRow (r : List Int) : List (List Int) → List (List Int)
  | [] => [r]
  | q :: qs => if lexLt r q then r :: q :: qs else if lexLt q r then q :: insRow r qs else q :: qs
def sortRows : List (List Int) → List (List Int)
  | [] => []
  | r :: rs => insRow r (sortRows rs)
def smallInts (ns : List Int) : Bool := ns.all fun i => decide (-1073741824 < i) && decide (i < 1073741824)
def strsOf : List PV → Option (List Str)
  | [] => some []
  | .str i :: r => (strsOf r).map (i :: ·)
  | _ :: _ => none
/-- dict(zip(names, values)): a name that comes again takes the last value at its first place -/
def putS (k : Str) (v : PV) : List (Str × PV) → List (Str × PV)
  | [] => [(k, v)]
  | (x, w) :: r => if eqS x k then (x, v) :: r else (x, w) :: putS k v r
def noDupS : List Str → Bool
  | [] => true
  | x :: r => (r.all fun y => !eqS y x) && noDupS r
def blt1 (b : Bt) (S : Store) (v : PV) : Option PV :=
  match b with
  | .len => (seqOf S v).map fun xs => .int xs.length
  | .tupleOf => (seqOf S v).map .tup
  | .intOf => match v with
    | .int i => some (.int i)
    | .bl c => some (.int (if c then 1 else 0))
    | _ => none
  | .sumOf => match dr S v with
    | .lst xs => (intsOf xs).map fun ns => .int ns.sum
    | _ => none
  | .allOf => match dr S v with
    | .lst xs => (boolsOf xs).map fun ns => .bl (ns.all id)
    | _ => none
  | .anyOf => match dr S v with
    | .lst xs => (boolsOf xs).map fun ns => .bl (ns.any id)
    | _ => none
  | .repr => match dat 40 S v with
    | some d => if PyData.showable d && Nat.ble (PyData.shown d).length szl && Nat.ble d.depth 40 then some (.str (PyData.shown d)) else none
    | none => none
  | .sortedSet => match dr S v with
    | .lst xs => match xs with
      | [] => some (.lst [])
      | .tup y :: _ => match rowsOf y.length xs with
        | some rs => if Nat.blt 0 y.length && Nat.blt rs.length 64 && rs.all smallInts then some (.lst ((sortRows rs).map fun r => .tup (r.map .int))) else none
        | none => none
      | _ => none
    | _ => none
  | _ => none
def blt2 (b : Bt) (S : Store) (v w : PV) : Option PV :=
  match b, v, w with
  | .min2, .int i, .int j => some (.int (if j < i then j else i))
  | .max2, .int i, .int j => some (.int (if j > i then j else i))
  | .dictZip, v, w => match dr S v, w with
    | .lst xs, .tup ys => match strsOf xs with
      | some ks => if Nat.beq ks.length ys.length && noDupS ks && Nat.ble ks.length 15 then some (.dic (ks.zip ys)) else none
      | none => none
    | _, _ => none
  | _, _, _ => none
/-- a new list, of the store's or not -/
def mkl (b : Bool) (xs : List PV) (S : Store) : Res PV :=
  match b with
  | true => .ok (.ref S.size) (S.add (.lst xs))
  | false => .ok (.lst xs) S
def ofO (S : Store) : Option PV → Res PV
  | some v => .ok v S
  | none => .no
def ofB (S : Store) : Option Bool → Res Bool
  | some v => .ok v S
  | none => .no
def bltOf (b : Bt) (S : Store) : List PV → Res PV
  | [v] => match b with
    | .listOf c => match seqOf S v with
      | some xs => mkl c xs S
      | none => .no
    | b => ofO S (blt1 b S v)
  | [v, w] => ofO S (blt2 b S v w)
  | _ => .no
def indexD (d : PyData) : List PyData → Option Nat
  | [] => none
  | b :: bs => if PyData.eqv b d then some 0 else (indexD d bs).map (· + 1)
def indexIn (S : Store) (v : PV) : PV → Option Nat
  | .lst xs => match dat 40 S v, mapO (dat 40 S) xs with
    | some d, some ds => if SeqAt.shaped d && SeqAt.shaped (.list ds) then indexD d ds else none
    | _, _ => none
  | _ => none
def appendTo (S : Store) (v : PV) : PV → Res PV
  | .ref n => match S.get n with
    | some (.lst xs) => if Nat.blt xs.length szl then .ok .non (S.put n (.lst (xs ++ [v]))) else .no
    | none => .no
  | _ => .no
def isL : PV → Bool
  | .lst _ => true
  | _ => false
def methOf (m : Mt) (S : Store) (o : PV) : List PV → Res PV
  | [v] => match m with
    | .append => appendTo S v o
    | .index => ofO S ((indexIn S v (dr S o)).map fun (j : Nat) => PV.int (j : Int))
  | _ => .no

/-! ### targets -/
mutual
def asg : Pt → PV → PEnv → Store → Option PEnv
  | .nm i, v, ρ, _ => some (ρ.set i (some v))
  | .tup ps, v, ρ, S => match dr S v with
    | .tup xs => if Nat.beq xs.length ps.length then asgs ps xs ρ S else none
    | .lst xs => if Nat.beq xs.length ps.length then asgs ps xs ρ S else none
    | _ => none
  | .star ps r, v, ρ, S => match v with
    | .tup xs => if Nat.ble ps.length xs.length && Nat.ble xs.length 16384 then
        match asgs ps (xs.take ps.length) ρ S with
        | some ρ' => some (ρ'.set r (some (.lst (xs.drop ps.length))))
        | none => none
      else none
    | _ => none
def asgs : List Pt → List PV → PEnv → Store → Option PEnv
  | [], [], ρ, _ => some ρ
  | p :: ps, x :: xs, ρ, S => match asg p x ρ S with
    | some ρ' => asgs ps xs ρ' S
    | none => none
  | _, _, _, _ => none
end
mutual
def slots : Pt → List Nat
  | .nm i => [i]
  | .tup ps => slotss ps
  | .star ps r => slotss ps ++ [r]
def slotss : List Pt → List Nat
  | [] => []
  | p :: ps => slots p ++ slotss ps
end
def wip (ρ : PEnv) : List Nat → PEnv
  | [] => ρ
  | v :: vs => (wip ρ vs).set v none

/-! ### the evaluator -/
inductive Out where
  | nx (ρ : PEnv) | rt (v : PV) | bk (ρ : PEnv) | ct (ρ : PEnv)

/-- what is walked: values taken ahead, or a list of the store by its number -/
inductive Src where
  | snap (xs : List PV) | live (n : Nat)

structure Ev where
  e : E → PEnv → Store → Res PV
  t : E → PEnv → Store → Res Bool
abbrev CF := Nat → List PV → Store → Res PV

def evs (f : E → PEnv → Store → Res PV) : List E → PEnv → Store → Res (List PV)
  | [], _, S => .ok [] S
  | .star e :: es, ρ, S => (f e ρ S).bind fun v S1 => match seqOf S1 v with
    | some xs => (evs f es ρ S1).bind fun ys S2 => .ok (xs ++ ys) S2
    | none => .no
  | e :: es, ρ, S => (f e ρ S).bind fun v S1 => (evs f es ρ S1).bind fun ys S2 => .ok (v :: ys) S2
def evo (f : E → PEnv → Store → Res PV) : Option E → PEnv → Store → Res (Option Int)
  | none, _, S => .ok none S
  | some e, ρ, S => (f e ρ S).bind fun v S1 => match v with
    | .int i => .ok (some i) S1
    | _ => .no
def rangeL (lo : Int) : Nat → List PV
  | 0 => []
  | n + 1 => .int lo :: rangeL (lo + 1) n
def enumL (k : Nat) : List PV → List PV
  | [] => []
  | x :: xs => .tup [.int k, x] :: enumL (k + 1) xs
def zipL : List PV → List PV → List PV
  | x :: xs, y :: ys => .tup [x, y] :: zipL xs ys
  | _, _ => []
def bnd (i : Int) : Bool := decide (-4611686018427387904 ≤ i) && decide (i < 4611686018427387904)
def src (f : E → PEnv → Store → Res PV) (it : E) (ρ : PEnv) (S : Store) : Res Src :=
  match it with
  | .rng1 a => (f a ρ S).bind fun v S1 => match v with
    | .int j => if bnd j then .ok (.snap (rangeL 0 j.toNat)) S1 else .no
    | _ => .no
  | .rng2 a b => (f a ρ S).bind fun v S1 => (f b ρ S1).bind fun w S2 => match v, w with
    | .int i, .int j => if bnd i && bnd j then .ok (.snap (rangeL i (j - i).toNat)) S2 else .no
    | _, _ => .no
  | .enum a => (f a ρ S).bind fun v S1 => match v with
    | .tup xs | .lst xs => .ok (.snap (enumL 0 xs)) S1
    | _ => .no
  | .zip a b => (f a ρ S).bind fun v S1 => (f b ρ S1).bind fun w S2 => match v, w with
    | .tup xs, .tup ys | .lst xs, .lst ys => .ok (.snap (zipL xs ys)) S2
    | _, _ => .no
  | a => (f a ρ S).bind fun v S1 => match v with
    | .tup xs | .lst xs => .ok (.snap xs) S1
    | .ref n => .ok (.live n) S1
    | _ => .no
/-- the turns of a comprehension, a value a turn -/
def turns (f : PEnv → Store → Res (Option PV)) (t : Pt) (ρ : PEnv) : List PV → List PV → Store → Res (List PV)
  | [], acc, S => .ok acc S
  | x :: xs, acc, S => match asg t x ρ S with
    | none => .no
    | some ρ1 => match f ρ1 S with
      | .ok (some y) S1 => turns f t ρ xs (acc ++ [y]) S1
      | .ok none S1 => turns f t ρ xs acc S1
      | _ => .no
def fuelOf (S : Store) (n : Nat) : Nat := match S.get n with
  | some (.lst xs) => xs.length + 1
  | none => 0
def turnsL (f : PEnv → Store → Res (Option PV)) (t : Pt) (ρ : PEnv) (n : Nat) : Nat → Nat → List PV → Store → Res (List PV)
  | 0, _, _, _ => .no
  | m + 1, i, acc, S => match S.get n with
    | some (.lst xs) => match xs[i]? with
      | none => .ok acc S
      | some x => match asg t x ρ S with
        | none => .no
        | some ρ1 => match f ρ1 S with
          | .ok (some y) S1 => if Nat.blt acc.length szl then turnsL f t ρ n m (i + 1) (acc ++ [y]) S1 else .no
          | .ok none S1 => turnsL f t ρ n m (i + 1) acc S1
          | _ => .no
    | none => .no
/-- the same into the store's list k -/
def turnsB (f : PEnv → Store → Res (Option PV)) (t : Pt) (ρ : PEnv) (k : Nat) : List PV → Store → Res Unit
  | [], S => .ok () S
  | x :: xs, S => match asg t x ρ S with
    | none => .no
    | some ρ1 => match f ρ1 S with
      | .ok (some y) S1 => match S1.get k with
        | some (.lst acc) => if Nat.blt acc.length szl then turnsB f t ρ k xs (S1.put k (.lst (acc ++ [y]))) else .no
        | none => .no
      | .ok none S1 => turnsB f t ρ k xs S1
      | _ => .no
def compOf (b : Bool) (s : Src) (f : PEnv → Store → Res (Option PV)) (t : Pt) (ρ : PEnv) (S : Store) : Res PV :=
  match b, s with
  | false, .snap xs => if Nat.ble xs.length szl then (turns f t ρ xs [] S).bind fun ys S2 => .ok (.lst ys) S2 else .no
  | false, .live n => (turnsL f t ρ n (fuelOf S n) 0 [] S).bind fun ys S2 => .ok (.lst ys) S2
  | true, .snap xs => (turnsB f t ρ S.size xs (S.add (.lst []))).bind fun _ S2 => .ok (.ref S.size) S2
  | true, .live _ => .no
def turnF (M : Ev) (ifs : Option E) (el : E) : PEnv → Store → Res (Option PV) := match ifs with
  | none => fun ρ S => (M.e el ρ S).bind fun v S1 => .ok (some v) S1
  | some c => fun ρ S => (M.t c ρ S).bind fun k S1 => if k then (M.e el ρ S1).bind fun v S2 => .ok (some v) S2 else .ok none S1

def evStep (cf : CF) (ih : Ev) : Ev where
  e := fun x ρ S => match x with
    | .var i => match ρ[i]? with
      | some (some v) => .ok v S
      | _ => .no
    | .con v => .ok v S
    | .tup es => (evs ih.e es ρ S).bind fun xs S1 => if Nat.ble xs.length szl then .ok (.tup xs) S1 else .no
    | .lst b es => (evs ih.e es ρ S).bind fun xs S1 => if Nat.ble xs.length szl then mkl b xs S1 else .no
    | .dis ks es => (evs ih.e es ρ S).bind fun xs S1 => if Nat.beq ks.length xs.length then .ok (.dic (ks.zip xs)) S1 else .no
    | .bin o a b => (ih.e a ρ S).bind fun v S1 => (ih.e b ρ S1).bind fun w S2 => ofO S2 (bop o S2 v w)
    | .neg a => (ih.e a ρ S).bind fun v S1 => match v with
      | .int i => .ok (.int (-i)) S1
      | _ => .no
    | .nott a => (ih.e a ρ S).bind fun v S1 => match tru S1 v with
      | some c => .ok (.bl !c) S1
      | none => .no
    | .cmp o a b => (ih.e a ρ S).bind fun v S1 => (ih.e b ρ S1).bind fun w S2 => (ofB S2 (cop o S2 v w)).bind fun c S3 => .ok (.bl c) S3
    | .chain o o' a b c => (ih.e a ρ S).bind fun v S1 => (ih.e b ρ S1).bind fun w S2 => (ofB S2 (cop o S2 v w)).bind fun k S3 =>
        if k then (ih.e c ρ S3).bind fun u S4 => (ofB S4 (cop o' S4 w u)).bind fun c S5 => .ok (.bl c) S5 else .ok (.bl false) S3
    | .andd a b => (ih.e a ρ S).bind fun v S1 => match tru S1 v with
      | some true => ih.e b ρ S1
      | some false => .ok v S1
      | none => .no
    | .orr a b => (ih.e a ρ S).bind fun v S1 => match tru S1 v with
      | some true => .ok v S1
      | some false => ih.e b ρ S1
      | none => .no
    | .ifx c a b => (ih.t c ρ S).bind fun k S1 => if k then ih.e a ρ S1 else ih.e b ρ S1
    | .idx a i => (ih.e a ρ S).bind fun v S1 => (ih.e i ρ S1).bind fun w S2 => ofO S2 (getIx S2 v w)
    | .slc a lo hi => (ih.e a ρ S).bind fun v S1 => (evo ih.e lo ρ S1).bind fun l S2 => (evo ih.e hi ρ S2).bind fun h S3 => ofO S3 (slice S3 v l h)
    | .isi a cs => (ih.e a ρ S).bind fun v S1 => match tyName S1 v with
      | some t => .ok (.bl (cs.any (isOf t))) S1
      | none => .no
    | .call f as => (evs ih.e as ρ S).bind fun vs S1 => cf f vs S1
    | .blt b as => (evs ih.e as ρ S).bind fun vs S1 => bltOf b S1 vs
    | .meth m o as => (ih.e o ρ S).bind fun v S1 => if isL (dr S1 v) then (evs ih.e as ρ S1).bind fun vs S2 => methOf m S2 v vs else .no
    | .comp b vs t it ifs el => (src ih.e it ρ S).bind fun s S1 => compOf b s (turnF ih ifs el) t (wip ρ vs) S1
    | _ => .no
  t := fun x ρ S => match x with
    | .nott a => (ih.t a ρ S).bind fun k S1 => .ok (!k) S1
    | .andd a b => (ih.t a ρ S).bind fun k S1 => if k then ih.t b ρ S1 else .ok false S1
    | .orr a b => (ih.t a ρ S).bind fun k S1 => if k then .ok true S1 else ih.t b ρ S1
    | .ifx c a b => (ih.t c ρ S).bind fun k S1 => if k then ih.t a ρ S1 else ih.t b ρ S1
    | .cmp o a b => (ih.e a ρ S).bind fun v S1 => (ih.e b ρ S1).bind fun w S2 => ofB S2 (cop o S2 v w)
    | .chain o o' a b c => (ih.e a ρ S).bind fun v S1 => (ih.e b ρ S1).bind fun w S2 => (ofB S2 (cop o S2 v w)).bind fun k S3 =>
        if k then (ih.e c ρ S3).bind fun u S4 => ofB S4 (cop o' S4 w u) else .ok false S3
    | a => (ih.e a ρ S).bind fun v S1 => ofB S1 (tru S1 v)
def ev0 : Ev := ⟨fun _ _ _ => .no, fun _ _ _ => .no⟩
noncomputable def ev (cf : CF) (n : Nat) : Ev := Nat.rec ev0 (fun _ ih => evStep cf ih) n

/-! ### statements -/
abbrev XF := Sm → PEnv → Store → Res Out
def xss (f : XF) : List Sm → PEnv → Store → Res Out
  | [], ρ, S => .ok (.nx ρ) S
  | x :: xs, ρ, S => (f x ρ S).bind fun o S1 => match o with
    | .nx ρ1 => xss f xs ρ1 S1
    | o => .ok o S1
def loopS (f : PEnv → Store → Res Out) (t : Pt) : List PV → PEnv → Store → Res Out
  | [], ρ, S => .ok (.nx ρ) S
  | x :: xs, ρ, S => match asg t x ρ S with
    | none => .no
    | some ρ1 => (f ρ1 S).bind fun o S1 => match o with
      | .nx ρ2 => loopS f t xs ρ2 S1
      | .ct ρ2 => loopS f t xs ρ2 S1
      | .bk ρ2 => .ok (.nx ρ2) S1
      | .rt v => .ok (.rt v) S1
def loopL (f : PEnv → Store → Res Out) (t : Pt) (n : Nat) : Nat → Nat → PEnv → Store → Res Out
  | 0, _, _, _ => .no
  | m + 1, i, ρ, S => match S.get n with
    | none => .no
    | some (.lst xs) => match xs[i]? with
      | none => .ok (.nx ρ) S
      | some x => match asg t x ρ S with
        | none => .no
        | some ρ1 => (f ρ1 S).bind fun o S1 => match o with
          | .nx ρ2 => loopL f t n m (i + 1) ρ2 S1
          | .ct ρ2 => loopL f t n m (i + 1) ρ2 S1
          | .bk ρ2 => .ok (.nx ρ2) S1
          | .rt v => .ok (.rt v) S1
def loopW (c : PEnv → Store → Res Bool) (f : PEnv → Store → Res Out) : Nat → PEnv → Store → Res Out
  | 0, _, _ => .no
  | m + 1, ρ, S => (c ρ S).bind fun k S1 => if k then (f ρ S1).bind fun o S2 => match o with
      | .nx ρ2 => loopW c f m ρ2 S2
      | .ct ρ2 => loopW c f m ρ2 S2
      | .bk ρ2 => .ok (.nx ρ2) S2
      | .rt v => .ok (.rt v) S2
    else .ok (.nx ρ) S1
def setAll : List Nat → List PV → PEnv → Option PEnv
  | [], [], ρ => some ρ
  | i :: is, v :: vs, ρ => setAll is vs (ρ.set i (some v))
  | _, _, _ => none
def setIx (S : Store) (o i v : PV) : Option Store :=
  match o, i with
  | .ref n, .int k => match S.get n with
    | some (.lst xs) => match L2.ixN xs.length k with
      | some j => some (S.put n (.lst (xs.set j v)))
      | none => none
    | none => none
  | _, _ => none
def pick (f : List Sm → PEnv → Store → Res Out) (v : PV) (ρ : PEnv) : List (Option PV × List Sm) → Store → Res Out
  | [], S => .ok (.nx ρ) S
  | (none, b) :: _, S => f b ρ S
  | (some w, b) :: r, S => match scalEq v w with
    | some true => f b ρ S
    | some false => pick f v ρ r S
    | none => .no
def xStep (M : Ev) (w : Nat) (ih : XF) : XF := fun x ρ S => match x with
  | .set t e => (M.e e ρ S).bind fun v S1 => match asg t v ρ S1 with
    | some ρ1 => .ok (.nx ρ1) S1
    | none => .no
  | .par ts es => (evs M.e es ρ S).bind fun vs S1 => match setAll ts vs ρ with
    | some ρ1 => .ok (.nx ρ1) S1
    | none => .no
  | .sub o i e => (M.e e ρ S).bind fun v S1 => (M.e o ρ S1).bind fun p S2 => (M.e i ρ S2).bind fun k S3 => match setIx S3 p k v with
    | some S4 => .ok (.nx ρ) S4
    | none => .no
  | .exp e => (M.e e ρ S).bind fun _ S1 => .ok (.nx ρ) S1
  | .iff c a b => (M.t c ρ S).bind fun k S1 => if k then xss ih a ρ S1 else xss ih b ρ S1
  | .whl c b => loopW (M.t c) (xss ih b) w ρ S
  | .forr t it b => (src M.e it ρ S).bind fun s S1 => match s with
    | .snap xs => loopS (xss ih b) t xs ρ S1
    | .live n => loopL (xss ih b) t n (fuelOf S1 n) 0 ρ S1
  | .ret e => (M.e e ρ S).bind fun v S1 => .ok (.rt v) S1
  | .retN => .ok (.rt .non) S
  | .pas => .ok (.nx ρ) S
  | .brk => .ok (.bk ρ) S
  | .cnt => .ok (.ct ρ) S
  | .mat e cs => (M.e e ρ S).bind fun v S1 => pick (xss ih) v ρ cs S1
noncomputable def xe (M : Ev) (w : Nat) (n : Nat) : XF := Nat.rec (fun _ _ _ => .no) (fun _ ih => xStep M w ih) n

/-! ### defs -/
structure FD where
  np : Nat
  ns : Nat
  body : List Sm
def retOf (r : Res Out) : Res PV := r.bind fun o S => match o with
  | .rt v => .ok v S
  | .nx _ => .ok .non S
  | _ => .no
noncomputable def callStep (T : List FD) (w : Nat) (cf : CF) : CF := fun f vs S =>
  match T[f]? with
  | none => .no
  | some d => if Nat.beq vs.length d.np then retOf (xss (xe (ev cf 60) w 20) d.body (vs.map some ++ List.replicate (d.ns - vs.length) none) S) else .no
noncomputable def call (T : List FD) (w : Nat) (d : Nat) : CF := Nat.rec (fun _ _ _ => .no) (fun _ cf => callStep T w cf) d
end Pi
set_option maxRecDepth 100000
/-! Pi2: how pure values stand in the layer's heap; readings by the evaluator. -/
namespace Pi
open PySem L2

/-- the store's places; places that are written beside the store, to which no value leads -/
structure Mu where
  l : List Addr
  d : List Addr
instance : Membership Addr Mu := ⟨fun m a => a ∈ m.l ∨ a ∈ m.d⟩
theorem mem_mu {a : Addr} {m : Mu} : a ∈ m ↔ a ∈ m.l ∨ a ∈ m.d := Iff.rfl
section
variable (K : PySem.W.Frag)
/-- a tuple, a list that is read, at a: tracked and none of the store's, or written -/
def TupAt (H : Hp) (μ : Mu) (a : Addr) (vs : List V) : Prop :=
  (Rd H a (.tup vs) ∧ a ∉ μ) ∨ (∃ (o : Obj) (its : Array Value) (n : Nat), K.lookup a = some o ∧ o.cls = .type "tuple" ∧ o.data = .seq its n ∧ its.size ≤ sizeLine ∧ Vals vs its.toList)
def ScrAt (H : Hp) (μ : Mu) (a : Addr) (vs : List V) : Prop :=
  (Rd H a (.lst vs) ∧ a ∉ μ) ∨ (∃ (o : Obj) (its : Array Value) (n : Nat), K.lookup a = some o ∧ o.cls = .type "list" ∧ o.dict = none ∧ o.data = .seq its n ∧ its.size ≤ sizeLine ∧ Vals vs its.toList)
mutual
inductive Rep (H : Hp) (μ : Mu) : PV → V → Prop
  | non : Rep H μ .non .non
  | bl (b : Bool) : Rep H μ (.bl b) (.bl b)
  | int (i : Int) : Rep H μ (.int i) (.int i)
  | str (x : Str) : Rep H μ (.str x) (.str x)
  | tup {a : Addr} {xs : List PV} {vs : List V} : TupAt K H μ a vs → xs.length ≤ szl → RepAll H μ xs vs → Rep H μ (.tup xs) (.ref a)
  | lst {a : Addr} {xs : List PV} {vs : List V} : H a = some (.lst vs) → a ∉ μ → xs.length ≤ szl → RepAll H μ xs vs → Rep H μ (.lst xs) (.ref a)
  | dic {a : Addr} {ks : List Str} {xs : List PV} {vs : List V} : H a = some (.dK ((ks.map Sum.inr).zip vs)) → a ∉ μ → ks.length = xs.length → RepAll H μ xs vs → Rep H μ (.dic (ks.zip xs)) (.ref a)
  | ref {n : Nat} {a : Addr} : μ.l[n]? = some a → Rep H μ (.ref n) (.ref a)
  | scr {a : Addr} {ns : List Int} : ScrAt K H μ a (ns.map V.int) → ns.length ≤ szl → Rep H μ (.scr ns) (.ref a)
inductive RepAll (H : Hp) (μ : Mu) : List PV → List V → Prop
  | nil : RepAll H μ [] []
  | cons {x : PV} {u : V} {xs : List PV} {us : List V} : Rep H μ x u → RepAll H μ xs us → RepAll H μ (x :: xs) (u :: us)
end
def ORep (H : Hp) (μ : Mu) : PObj → Addr → Prop
  | .lst xs, a => ∃ vs, H a = some (.lst vs) ∧ xs.length ≤ szl ∧ RepAll K H μ xs vs
/-- the store stands in the heap -/
structure SR (H : Hp) (μ : Mu) (S : Store) : Prop where
  nd : μ.l.Nodup
  len : μ.l.length = S.objs.length
  dl : ∀ b ∈ μ.d, H b ≠ none ∧ b ∉ μ.l
  obj : ∀ (n : Nat) (a : Addr), μ.l[n]? = some a → ∃ o, S.objs[n]? = some o ∧ ORep K H μ o a
/-- the slots -/
structure ER (H : Hp) (μ : Mu) (ρ : PEnv) (σ : St) : Prop where
  len : ρ.length = σ.length
  at_ : ∀ (i : Nat) (v : PV), ρ[i]? = some (some v) → ∃ u, σ[i]? = some (some u) ∧ Rep K H μ v u
end

/-- what was tracked and is none of the store's stays; new places -/
structure After (H : Hp) (μ : Mu) (H' : Hp) (μ' : Mu) : Prop where
  keep : ∀ a, a ∉ μ.l → H a ≠ none → H' a = H a
  ext : ∃ ν : List Addr, μ'.l = μ.l ++ ν ∧ ∀ b ∈ ν, H b = none
  hid : ∃ ν : List Addr, μ'.d = ν ++ μ.d ∧ ∀ b ∈ ν, H b = none
theorem After.refl {H : Hp} {μ : Mu} : After H μ H μ := ⟨fun _ _ _ => rfl, ⟨[], by simp, by simp⟩, ⟨[], rfl, by simp⟩⟩
theorem After.trans {H H1 H2 : Hp} {μ m1 m2 : Mu} (tr : ∀ b ∈ m1.l, H1 b ≠ none) (p : After H μ H1 m1) (q : After H1 m1 H2 m2) : After H μ H2 m2 := by
  obtain ⟨k1, ⟨n1, e1, f1⟩, ⟨d1, g1, j1⟩⟩ := p
  obtain ⟨k2, ⟨n2, e2, f2⟩, ⟨d2, g2, j2⟩⟩ := q
  have back : ∀ b, H1 b = none → H b = none := fun b e => by
    by_cases hm : b ∈ μ.l
    · exact absurd e (tr b (by rw [e1]; simp [hm]))
    · by_cases hh : H b = none
      · exact hh
      · rw [k1 b hm hh] at e
        exact absurd e hh
  refine ⟨fun a ha h => ?_, ⟨n1 ++ n2, by rw [e2, e1, List.append_assoc], fun b hb => ?_⟩, ⟨d2 ++ d1, by rw [g2, g1, List.append_assoc], fun b hb => ?_⟩⟩
  · have z1 := k1 a ha h
    have hn : a ∉ n1 := fun z => h (f1 a z)
    have z2 := k2 a (by rw [e1]; simp [ha, hn]) (by rw [z1]; exact h)
    rw [z2, z1]
  · rcases List.mem_append.mp hb with z | z
    · exact f1 b z
    · exact back b (f2 b z)
  · rcases List.mem_append.mp hb with z | z
    · exact back b (j2 b z)
    · exact j1 b z
/-- a new thing beside the store -/
theorem After.new {H : Hp} {μ : Mu} {p : Addr} {o : HO} (h : H p = none) : After H μ (upd H p o) μ :=
  ⟨fun a _ ha => upd_ne fun e => ha (e ▸ h), ⟨[], by simp, by simp⟩, ⟨[], rfl, by simp⟩⟩
/-- a store of the store's -/
theorem After.put {H : Hp} {μ : Mu} {p : Addr} {o : HO} (h : p ∈ μ.l) : After H μ (upd H p o) μ :=
  ⟨fun a ha _ => upd_ne fun e => ha (e ▸ h), ⟨[], by simp, by simp⟩, ⟨[], rfl, by simp⟩⟩

section
variable {K : PySem.W.Frag} {H H' : Hp} {μ μ' : Mu} {S S' : Store}
theorem SR.trk (s : SR K H μ S) : ∀ b ∈ μ.l, H b ≠ none := fun b hb => by
  obtain ⟨n, hn⟩ := List.getElem?_of_mem hb
  obtain ⟨o, _, r⟩ := s.obj n b hn
  cases o with
  | lst xs => obtain ⟨vs, e, _⟩ := r; rw [e]; simp
theorem SR.trk2 (s : SR K H μ S) {b : Addr} (hb : b ∈ μ) : H b ≠ none := hb.elim (s.trk b) fun z => (s.dl b z).1
theorem SR.off (s : SR K H μ S) {p : Addr} (h : H p = none) : p ∉ μ := fun z => s.trk2 z h
theorem new_mem {a : Addr} {o : HO} (k : After H μ H' μ') (h : H a = some o) (hm : a ∉ μ) : H' a = some o ∧ a ∉ μ' := by
  obtain ⟨k, ⟨ν, e, f⟩, ⟨δ, e', f'⟩⟩ := k
  refine ⟨(k a (fun z => hm (.inl z)) (by rw [h]; simp)).trans h, fun z => ?_⟩
  rcases z with z | z
  · rw [e] at z
    rcases List.mem_append.mp z with z | z
    · exact hm (.inl z)
    · rw [f a z] at h; cases h
  · rw [e'] at z
    rcases List.mem_append.mp z with z | z
    · rw [f' a z] at h; cases h
    · exact hm (.inr z)
theorem rd_keep {a : Addr} {u : HO} (k : After H μ H' μ') (h : Rd H a u) (hm : a ∉ μ) : Rd H' a u ∧ a ∉ μ' := by
  rcases h with h | ⟨o, h⟩
  · exact ⟨.inl (new_mem k h hm).1, (new_mem k h hm).2⟩
  · exact ⟨.inr ⟨o, (new_mem k h hm).1⟩, (new_mem k h hm).2⟩
theorem TupAt.keep {a : Addr} {vs : List V} (k : After H μ H' μ') (h : TupAt K H μ a vs) : TupAt K H' μ' a vs :=
  h.imp (fun ⟨h, hm⟩ => rd_keep k h hm) id
theorem ScrAt.keep {a : Addr} {vs : List V} (k : After H μ H' μ') (h : ScrAt K H μ a vs) : ScrAt K H' μ' a vs :=
  h.imp (fun ⟨h, hm⟩ => rd_keep k h hm) id
theorem TupAt.sq {a : Addr} {vs : List V} (h : TupAt K H μ a vs) : SqT K H a vs := h.imp (fun z => z.1) id
theorem ScrAt.sq {a : Addr} {vs : List V} (h : ScrAt K H μ a vs) : SqL K H a vs := h.imp (fun z => z.1) id
mutual
theorem Rep.keep (k : After H μ H' μ') : ∀ {x : PV} {u : V}, Rep K H μ x u → Rep K H' μ' x u
  | _, _, .non => .non
  | _, _, .bl b => .bl b
  | _, _, .int i => .int i
  | _, _, .str x => .str x
  | _, _, .tup h l r => .tup (h.keep k) l (RepAll.keep k r)
  | _, _, .lst h hm l r => .lst (new_mem k h hm).1 (new_mem k h hm).2 l (RepAll.keep k r)
  | _, _, .dic h hm l r => .dic (new_mem k h hm).1 (new_mem k h hm).2 l (RepAll.keep k r)
  | _, _, .ref h => .ref (by
      obtain ⟨_, ⟨ν, e, _⟩, _⟩ := k
      rw [e, List.getElem?_append_left (by have := (List.getElem?_eq_some_iff.mp h).1; exact this)]
      exact h)
  | _, _, .scr h l => .scr (h.keep k) l
theorem RepAll.keep (k : After H μ H' μ') : ∀ {xs : List PV} {us : List V}, RepAll K H μ xs us → RepAll K H' μ' xs us
  | _, _, .nil => .nil
  | _, _, .cons h t => .cons (Rep.keep k h) (RepAll.keep k t)
end
theorem RepAll.length : ∀ {xs : List PV} {us : List V}, RepAll K H μ xs us → xs.length = us.length
  | _, _, .nil => rfl
  | _, _, .cons _ t => congrArg (· + 1) t.length
theorem RepAll.app : ∀ {xs ys : List PV} {us ws : List V}, RepAll K H μ xs us → RepAll K H μ ys ws → RepAll K H μ (xs ++ ys) (us ++ ws)
  | _, _, _, _, .nil, s => s
  | _, _, _, _, .cons r t, s => .cons r (t.app s)
theorem RepAll.get : ∀ {xs : List PV} {us : List V} {i : Nat} {x : PV}, RepAll K H μ xs us → xs[i]? = some x → ∃ u, us[i]? = some u ∧ Rep K H μ x u
  | _, _, _, _, .nil, e => by simp at e
  | _, _, 0, _, .cons r _, e => by simp at e; subst e; exact ⟨_, rfl, r⟩
  | _, _, i + 1, x, .cons _ t, e => by
    obtain ⟨u, h1, h2⟩ := RepAll.get (i := i) (x := x) t (by simpa using e)
    exact ⟨u, by simpa using h1, h2⟩
theorem RepAll.got : ∀ {xs : List PV} {us : List V} {i : Nat} {u : V}, RepAll K H μ xs us → us[i]? = some u → ∃ x, xs[i]? = some x ∧ Rep K H μ x u
  | _, _, _, _, .nil, e => by simp at e
  | _, _, 0, _, .cons r _, e => by simp at e; subst e; exact ⟨_, rfl, r⟩
  | _, _, i + 1, x, .cons _ t, e => by
    obtain ⟨u, h1, h2⟩ := RepAll.got (i := i) (u := x) t (by simpa using e)
    exact ⟨u, by simpa using h1, h2⟩
theorem RepAll.take : ∀ (n : Nat) {xs : List PV} {us : List V}, RepAll K H μ xs us → RepAll K H μ (xs.take n) (us.take n)
  | 0, _, _, _ => .nil
  | _ + 1, _, _, .nil => .nil
  | n + 1, _, _, .cons r t => .cons r (RepAll.take n t)
theorem RepAll.drop : ∀ (n : Nat) {xs : List PV} {us : List V}, RepAll K H μ xs us → RepAll K H μ (xs.drop n) (us.drop n)
  | 0, _, _, r => r
  | _ + 1, _, _, .nil => .nil
  | n + 1, _, _, .cons _ t => RepAll.drop n t
theorem RepAll.set {x : PV} {u : V} (r : Rep K H μ x u) : ∀ {xs : List PV} {us : List V} (i : Nat), RepAll K H μ xs us → RepAll K H μ (xs.set i x) (us.set i u)
  | _, _, _, .nil => .nil
  | _, _, 0, .cons _ t => .cons r t
  | _, _, i + 1, .cons q t => .cons q (RepAll.set r i t)
theorem RepAll.ints : ∀ (ns : List Int), RepAll K H μ (ns.map .int) (ns.map .int)
  | [] => .nil
  | i :: ns => .cons (.int i) (RepAll.ints ns)
theorem ER.keep {ρ : PEnv} {σ : St} (k : After H μ H' μ') (e : ER K H μ ρ σ) : ER K H' μ' ρ σ :=
  ⟨e.len, fun i v h => let ⟨u, h1, h2⟩ := e.at_ i v h; ⟨u, h1, h2.keep k⟩⟩
theorem ER.set {ρ : PEnv} {σ : St} {i : Nat} {x : PV} {u : V} (e : ER K H μ ρ σ) (r : Rep K H μ x u) : ER K H μ (ρ.set i (some x)) (σ.set i (some u)) := by
  refine ⟨by simp [e.len], fun j v h => ?_⟩
  by_cases hj : i = j
  · subst hj
    by_cases hl : i < ρ.length
    · rw [List.getElem?_set_self hl] at h
      cases h
      exact ⟨u, by rw [List.getElem?_set_self (by rw [← e.len]; exact hl)], r⟩
    · rw [List.getElem?_eq_none (by simpa using hl)] at h; cases h
  · rw [List.getElem?_set_ne hj] at h
    obtain ⟨w, h1, h2⟩ := e.at_ j v h
    exact ⟨w, by rw [List.getElem?_set_ne hj]; exact h1, h2⟩
theorem ER.wip {ρ : PEnv} {σ : St} (e : ER K H μ ρ σ) : ∀ vs : List Nat, ER K H μ (wip ρ vs) (wipe σ vs)
  | [] => e
  | v :: vs => by
    have q := ER.wip e vs
    refine ⟨by show ((Pi.wip ρ vs).set v none).length = ((wipe σ vs).set v none).length; simp [q.len], fun j x h => ?_⟩
    have h : ((Pi.wip ρ vs).set v none)[j]? = some (some x) := h
    show ∃ u, ((wipe σ vs).set v none)[j]? = some (some u) ∧ _
    by_cases hj : v = j
    · subst hj
      by_cases hl : v < (Pi.wip ρ vs).length
      · rw [List.getElem?_set_self hl] at h; cases h
      · rw [List.getElem?_eq_none (by simpa using hl)] at h; cases h
    · rw [List.getElem?_set_ne hj] at h
      obtain ⟨w, h1, h2⟩ := q.at_ j x h
      exact ⟨w, by rw [List.getElem?_set_ne hj]; exact h1, h2⟩
/-- the store behind a step that leaves its things as they are -/
theorem SR.same (s : SR K H μ S) (k : After H μ H' μ) (h : ∀ b ∈ μ.l, H' b = H b) : SR K H' μ S := by
  refine ⟨s.nd, s.len, fun b hb => ?_, fun n a e => ?_⟩
  · obtain ⟨h1, h2⟩ := s.dl b hb
    exact ⟨by rw [k.keep b h2 h1]; exact h1, h2⟩
  · obtain ⟨o, h1, r⟩ := s.obj n a e
    refine ⟨o, h1, ?_⟩
    cases o with
    | lst xs =>
      obtain ⟨vs, e1, l, q⟩ := r
      exact ⟨vs, (h a (List.mem_of_getElem? e)).trans e1, l, q.keep k⟩
theorem SR.new {p : Addr} {o : HO} (s : SR K H μ S) (h : H p = none) : SR K (upd H p o) μ S :=
  s.same (After.new h) fun b hb => upd_ne fun e => s.trk b hb (e ▸ h)
/-- a store into a list of the store's -/
theorem SR.put {n : Nat} {a : Addr} {xs : List PV} {vs : List V} (s : SR K H μ S) (hn : μ.l[n]? = some a) (hl : xs.length ≤ szl) (r : RepAll K H μ xs vs) : SR K (upd H a (.lst vs)) μ (S.put n (.lst xs)) := by
  have hm : a ∈ μ.l := List.mem_of_getElem? hn
  have k : After H μ (upd H a (.lst vs)) μ := After.put hm
  refine ⟨s.nd, by simpa [Store.put] using s.len, fun b hb => ?_, fun j b e => ?_⟩
  · obtain ⟨h1, h2⟩ := s.dl b hb
    exact ⟨by rw [k.keep b h2 h1]; exact h1, h2⟩
  obtain ⟨o, h1, q⟩ := s.obj j b e
  by_cases hj : n = j
  · subst hj
    rw [hn] at e; cases e
    refine ⟨.lst xs, ?_, vs, upd_same, hl, r.keep k⟩
    have hlt := (List.getElem?_eq_some_iff.mp h1).1
    show (S.objs.set n (.lst xs))[n]? = _
    rw [List.getElem?_set_self hlt]
  · refine ⟨o, ?_, ?_⟩
    · show (S.objs.set n (.lst xs))[j]? = _
      rw [List.getElem?_set_ne hj]; exact h1
    · have hne : b ≠ a := fun z => by
        subst z
        exact hj (by
          obtain ⟨l1, g1⟩ := List.getElem?_eq_some_iff.mp hn
          exact (List.getElem?_inj l1 s.nd).mp (hn.trans e.symm))
      cases o with
      | lst ys =>
        obtain ⟨ws, e1, l, q'⟩ := q
        exact ⟨ws, by rw [upd_ne hne]; exact e1, l, q'.keep k⟩
/-- the store's places with one more -/
def Mu.add (μ : Mu) (p : Addr) : Mu := ⟨μ.l ++ [p], μ.d⟩
theorem After.box {p : Addr} {o : HO} (h : H p = none) : After H μ (upd H p o) (μ.add p) :=
  ⟨fun a _ ha => upd_ne fun e => ha (e ▸ h), ⟨[p], rfl, fun b hb => by simp at hb; subst hb; exact h⟩, ⟨[], rfl, by simp⟩⟩
/-- a new list becomes one of the store's -/
theorem SR.add {p : Addr} {xs : List PV} {vs : List V} (s : SR K H μ S) (hp : H p = none) (hl : xs.length ≤ szl) (r : RepAll K H μ xs vs) : SR K (upd H p (.lst vs)) (μ.add p) (S.add (.lst xs)) := by
  have k : After H μ (upd H p (.lst vs)) (μ.add p) := After.box hp
  have hm : p ∉ μ := s.off hp
  refine ⟨?_, by simp [Store.add, Mu.add, s.len], fun b hb => ?_, fun j b e => ?_⟩
  · show (μ.l ++ [p]).Nodup
    rw [List.nodup_append]
    refine ⟨s.nd, by simp, fun a ha b hb => ?_⟩
    simp at hb; subst hb
    exact fun e => hm (.inl (e ▸ ha))
  · obtain ⟨h1, h2⟩ := s.dl b hb
    have hb : b ∈ μ.d := hb
    refine ⟨by rw [k.keep b h2 h1]; exact h1, fun z => ?_⟩
    rcases List.mem_append.mp z with z | z
    · exact h2 z
    · simp at z; subst z; exact hm (.inr hb)
  · have e : (μ.l ++ [p])[j]? = some b := e
    by_cases hj : j < μ.l.length
    · rw [List.getElem?_append_left hj] at e
      obtain ⟨o, h1, q⟩ := s.obj j b e
      refine ⟨o, ?_, ?_⟩
      · show (S.objs ++ [_])[j]? = _
        rw [List.getElem?_append_left (by rw [← s.len]; exact hj)]; exact h1
      · have hne : b ≠ p := fun z => hm (.inl (z ▸ List.mem_of_getElem? e))
        cases o with
        | lst ys =>
          obtain ⟨ws, e1, l, q'⟩ := q
          exact ⟨ws, by rw [upd_ne hne]; exact e1, l, q'.keep k⟩
    · have hj2 : j = μ.l.length := by
        have := (List.getElem?_eq_some_iff.mp e).1
        simp at this; omega
      subst hj2
      rw [List.getElem?_append_right (Nat.le_refl _)] at e
      simp at e
      subst e
      refine ⟨.lst xs, ?_, vs, upd_same, hl, r.keep k⟩
      show (S.objs ++ [_])[μ.l.length]? = _
      rw [s.len, List.getElem?_append_right (Nat.le_refl _)]
      simp

/-! ### a place that is written beside the store -/
def Mu.hide (μ : Mu) (p : Addr) : Mu := ⟨μ.l, p :: μ.d⟩
theorem After.hide {p : Addr} {o : HO} (h : H p = none) : After H μ (upd H p o) (μ.hide p) :=
  ⟨fun a _ ha => upd_ne fun e => ha (e ▸ h), ⟨[], by simp [Mu.hide], by simp⟩, ⟨[p], rfl, fun b hb => by simp at hb; subst hb; exact h⟩⟩
theorem SR.hide {p : Addr} {o : HO} (s : SR K H μ S) (h : H p = none) : SR K (upd H p o) (μ.hide p) S := by
  have k : After H μ (upd H p o) (μ.hide p) := After.hide h
  refine ⟨s.nd, s.len, fun b hb => ?_, fun n a e => ?_⟩
  · rcases List.mem_cons.mp (show b ∈ p :: μ.d from hb) with z | z
    · subst z
      exact ⟨by rw [upd_same]; simp, fun z => s.off h (.inl z)⟩
    · obtain ⟨h1, h2⟩ := s.dl b z
      exact ⟨by rw [k.keep b h2 h1]; exact h1, h2⟩
  · obtain ⟨o', h1, r⟩ := s.obj n a e
    refine ⟨o', h1, ?_⟩
    have hne : a ≠ p := fun z => s.trk a (List.mem_of_getElem? e) (z ▸ h)
    cases o' with
    | lst xs =>
      obtain ⟨vs, e1, l, q⟩ := r
      exact ⟨vs, by rw [upd_ne hne]; exact e1, l, q.keep k⟩
/-- values that lead to none of the hidden places stand when a hidden place is written, or is no longer hidden -/
theorem sub_mu {p a : Addr} (h : a ∉ μ.hide p) : a ∉ μ ∧ a ≠ p :=
  ⟨fun z => h (z.imp id fun y => List.mem_cons_of_mem _ y), fun z => h (.inr (z ▸ List.mem_cons_self))⟩
mutual
theorem Rep.wr {p : Addr} {o : HO} : ∀ {x : PV} {u : V}, Rep K H (μ.hide p) x u → Rep K (upd H p o) (μ.hide p) x u
  | _, _, .non => .non
  | _, _, .bl b => .bl b
  | _, _, .int i => .int i
  | _, _, .str x => .str x
  | _, _, .tup h l r => .tup (h.imp (fun ⟨z, hm⟩ => ⟨z.imp (fun y => by rw [upd_ne (sub_mu hm).2]; exact y) fun ⟨o, y⟩ => ⟨o, by rw [upd_ne (sub_mu hm).2]; exact y⟩, hm⟩) id) l (RepAll.wr r)
  | _, _, .lst h hm l r => .lst (by rw [upd_ne (sub_mu hm).2]; exact h) hm l (RepAll.wr r)
  | _, _, .dic h hm l r => .dic (by rw [upd_ne (sub_mu hm).2]; exact h) hm l (RepAll.wr r)
  | _, _, .ref h => .ref h
  | _, _, .scr h l => .scr (h.imp (fun ⟨z, hm⟩ => ⟨z.imp (fun y => by rw [upd_ne (sub_mu hm).2]; exact y) fun ⟨o, y⟩ => ⟨o, by rw [upd_ne (sub_mu hm).2]; exact y⟩, hm⟩) id) l
theorem RepAll.wr {p : Addr} {o : HO} : ∀ {xs : List PV} {us : List V}, RepAll K H (μ.hide p) xs us → RepAll K (upd H p o) (μ.hide p) xs us
  | _, _, .nil => .nil
  | _, _, .cons h t => .cons (Rep.wr h) (RepAll.wr t)
end
mutual
theorem Rep.show {p : Addr} : ∀ {x : PV} {u : V}, Rep K H (μ.hide p) x u → Rep K H μ x u
  | _, _, .non => .non
  | _, _, .bl b => .bl b
  | _, _, .int i => .int i
  | _, _, .str x => .str x
  | _, _, .tup h l r => .tup (h.imp (fun ⟨z, hm⟩ => ⟨z, (sub_mu hm).1⟩) id) l (RepAll.show r)
  | _, _, .lst h hm l r => .lst h (sub_mu hm).1 l (RepAll.show r)
  | _, _, .dic h hm l r => .dic h (sub_mu hm).1 l (RepAll.show r)
  | _, _, .ref h => .ref h
  | _, _, .scr h l => .scr (h.imp (fun ⟨z, hm⟩ => ⟨z, (sub_mu hm).1⟩) id) l
theorem RepAll.show {p : Addr} : ∀ {xs : List PV} {us : List V}, RepAll K H (μ.hide p) xs us → RepAll K H μ xs us
  | _, _, .nil => .nil
  | _, _, .cons h t => .cons (Rep.show h) (RepAll.show t)
end
theorem SR.wr {p : Addr} {o : HO} (s : SR K H (μ.hide p) S) : SR K (upd H p o) (μ.hide p) S := by
  have hp := s.dl p (show p ∈ p :: μ.d from List.mem_cons_self)
  refine ⟨s.nd, s.len, fun b hb => ?_, fun n a e => ?_⟩
  · obtain ⟨h1, h2⟩ := s.dl b hb
    refine ⟨?_, h2⟩
    by_cases z : b = p
    · subst z; rw [upd_same]; simp
    · rw [upd_ne z]; exact h1
  · obtain ⟨o', h1, r⟩ := s.obj n a e
    refine ⟨o', h1, ?_⟩
    have hne : a ≠ p := fun z => hp.2 (z ▸ List.mem_of_getElem? e)
    cases o' with
    | lst xs =>
      obtain ⟨vs, e1, l, q⟩ := r
      exact ⟨vs, by rw [upd_ne hne]; exact e1, l, q.wr⟩
theorem SR.show {p : Addr} (s : SR K H (μ.hide p) S) : SR K H μ S := by
  refine ⟨s.nd, s.len, fun b hb => s.dl b (List.mem_cons_of_mem _ hb), fun n a e => ?_⟩
  obtain ⟨o', h1, r⟩ := s.obj n a e
  refine ⟨o', h1, ?_⟩
  cases o' with
  | lst xs =>
    obtain ⟨vs, e1, l, q⟩ := r
    exact ⟨vs, e1, l, q.show⟩
end

/-! ### readings -/
section
variable (K : PySem.W.Frag)
/-- what is wanted of an exception: its class's number, its fields, the heap, the store's places, the store -/
abbrev XW := Nat → List PV → Hp → Mu → Store → Prop
variable (W : XW)
def Fin {α β : Type} (R : Hp → Mu → α → β → Prop) (r : Res α) (H : Hp) (μ : Mu) (C : α → β → Store → Hp → Mu → Prop) : Prop :=
  match r with
  | .ok v S' => ∀ (H' : Hp) (μ' : Mu) (u : β), After H μ H' μ' → SR K H' μ' S' → R H' μ' v u → C v u S' H' μ'
  | .ex c fs S' => ∀ (H' : Hp) (μ' : Mu), After H μ H' μ' → SR K H' μ' S' → W c fs H' μ' S'
  | .no => False
/-- a reading by the evaluator's answer -/
def RX {α β : Type} (R : Hp → Mu → α → β → Prop) (m : PEnv → Store → Res α) (σ : St) (H : Hp) (Q : β → Hp → Prop) : Prop :=
  ∃ (μ : Mu) (ρ : PEnv) (S : Store), SR K H μ S ∧ ER K H μ ρ σ ∧ Fin K W R (m ρ S) H μ fun _ u _ H' _ => Q u H'
def RB (_ : Hp) (_ : Mu) (a b : Bool) : Prop := a = b
abbrev RT (m : PEnv → Store → Res PV) : TE := RX K W (Rep K) m
abbrev RTB (m : PEnv → Store → Res Bool) : TT := RX K W RB m
abbrev RTL (m : PEnv → Store → Res (List PV)) : TA := RX K W (RepAll K) m
end
section
variable {K : PySem.W.Frag} {W : XW} {α β γ δ : Type} {R : Hp → Mu → α → β → Prop} {R2 : Hp → Mu → γ → δ → Prop} {H H1 H' : Hp} {μ m1 μ' : Mu} {S S' : Store} {σ : St} {ρ : PEnv}
theorem Fin.mono {r : Res α} {C C' : α → β → Store → Hp → Mu → Prop} (h : Fin K W R r H μ C)
    (f : ∀ v u S' H' μ', r = .ok v S' → After H μ H' μ' → SR K H' μ' S' → R H' μ' v u → C v u S' H' μ' → C' v u S' H' μ') : Fin K W R r H μ C' := by
  cases r with
  | ok v S' => exact fun H' μ' u a s q => f v u S' H' μ' rfl a s q (h H' μ' u a s q)
  | ex c fs S' => exact h
  | no => exact h
theorem Fin.shift {r : Res α} {C : α → β → Store → Hp → Mu → Prop} (s : SR K H1 m1 S) (a : After H μ H1 m1) (h : Fin K W R r H μ C) : Fin K W R r H1 m1 C := by
  cases r with
  | ok v S' => exact fun H' μ' u a' s' q => h H' μ' u (a.trans s.trk a') s' q
  | ex c fs S' => exact fun H' μ' a' s' => h H' μ' (a.trans s.trk a') s'
  | no => exact h
/-- one computation behind another -/
theorem Fin.seq {r : Res α} {k : α → Store → Res γ} {C : γ → δ → Store → Hp → Mu → Prop} (h : Fin K W R2 (r.bind k) H μ C) :
    Fin K W R r H μ fun v _ S1 H1 m1 => Fin K W R2 (k v S1) H1 m1 C := by
  cases r with
  | ok v S1 => exact fun H1 m1 u a s _ => Fin.shift s a h
  | ex c fs S1 => exact h
  | no => exact h
theorem Fin.no {C : α → β → Store → Hp → Mu → Prop} (h : Fin K W R (.no : Res α) H μ C) : False := h
theorem RX.intro {m : PEnv → Store → Res α} {Q : β → Hp → Prop} (s : SR K H μ S) (e : ER K H μ ρ σ) (h : Fin K W R (m ρ S) H μ fun _ u _ H' _ => Q u H') : RX K W R m σ H Q := ⟨μ, ρ, S, s, e, h⟩
/-- the part m of a computation m, then k: its own reading, and what is left -/
theorem RX.part {m : PEnv → Store → Res α} {k : α → Store → Res γ} {C : γ → δ → Store → Hp → Mu → Prop} (s : SR K H μ S) (e : ER K H μ ρ σ) (h : Fin K W R2 ((m ρ S).bind k) H μ C) {Q : β → Hp → Prop}
    (f : ∀ v u S' H' μ', After H μ H' μ' → SR K H' μ' S' → ER K H' μ' ρ σ → R H' μ' v u → Fin K W R2 (k v S') H' μ' C → Q u H') : RX K W R m σ H Q :=
  ⟨μ, ρ, S, s, e, (Fin.seq (R := R) h).mono fun v u S' H' μ' _ a s' q g => f v u S' H' μ' a s' (e.keep a) q g⟩
theorem Fin.ok {v : α} {u : β} {C : α → β → Store → Hp → Mu → Prop} (h : Fin K W R (.ok v S) H μ C) (s : SR K H μ S) (q : R H μ v u) : C v u S H μ := h H μ u After.refl s q
/-- a new list -/
theorem Fin.list {b : Bool} {p : Addr} {xs : List PV} {vs : List V} {C : PV → V → Store → Hp → Mu → Prop} (h : Fin K W (Rep K) (mkl b xs S) H μ C) (s : SR K H μ S) (hp : H p = none) (hl : xs.length ≤ szl) (r : RepAll K H μ xs vs) :
    ∃ v S' μ', C v (.ref p) S' (upd H p (.lst vs)) μ' := by
  cases b with
  | true =>
    refine ⟨_, _, μ.add p, h _ _ (.ref p) (After.box hp) (s.add hp hl r) (.ref ?_)⟩
    show (μ.l ++ [p])[S.size]? = _
    rw [show S.size = μ.l.length from s.len.symm, List.getElem?_append_right (Nat.le_refl _)]
    simp
  | false =>
    exact ⟨_, _, μ, h _ _ (.ref p) (After.new hp) (s.new hp) (.lst upd_same (s.off hp) hl (r.keep (After.new hp)))⟩
/-- a new tuple -/
theorem Fin.tup {p : Addr} {xs : List PV} {vs : List V} {C : PV → V → Store → Hp → Mu → Prop} (h : Fin K W (Rep K) (.ok (.tup xs) S) H μ C) (s : SR K H μ S) (hp : H p = none) (hl : xs.length ≤ szl) (r : RepAll K H μ xs vs) :
    C (.tup xs) (.ref p) S (upd H p (.tup vs)) μ :=
  h _ _ (.ref p) (After.new hp) (s.new hp) (.tup (.inl ⟨.inl upd_same, s.off hp⟩) hl (r.keep (After.new hp)))
end
section
variable {X : Cx} {e : Expr}
theorem pe_imp {t t' : TE} (h : PE X e t) (f : ∀ σ H Q, t' σ H Q → t σ H Q) : PE X e t' := ⟨fun pins s σ H Q I q => h.run pins s σ H Q I (f σ H Q q)⟩
theorem pt_imp {t t' : TT} (h : PT X e t) (f : ∀ σ H Q, t' σ H Q → t σ H Q) : PT X e t' := ⟨fun pins s σ H Q I q => h.run pins s σ H Q I (f σ H Q q)⟩
theorem pa_imp {es : List Expr} {t t' : TA} (h : PA X es t) (f : ∀ σ H Q, t' σ H Q → t σ H Q) : PA X es t' := ⟨fun pos pins s σ H Q I q => h.run pos pins s σ H Q I (f σ H Q q)⟩
theorem ps_imp {st : Stmt} {t t' : TS} (h : PS X st t) (f : ∀ D σ H, t' D σ H → t D σ H) : PS X st t' := ⟨fun pins s σ H D I q => h.run pins s σ H D I (f D σ H q)⟩
theorem pss_imp {st : List Stmt} {t t' : TS} (h : PSs X st t) (f : ∀ D σ H, t' D σ H → t D σ H) : PSs X st t' := ⟨fun pins s σ H D I q => h.run pins s σ H D I (f D σ H q)⟩
theorem pe_false {t : TE} (f : ∀ σ H Q, ¬ t σ H Q) : PE X e t := ⟨fun _ _ σ H Q _ q => (f σ H Q q).elim⟩
theorem pt_false {t : TT} (f : ∀ σ H Q, ¬ t σ H Q) : PT X e t := ⟨fun _ _ σ H Q _ q => (f σ H Q q).elim⟩
theorem RX.none {K : PySem.W.Frag} {W : XW} {α β : Type} {R : Hp → Mu → α → β → Prop} {m : PEnv → Store → Res α} (h : ∀ ρ S, m ρ S = .no) (σ : St) (H : Hp) (Q : β → Hp → Prop) : ¬ RX K W R m σ H Q := by
  rintro ⟨μ, ρ, S, _, _, q⟩
  rw [h] at q
  exact q
end
end Pi
set_option maxRecDepth 100000
/-! Pi3: the operations by values. -/
namespace Pi
open PySem L2

section
variable (K : PySem.W.Frag)
/-- a value behind dr -/
inductive DRep (H : Hp) (μ : Mu) : PV → V → Prop
  | non : DRep H μ .non .non
  | bl (b : Bool) : DRep H μ (.bl b) (.bl b)
  | int (i : Int) : DRep H μ (.int i) (.int i)
  | str (x : Str) : DRep H μ (.str x) (.str x)
  | tup {a : Addr} {xs : List PV} {vs : List V} : TupAt K H μ a vs → xs.length ≤ szl → RepAll K H μ xs vs → DRep H μ (.tup xs) (.ref a)
  | lst {a : Addr} {xs : List PV} {vs : List V} : H a = some (.lst vs) → xs.length ≤ szl → RepAll K H μ xs vs → DRep H μ (.lst xs) (.ref a)
  | dic {a : Addr} {ks : List Str} {xs : List PV} {vs : List V} : H a = some (.dK ((ks.map Sum.inr).zip vs)) → ks.length = xs.length → RepAll K H μ xs vs → DRep H μ (.dic (ks.zip xs)) (.ref a)
  | scr {a : Addr} {ns : List Int} : ScrAt K H μ a (ns.map V.int) → ns.length ≤ szl → DRep H μ (.scr ns) (.ref a)
end
section
variable {K : PySem.W.Frag} {W : XW} {H : Hp} {μ : Mu} {S : Store} {v w : PV} {x y : V}
theorem rep_dr (s : SR K H μ S) (r : Rep K H μ v x) : DRep K H μ (dr S v) x := by
  cases r with
  | non => exact .non
  | bl b => exact .bl b
  | int i => exact .int i
  | str z => exact .str z
  | tup h l q => exact .tup h l q
  | lst h hm l q => exact .lst h l q
  | dic h hm l q => exact .dic h l q
  | scr h l => exact .scr h l
  | @ref n a h =>
    obtain ⟨o, e, q⟩ := s.obj n a h
    cases o with
    | lst xs =>
      obtain ⟨vs, e1, l, q⟩ := q
      have : Pi.dr S (.ref n) = .lst xs := by
        show (match S.get n with | some (.lst xs) => PV.lst xs | none => PV.ref n) = _
        rw [show S.get n = some (.lst xs) from e]
      rw [this]
      exact .lst e1 l q
/-- what is read as a sequence -/
theorem rep_seq {xs : List PV} (s : SR K H μ S) (r : Rep K H μ v x) (h : seqOf S v = some xs) :
    ∃ a vs, x = .ref a ∧ xs.length ≤ szl ∧ RepAll K H μ xs vs ∧ (H a = some (.lst vs) ∧ dr S v = .lst xs ∨ TupAt K H μ a vs ∧ dr S v = .tup xs) := by
  have d := rep_dr s r
  unfold seqOf at h
  generalize hv : dr S v = v' at d h
  cases d with
  | tup h1 l q => simp at h; subst h; exact ⟨_, _, rfl, l, q, .inr ⟨h1, rfl⟩⟩
  | lst h1 l q => simp at h; subst h; exact ⟨_, _, rfl, l, q, .inl ⟨h1, rfl⟩⟩
  | _ => simp at h

theorem eqS_iff {a b : Str} : eqS a b = decide (a = b) := by
  unfold eqS
  rw [Bool.eq_iff_iff]
  simp only [beq_iff_eq, decide_eq_true_eq]
  constructor
  · intro h; cases a; cases b; simp at h; rw [h]
  · intro h; rw [h]

/-! ### data -/
mutual
theorem rep_dat (s : SR K H μ S) : ∀ (n : Nat) {v : PV} {x : V} {d : PyData}, Rep K H μ v x → dat n S v = some d → Dp K H x d
  | n, _, _, _, .non, h => by cases n <;> (simp [Pi.dat] at h; subst h; exact .non)
  | n, _, _, _, .bl b, h => by cases n <;> (simp [Pi.dat] at h; subst h; exact .bl b)
  | n, _, _, _, .int i, h => by cases n <;> (simp [Pi.dat] at h; subst h; exact .int i)
  | n, _, _, _, .str z, h => by cases n <;> (simp [Pi.dat] at h; subst h; exact .str z)
  | 0, _, _, _, .tup h1 l q, h => by simp [Pi.dat] at h
  | n + 1, _, _, _, .tup h1 l q, h => by
    simp only [Pi.dat, Option.map_eq_some_iff] at h
    obtain ⟨ds, e, rfl⟩ := h
    exact .tup h1.sq (repAll_dat s n q e)
  | 0, _, _, _, .lst h1 hm l q, h => by simp [Pi.dat] at h
  | n + 1, _, _, _, .lst h1 hm l q, h => by
    simp only [Pi.dat, Option.map_eq_some_iff] at h
    obtain ⟨ds, e, rfl⟩ := h
    exact .lst (.of h1) (repAll_dat s n q e)
  | n, _, _, _, .dic h1 hm l q, h => by cases n <;> simp [Pi.dat] at h
  | n, _, _, _, .scr h1 l, h => by cases n <;> simp [Pi.dat] at h
  | 0, _, _, _, .ref h1, h => by simp [Pi.dat] at h
  | n + 1, _, _, _, @Rep.ref _ _ _ k a h1, h => by
    obtain ⟨o, e, q⟩ := s.obj k a h1
    cases o with
    | lst xs =>
      obtain ⟨vs, e1, l, q⟩ := q
      simp only [Pi.dat, show S.get k = some (.lst xs) from e, Option.map_eq_some_iff] at h
      obtain ⟨ds, e2, rfl⟩ := h
      exact .lst (.of e1) (repAll_dat s n q e2)
theorem repAll_dat (s : SR K H μ S) : ∀ (n : Nat) {xs : List PV} {us : List V} {ds : List PyData}, RepAll K H μ xs us → mapO (dat n S) xs = some ds → DpAll K H us ds
  | _, _, _, _, .nil, h => by simp [mapO] at h; subst h; exact .nil
  | n, _, _, _, @RepAll.cons _ _ _ x u xs us r t, h => by
    unfold mapO at h
    cases e1 : dat n S x with
    | none => rw [e1] at h; simp at h
    | some d =>
      cases e2 : mapO (dat n S) xs with
      | none => rw [e1, e2] at h; simp at h
      | some ds' =>
        rw [e1, e2] at h; simp at h; subst h
        exact .cons (rep_dat s n r e1) (repAll_dat s n t e2)
end
end
end Pi
set_option maxRecDepth 100000
set_option maxHeartbeats 1000000
/-! Pi4: operators and comparisons. -/
namespace Pi
open PySem L2

def bopC : Bop → Operator
  | .add => .Add | .sub => .Sub | .mul => .Mult | .fdiv => .FloorDiv | .mod => .Mod | .pow => .Pow
def copC : Cop → CmpOp
  | .eq => .Eq | .ne => .NotEq | .lt => .Lt | .le => .LtE | .gt => .Gt | .ge => .GtE | .isN => .Is | .isnotN => .IsNot | .inn => .In | .notin => .NotIn
theorem szl_eq : szl = sizeLine := by rw [sizeLine_eq]; rfl
theorem ble_szl {n : Nat} (h : Nat.ble n szl = true) : n ≤ szl := Nat.le_of_ble_eq_true h

section
variable {K : PySem.W.Frag} {W : XW}
/-- two values, an answer -/
def rP (K : PySem.W.Frag) (W : XW) (m : PV → PV → Store → Res PV) : R2 := fun x y H Q => ∃ (μ : Mu) (S : Store) (v w : PV), SR K H μ S ∧ Rep K H μ v x ∧ Rep K H μ w y ∧ Fin K W (Rep K) (m v w S) H μ fun _ u _ H' _ => Q u H'
def rPB (K : PySem.W.Frag) (W : XW) (m : PV → PV → Store → Option Bool) : R2 := fun x y H Q => ∃ (μ : Mu) (S : Store) (v w : PV) (c : Bool), SR K H μ S ∧ Rep K H μ v x ∧ Rep K H μ w y ∧ m v w S = some c ∧ Q (.bl c) H
theorem opr_imp {X : Cx} {f : Value → Value → Sem Value} {r r' : R2} (h : OpR X f r) (g : ∀ x y H Q, r' x y H Q → r x y H Q) : OpR X f r' := fun pins s σ H x y v u Q I rx ry q => h pins s σ H x y v u Q I rx ry (g x y H Q q)
theorem RepAll.nil_iff {H : Hp} {μ : Mu} {xs : List PV} {us : List V} (r : RepAll K H μ xs us) : xs = [] ↔ us = [] := by
  cases r <;> simp
variable {H : Hp} {μ : Mu} {S : Store} {C : PV → V → Store → Hp → Mu → Prop}
theorem fin_int {i : Int} (f : Fin K W (Rep K) (.ok (.int i) S) H μ C) (s : SR K H μ S) : C (.int i) (.int i) S H μ := f.ok s (.int i)
theorem fin_bl {i : Bool} (f : Fin K W (Rep K) (.ok (.bl i) S) H μ C) (s : SR K H μ S) : C (.bl i) (.bl i) S H μ := f.ok s (.bl i)

theorem opr_bop {X : Cx} (o : Bop) : OpR X (binaryOp (bopC o)) (rP X.K W fun v w S => ofO S (bop o S v w)) := by
  intro pins s σ H x y vx vy Q I rx ry h
  obtain ⟨μ, S, v, w, sr, rv, rw', f⟩ := h
  have d1 := rep_dr sr rv
  have d2 := rep_dr sr rw'
  have f : Fin X.K W (Rep X.K) (ofO S (bop o S v w)) H μ fun _ u _ H' _ => Q u H' := f
  unfold bop at f
  generalize dr S v = v' at d1 f
  generalize dr S w = w' at d2 f
  cases d1 <;> cases d2 <;> first | exact (show False from f).elim | skip
  · -- ints
    rename_i i j
    cases o with
    | add => exact op_add pins s σ H _ _ vx vy Q I rx ry ⟨i, j, rfl, rfl, fin_int f sr⟩
    | sub => exact op_sub pins s σ H _ _ vx vy Q I rx ry ⟨i, j, rfl, rfl, fin_int f sr⟩
    | mul =>
      simp only [bopI] at f
      split at f
      · rename_i hc
        refine op_mul pins s σ H _ _ vx vy Q I rx ry ⟨i, j, rfl, rfl, ?_, fin_int f sr⟩
        simp only [Bool.or_eq_true, Bool.and_eq_true, decide_eq_true_eq] at hc
        have e : (2 : Int) ^ 64 = 18446744073709551616 := by decide
        unfold CMul
        rw [e]
        exact hc
      · exact (show False from f).elim
    | fdiv =>
      simp only [bopI] at f
      split at f
      · rename_i hc
        simp only [Bool.and_eq_true, decide_eq_true_eq] at hc
        exact op_fdiv pins s σ H _ _ vx vy Q I rx ry ⟨i, j, rfl, rfl, hc, fin_int f sr⟩
      · exact (show False from f).elim
    | mod =>
      simp only [bopI] at f
      split at f
      · rename_i hc
        simp only [decide_eq_true_eq] at hc
        exact op_mod pins s σ H _ _ vx vy Q I rx ry ⟨i, j, rfl, rfl, hc, fin_int f sr⟩
      · exact (show False from f).elim
    | pow =>
      simp only [bopI] at f
      split at f
      · rename_i hc
        simp only [Bool.and_eq_true, decide_eq_true_eq] at hc
        have e : (2 : Nat) ^ 64 = 18446744073709551616 := by decide
        refine op_pow pins s σ H _ _ vx vy Q I rx ry ⟨i, j, rfl, rfl, ⟨hc.1.1, hc.1.2, ?_⟩, fin_int f sr⟩
        rw [e]; exact hc.2
      · exact (show False from f).elim
  · -- tuples
    rename_i a xs vs h1 l1 q1 b ys ws h2 l2 q2
    cases o <;> first | exact (show False from f).elim | skip
    simp only at f
    split at f
    · rename_i hc
      have hc := ble_szl hc
      refine op_catA pins s σ H _ _ vx vy Q I rx ry ⟨_, _, _, _, rfl, rfl, h1.sq, h2.sq, ?_, fun z => ?_, fun z1 z2 => ?_, fun z1 z2 p hp => ?_⟩
      · rw [← q1.length, ← q2.length, ← szl_eq]; exact hc
      · have e := q1.nil_iff.mpr z
        subst e
        exact f.ok sr (.tup h2 l2 q2)
      · have e := q2.nil_iff.mpr z2
        subst e
        rw [List.append_nil] at f
        exact f.ok sr (.tup h1 l1 q1)
      · exact f.tup sr hp (by rw [List.length_append]; exact hc) (q1.app q2)
    · exact (show False from f).elim
  · -- lists
    rename_i a xs vs h1 l1 q1 b ys ws h2 l2 q2
    cases o <;> first | exact (show False from f).elim | skip
    simp only at f
    split at f
    · rename_i hc
      have hc := ble_szl hc
      refine op_cat pins s σ H _ _ vx vy Q I rx ry ⟨_, _, _, _, rfl, rfl, h1, h2, ?_, fun p hp => ?_⟩
      · rw [← q1.length, ← q2.length, ← szl_eq]; exact hc
      · obtain ⟨_, _, _, q⟩ := Fin.list (b := false) f sr hp (by rw [List.length_append]; exact hc) (q1.app q2)
        exact q
    · exact (show False from f).elim
end
end Pi
set_option maxRecDepth 100000
set_option maxHeartbeats 1000000
/-! Pi5: comparisons, subscripts, slices, built-ins, methods, by values. -/
namespace Pi
open PySem L2

section
variable {K : PySem.W.Frag} {W : XW} {H : Hp} {μ : Mu} {S : Store} {v w : PV} {x y : V}
theorem scal_ok {c : Bool} (rv : Rep K H μ v x) (rw' : Rep K H μ w y) (h : scalEq v w = some c) : scal x y = true ∧ decide (x = y) = c := by
  cases rv <;> cases rw' <;> simp only [scalEq, Option.some.injEq, reduceCtorEq] at h <;> subst h <;>
    first
      | exact ⟨rfl, rfl⟩
      | exact ⟨rfl, dec_int⟩
      | exact ⟨rfl, dec_bl⟩
      | (refine ⟨rfl, ?_⟩; rw [eqS_iff]; simp)
      | (refine ⟨rfl, ?_⟩; simp)
theorem deep_ok {c : Bool} (s : SR K H μ S) (rv : Rep K H μ v x) (rw' : Rep K H μ w y) (h : deepEq S v w = some c) :
    ∃ d e, Dp K H x d ∧ Dp K H y e ∧ SeqAt.shaped d = true ∧ SeqAt.shaped e = true ∧ PyData.eqv d e = c := by
  unfold deepEq at h
  cases e1 : dat 40 S v with
  | none => rw [e1] at h; cases h
  | some d =>
    cases e2 : dat 40 S w with
    | none => rw [e1, e2] at h; cases h
    | some e =>
      rw [e1, e2] at h
      simp only at h
      split at h
      · rename_i hc
        simp only [Bool.and_eq_true] at hc
        injection h with h
        exact ⟨d, e, rep_dat s 40 rv e1, rep_dat s 40 rw' e2, hc.1, hc.2, h⟩
      · cases h
theorem mem_ok {c : Bool} {xs : List PV} {us : List V} (s : SR K H μ S) (rv : Rep K H μ v x) (rw' : RepAll K H μ xs us) (h : memEq S v xs = some c) :
    ∃ d ds, Dp K H x d ∧ DpAll K H us ds ∧ SeqAt.shaped d = true ∧ SeqAt.shaped (.list ds) = true ∧ (ds.any fun z => PyData.eqv z d) = c := by
  unfold memEq at h
  cases e1 : dat 40 S v with
  | none => rw [e1] at h; cases h
  | some d =>
    cases e2 : mapO (dat 40 S) xs with
    | none => rw [e1, e2] at h; cases h
    | some e =>
      rw [e1, e2] at h
      simp only at h
      split at h
      · rename_i hc
        simp only [Bool.and_eq_true] at hc
        injection h with h
        exact ⟨d, e, rep_dat s 40 rv e1, repAll_dat s 40 rw' e2, hc.1, hc.2, h⟩
      · cases h
end
section
variable {X : Cx} {W : XW}
theorem op_inTu (hu : X.A.units + 65 < cLine) : OpR X (compareOp .In) (fun x y H Q => ∃ d ds, Dp X.K H x d ∧ Dp X.K H y (.tuple ds) ∧ SeqAt.shaped d = true ∧ SeqAt.shaped (.list ds) = true ∧ Q (.bl (ds.any fun z => PyData.eqv z d)) H) := by
  intro pins s σ H x y v u Q I rx ry ⟨d, ds, hd, he, sd, se, q⟩
  obtain ⟨as, r1⟩ := Dp.reads I d x v hd rx
  obtain ⟨bs, r2⟩ := Dp.reads I (.tuple ds) y u he ry
  exact SeqAt.in_tuple_reads r2 r1 (SeqAt.canLay_of_shaped se) (SeqAt.canLay_of_shaped sd) (PyProof.Rows.room_in_shaped sd hu)
    ⟨.bl _, H, I, rfl, q⟩
theorem op_notInTu (hu : X.A.units + 65 < cLine) : OpR X (compareOp .NotIn) (fun x y H Q => ∃ d ds, Dp X.K H x d ∧ Dp X.K H y (.tuple ds) ∧ SeqAt.shaped d = true ∧ SeqAt.shaped (.list ds) = true ∧ Q (.bl (!ds.any fun z => PyData.eqv z d)) H) := by
  intro pins s σ H x y v u Q I rx ry ⟨d, ds, hd, he, sd, se, q⟩
  obtain ⟨as, r1⟩ := Dp.reads I d x v hd rx
  obtain ⟨bs, r2⟩ := Dp.reads I (.tuple ds) y u he ry
  exact SeqAt.notIn_tuple_reads r2 r1 (SeqAt.canLay_of_shaped se) (SeqAt.canLay_of_shaped sd) (PyProof.Rows.room_in_shaped sd hu)
    ⟨.bl _, H, I, rfl, q⟩
theorem opr_cop (hu : X.A.units + 65 < cLine) (o : Cop) : OpR X (compareOp (copC o)) (rPB X.K W fun v w S => cop o S v w) := by
  intro pins s σ H x y vx vy Q I rx ry h
  obtain ⟨μ, S, v, w, c, sr, rv, rw', f, q⟩ := h
  have cints : ∀ (g : Int → Int → Bool), (∀ i j, cmpI o i j = some (g i j)) → cmpV o v w = some c → ∃ i j, x = .int i ∧ y = .int j ∧ Q (.bl (g i j)) H := fun g hg e => by
    cases rv <;> cases rw' <;> simp only [cmpV, reduceCtorEq] at e
    rename_i i j
    rw [hg] at e
    injection e with e
    exact ⟨i, j, rfl, rfl, by rw [e]; exact q⟩
  cases o with
  | eq =>
    have f : valEq S v w = some c := f
    unfold valEq at f
    cases e : scalEq v w with
    | some b =>
      rw [e] at f; injection f with f; subst f
      obtain ⟨h1, h2⟩ := scal_ok rv rw' e
      exact op_eq pins s σ H x y vx vy Q I rx ry ⟨h1, by rw [h2]; exact q⟩
    | none =>
      rw [e] at f
      obtain ⟨d, e', h1, h2, h3, h4, h5⟩ := deep_ok sr rv rw' f
      exact op_eqD (by omega) pins s σ H x y vx vy Q I rx ry ⟨d, e', h1, h2, h3, h4, by rw [h5]; exact q⟩
  | ne =>
    have f : (valEq S v w).map (fun c => !c) = some c := f
    obtain ⟨b, f', rfl⟩ := Option.map_eq_some_iff.mp f
    unfold valEq at f'
    cases e : scalEq v w with
    | some b' =>
      rw [e] at f'; injection f' with f'; subst f'
      obtain ⟨h1, h2⟩ := scal_ok rv rw' e
      exact op_ne pins s σ H x y vx vy Q I rx ry ⟨h1, by rw [h2]; exact q⟩
    | none =>
      rw [e] at f'
      obtain ⟨d, e', h1, h2, h3, h4, h5⟩ := deep_ok sr rv rw' f'
      exact op_neD (by omega) pins s σ H x y vx vy Q I rx ry ⟨d, e', h1, h2, h3, h4, by rw [h5]; exact q⟩
  | isN =>
    have f : (if isNon w then some (isNon v) else none) = some c := f
    cases rw' <;> simp only [isNon, Bool.false_eq_true, if_false, reduceCtorEq, if_true, Option.some.injEq] at f
    refine op_isN pins s σ H x _ vx vy Q I rx ry ⟨rfl, ?_⟩
    have : decide (x = V.non) = c := by rw [← f]; cases rv <;> simp
    rw [this]; exact q
  | isnotN =>
    have f : (if isNon w then some (!isNon v) else none) = some c := f
    cases rw' <;> simp only [isNon, Bool.false_eq_true, if_false, reduceCtorEq, if_true, Option.some.injEq] at f
    refine op_notN pins s σ H x _ vx vy Q I rx ry ⟨rfl, ?_⟩
    have : (!decide (x = V.non)) = c := by rw [← f]; cases rv <;> simp
    rw [this]; exact q
  | lt => exact op_lt pins s σ H x y vx vy Q I rx ry (cints _ (fun _ _ => rfl) f)
  | le => exact op_le pins s σ H x y vx vy Q I rx ry (cints _ (fun _ _ => rfl) f)
  | gt => exact op_gt pins s σ H x y vx vy Q I rx ry (cints _ (fun _ _ => rfl) f)
  | ge => exact op_ge pins s σ H x y vx vy Q I rx ry (cints _ (fun _ _ => rfl) f)
  | inn =>
    have f : memIn S v (dr S w) = some c := f
    have d2 := rep_dr sr rw'
    generalize dr S w = w' at d2 f
    cases d2 <;> simp only [memIn, reduceCtorEq] at f
    · rename_i a xs us h1 l q1
      obtain ⟨d, ds, e1, e2, e3, e4, e5⟩ := mem_ok sr rv q1 f
      exact op_inTu hu pins s σ H x _ vx vy Q I rx ry ⟨d, ds, e1, .tup h1.sq e2, e3, e4, by rw [e5]; exact q⟩
    · rename_i a xs us h1 l q1
      obtain ⟨d, ds, e1, e2, e3, e4, e5⟩ := mem_ok sr rv q1 f
      exact op_inD hu pins s σ H x _ vx vy Q I rx ry ⟨d, ds, e1, .lst (.of h1) e2, e3, e4, by rw [e5]; exact q⟩
  | notin =>
    have f : (memIn S v (dr S w)).map (fun c => !c) = some c := f
    obtain ⟨b, f', rfl⟩ := Option.map_eq_some_iff.mp f
    have d2 := rep_dr sr rw'
    generalize dr S w = w' at d2 f'
    cases d2 <;> simp only [memIn, reduceCtorEq] at f'
    · rename_i a xs us h1 l q1
      obtain ⟨d, ds, e1, e2, e3, e4, e5⟩ := mem_ok sr rv q1 f'
      exact op_notInTu hu pins s σ H x _ vx vy Q I rx ry ⟨d, ds, e1, .tup h1.sq e2, e3, e4, by rw [e5]; exact q⟩
    · rename_i a xs us h1 l q1
      obtain ⟨d, ds, e1, e2, e3, e4, e5⟩ := mem_ok sr rv q1 f'
      exact op_notInD hu pins s σ H x _ vx vy Q I rx ry ⟨d, ds, e1, .lst (.of h1) e2, e3, e4, by rw [e5]; exact q⟩
end
end Pi
set_option maxRecDepth 100000
set_option maxHeartbeats 1000000
/-! Pi6: subscripts, slices, built-ins, methods, by values. -/
namespace Pi
open PySem L2 PyProof.Rows

section
variable {K : PySem.W.Frag} {W : XW} {H : Hp} {μ : Mu} {S : Store} {v w : PV} {x y : V}
theorem at_pv {xs : List PV} {us : List V} {k : Int} {z : PV} (r : RepAll K H μ xs us) (h : atI xs k = some z) : ∃ u, atI us k = some u ∧ Rep K H μ z u := by
  unfold atI at h ⊢
  rw [← r.length]
  cases e : ixN xs.length k with
  | none => rw [e] at h; cases h
  | some j =>
    rw [e] at h
    obtain ⟨u, h1, h2⟩ := r.get h
    exact ⟨u, h1, h2⟩
theorem fin_o {o : Option PV} {C : PV → V → Store → Hp → Mu → Prop} (f : Fin K W (Rep K) (ofO S o) H μ C) : ∃ z, o = some z ∧ Fin K W (Rep K) (.ok z S) H μ C := by
  cases o with
  | none => exact (show False from f).elim
  | some z => exact ⟨z, rfl, f⟩
theorem assoc_ok : ∀ {ks : List Str} {xs : List PV} {us : List V} {k : Str} {z : PV}, RepAll K H μ xs us → assocS k (ks.zip xs) = some z → ∃ u, valV ((ks.map (Sum.inr (α := Int))).zip us) (Sum.inr k) = some u ∧ Rep K H μ z u
  | [], _, _, _, _, _, h => by simp [assocS] at h
  | _ :: _, [], _, _, _, _, h => by simp [assocS] at h
  | k0 :: ks, x0 :: xs, _, k, z, .cons (u := u0) (us := us) r t, h => by
    simp only [List.zip_cons_cons, assocS, eqS_iff] at h
    by_cases hk : k0 = k
    · subst hk
      rw [decide_eq_true rfl, if_pos rfl] at h
      injection h with h
      subst h
      exact ⟨u0, by simp [valV], r⟩
    · rw [decide_eq_false hk] at h
      obtain ⟨u, h1, h2⟩ := assoc_ok (ks := ks) t h
      refine ⟨u, ?_, h2⟩
      have : ¬ ((Sum.inr k0 : Key) = Sum.inr k) := fun e => hk (Sum.inr.inj e)
      simpa [valV, this] using h1
end
section
variable {X : Cx} {W : XW}
theorem ixr_imp {r r' : R2} (h : IxR X r) (g : ∀ x y H Q, r' x y H Q → r x y H Q) : IxR X r' := fun value slice pins s σ H x y v u Q I rx ry q hs => h value slice pins s σ H x y v u Q I rx ry (g x y H Q q) hs
theorem ix_dK (hu : X.A.units + 1 < cLine) : IxR X (fun x y H Q => ∃ a v, x = .ref a ∧ DGet H a y (some v) ∧ Q v H) := by
  intro value slice pins s σ H x y v u Q I rx ry ⟨a, z, ex, g, q⟩ hs
  subst ex
  obtain rfl : v = Value.ref a := rx
  exact tail_any (dict_typeIs I g) PySem.F.slot_dict_getitem.lookup (d_getItem hu I g ry fun w' s3 I3 rw' => ⟨z, H, I3, rw', q⟩) hs
theorem ix_ok (hu : X.A.units + 65 < cLine) : IxR X (rP X.K W fun v w S => ofO S (getIx S v w)) := by
  intro value slice pins s σ H x y vx vy Q I rx ry h hs
  obtain ⟨μ, S, v, w, sr, rv, rw', f⟩ := h
  have d1 := rep_dr sr rv
  replace f : Fin X.K W (Rep X.K) (ofO S (getIx S v w)) H μ fun _ u _ H' _ => Q u H' := f
  unfold getIx at f
  generalize dr S v = v' at d1 f
  obtain ⟨z, e, f⟩ := fin_o f
  have fz : ∀ u, Rep X.K H μ z u → Q u H := fun u r => Fin.ok (C := fun _ u _ H' _ => Q u H') f sr r
  cases d1 <;> cases rw' <;> simp only [reduceCtorEq] at e
  · rename_i a xs us h1 l q k
    obtain ⟨u, h2, h3⟩ := at_pv q e
    exact ix_tup value slice pins s σ H _ _ vx vy Q I rx ry ⟨_, _, k, u, rfl, rfl, h1.sq, h2, fz u h3⟩ hs
  · rename_i a xs us h1 l q k
    obtain ⟨u, h2, h3⟩ := at_pv q e
    exact ix_list value slice pins s σ H _ _ vx vy Q I rx ry ⟨_, _, k, u, rfl, rfl, .of h1, h2, fz u h3⟩ hs
  · rename_i a ks xs us h1 l q k
    obtain ⟨u, h2, h3⟩ := assoc_ok q e
    refine ix_dK (by omega) value slice pins s σ H _ _ vx vy Q I rx ry ⟨_, u, rfl, ?_, fz u h3⟩ hs
    rw [← h2]
    exact DGet.k (k := Sum.inr k) h1
/-- a slice: the value, the two bounds -/
def rSlP (K : PySem.W.Frag) (W : XW) : V → Option Int → Option Int → Hp → VK → Prop := fun x lo hi H Q => ∃ (μ : Mu) (S : Store) (v : PV), SR K H μ S ∧ Rep K H μ v x ∧ Fin K W (Rep K) (ofO S (slice S v lo hi)) H μ fun _ u _ H' _ => Q u H'
theorem pcut_rep {K : PySem.W.Frag} {H : Hp} {μ : Mu} {xs : List PV} {us : List V} (lo hi : Option Int) (r : RepAll K H μ xs us) : RepAll K H μ (pcut xs lo hi) (cutV us lo hi) := by
  unfold pcut cutV
  rw [r.length]
  exact (r.drop _).take _
theorem pcut_le (xs : List PV) (lo hi : Option Int) : (pcut xs lo hi).length ≤ xs.length := by
  unfold pcut
  rw [List.length_take, List.length_drop]
  omega
theorem sl_ok : SlR X (rSlP X.K W) := by
  intro pins s σ H x v vl vu lo hi sl Q I rx hs pl pu h
  obtain ⟨μ, S, v', sr, rv, f⟩ := h
  have d1 := rep_dr sr rv
  unfold slice at f
  generalize dr S v' = v2 at d1 f
  cases d1 <;> first | exact (show False from f).elim | skip
  · rename_i a xs us h1 l q
    refine sl_tupA pins s σ H _ v vl vu lo hi sl Q I rx hs pl pu ⟨_, _, rfl, h1.sq, fun z => ?_, fun z p hp => ?_⟩
    · have e : pcut xs lo hi = xs := by
        unfold pcut
        rw [← q.length] at z
        rw [z.1, z.2]
        simp
      have f : Fin X.K W (Rep X.K) (.ok (.tup (pcut xs lo hi)) S) H μ fun _ u _ H' _ => Q u H' := f
      rw [e] at f
      exact f.ok sr (.tup h1 l q)
    · exact Fin.tup f sr hp (Nat.le_trans (pcut_le xs lo hi) l) (pcut_rep lo hi q)
  · rename_i a xs us h1 l q
    refine sl_list pins s σ H _ v vl vu lo hi sl Q I rx hs pl pu ⟨_, _, rfl, .of h1, fun p hp => ?_⟩
    obtain ⟨_, _, _, g⟩ := Fin.list (b := false) f sr hp (Nat.le_trans (pcut_le xs lo hi) l) (pcut_rep lo hi q)
    exact g
  · rename_i a ns h1 l
    refine sl_list pins s σ H _ v vl vu lo hi sl Q I rx hs pl pu ⟨_, _, rfl, h1.sq, fun p hp => ?_⟩
    have q : RepAll X.K H μ (ns.map PV.int) (ns.map V.int) := RepAll.ints ns
    obtain ⟨_, _, _, g⟩ := Fin.list (b := false) f sr hp (Nat.le_trans (pcut_le _ lo hi) (by rw [List.length_map]; exact l)) (pcut_rep lo hi q)
    exact g
/-- o[i] = v -/
def rStP (K : PySem.W.Frag) : V → V → V → Hp → (Hp → Prop) → Prop := fun o i v H Q => ∃ (μ : Mu) (S S' : Store) (p k z : PV), SR K H μ S ∧ Rep K H μ p o ∧ Rep K H μ k i ∧ Rep K H μ z v ∧ setIx S p k z = some S' ∧ ∀ H', After H μ H' μ → SR K H' μ S' → Q H'
theorem set_ok : PSet X (rStP X.K) := by
  intro pins s σ H o i v ov iv u Q I ro ri rv h
  obtain ⟨μ, S, S', p, k, z, sr, rp, rk, rz, e, q⟩ := h
  cases rp <;> cases rk <;> simp only [setIx, reduceCtorEq] at e
  rename_i n a hn j
  obtain ⟨ob, h1, g⟩ := sr.obj n a hn
  cases ob with
  | lst xs =>
    obtain ⟨us, e1, l, ra⟩ := g
    rw [show S.get n = some (.lst xs) from h1] at e
    simp only at e
    cases ej : ixN xs.length j with
    | none => rw [ej] at e; cases e
    | some m =>
      rw [ej] at e
      injection e with e
      subst e
      refine set_list pins s σ H _ _ v ov iv u Q I ro ri rv ⟨_, _, j, m, rfl, rfl, e1, by rw [← ra.length]; exact ej, ?_⟩
      exact q _ (After.put (List.mem_of_getElem? hn)) (sr.put hn (by rw [List.length_set]; exact l) (ra.set rz m))
end
end Pi
set_option maxRecDepth 100000
set_option maxHeartbeats 1000000
/-! Pi7: built-ins and methods, by values. -/
namespace Pi
open PySem L2 PyProof.Rows

section
variable {K : PySem.W.Frag} {W : XW} {H : Hp} {μ : Mu} {S : Store} {v w : PV} {x y : V}
def rCP (K : PySem.W.Frag) (W : XW) (m : List PV → Store → Res PV) : List V → Hp → VK → Prop := fun us H Q => ∃ (μ : Mu) (S : Store) (vs : List PV), SR K H μ S ∧ RepAll K H μ vs us ∧ Fin K W (Rep K) (m vs S) H μ fun _ u _ H' _ => Q u H'
def rMP (K : PySem.W.Frag) (W : XW) (m : PV → List PV → Store → Res PV) : V → List V → Hp → VK → Prop := fun x us H Q => ∃ (μ : Mu) (S : Store) (v : PV) (vs : List PV), SR K H μ S ∧ Rep K H μ v x ∧ RepAll K H μ vs us ∧ Fin K W (Rep K) (m v vs S) H μ fun _ u _ H' _ => Q u H'
theorem rep_ints : ∀ {xs : List PV} {us : List V} {ns : List Int}, RepAll K H μ xs us → intsOf xs = some ns → us = ns.map V.int
  | _, _, _, .nil, h => by simp [intsOf] at h; subst h; rfl
  | _, _, _, .cons r t, h => by
    cases r <;> simp only [intsOf, reduceCtorEq, Option.map_eq_some_iff] at h
    obtain ⟨ns, h1, rfl⟩ := h
    rw [rep_ints t h1]; rfl
theorem rep_bools : ∀ {xs : List PV} {us : List V} {ns : List Bool}, RepAll K H μ xs us → boolsOf xs = some ns → us = ns.map V.bl
  | _, _, _, .nil, h => by simp [boolsOf] at h; subst h; rfl
  | _, _, _, .cons r t, h => by
    cases r <;> simp only [boolsOf, reduceCtorEq, Option.map_eq_some_iff] at h
    obtain ⟨ns, h1, rfl⟩ := h
    rw [rep_bools t h1]; rfl
theorem repAll1 {vs : List PV} {us : List V} (h : RepAll K H μ vs us) (e : ∃ v, vs = [v]) : ∃ v u, vs = [v] ∧ us = [u] ∧ Rep K H μ v u := by
  obtain ⟨v, rfl⟩ := e
  cases h with
  | cons r t => cases t; exact ⟨_, _, rfl, rfl, r⟩
end
section
variable {X : Cx} {W : XW}
theorem cr_imp {f : Value} {r r' : List V → Hp → VK → Prop} (h : CallR X f r) (g : ∀ xs H Q, r' xs H Q → r xs H Q) : CallR X f r' := fun pins s σ H xs us Q I rv q => h pins s σ H xs us Q I rv (g xs H Q q)
/-- a built-in of one argument, by its pure value -/
theorem c1 {f : Value} {b : Bt} {r : List V → Hp → VK → Prop} (hb : ∀ S vs, bltOf b S vs ≠ .no → ∃ v, vs = [v]) (h : CallR X f r)
    (g : ∀ (H : Hp) (μ : Mu) (S : Store) (v : PV) (x : V) (Q : VK), SR X.K H μ S → Rep X.K H μ v x → Fin X.K W (Rep X.K) (bltOf b S [v]) H μ (fun _ u _ H' _ => Q u H') → r [x] H Q) : CallR X f (rCP X.K W fun vs S => bltOf b S vs) := by
  refine cr_imp h fun us H Q ⟨μ, S, vs, sr, rv, q⟩ => ?_
  have e : ∃ v, vs = [v] := hb S vs fun z => by
    have q : Fin X.K W (Rep X.K) (bltOf b S vs) H μ fun _ u _ H' _ => Q u H' := q
    rw [z] at q; exact q
  obtain ⟨v, u, rfl, rfl, r⟩ := repAll1 rv e
  exact g H μ S v u Q sr r q
theorem one_of {b : Bt} (h2 : ∀ S v w, blt2 b S v w = none) : ∀ S vs, bltOf b S vs ≠ .no → ∃ v, vs = [v] := by
  intro S vs h
  match vs, h with
  | [], h => exact absurd rfl h
  | [v], _ => exact ⟨v, rfl⟩
  | [v, w], h => exact absurd (by show ofO S (blt2 b S v w) = .no; rw [h2]; rfl) h
  | _ :: _ :: _ :: _, h => exact absurd rfl h
theorem c_len : CallR X (.builtin "len") (rCP X.K W fun vs S => bltOf .len S vs) := by
  refine c1 (one_of fun _ _ _ => rfl) call_len_seq fun H μ S v x Q sr r f => ?_
  replace f : Fin X.K W (Rep X.K) (ofO S ((seqOf S v).map fun xs => .int xs.length)) H μ fun _ u _ H' _ => Q u H' := f
  obtain ⟨z, e, f⟩ := fin_o f
  obtain ⟨xs, e', rfl⟩ := Option.map_eq_some_iff.mp e
  obtain ⟨a, vs, rfl, l, q, h⟩ := rep_seq sr r e'
  refine ⟨a, vs, rfl, h.elim (fun z => .inl (.of z.1)) (fun z => .inr z.1.sq), ?_⟩
  rw [← q.length]
  exact Fin.ok (C := fun _ u _ H' _ => Q u H') f sr (.int _)
theorem c_tuple : CallR X (.type "tuple") (rCP X.K W fun vs S => bltOf .tupleOf S vs) := by
  refine c1 (one_of fun _ _ _ => rfl) call_tuple_of fun H μ S v x Q sr r f => ?_
  replace f : Fin X.K W (Rep X.K) (ofO S ((seqOf S v).map .tup)) H μ fun _ u _ H' _ => Q u H' := f
  obtain ⟨z, e, f⟩ := fin_o f
  obtain ⟨xs, e', rfl⟩ := Option.map_eq_some_iff.mp e
  obtain ⟨a, vs, rfl, l, q, h⟩ := rep_seq sr r e'
  refine ⟨a, vs, rfl, h.imp (fun z => ⟨.of z.1, fun p hp => ?_⟩) (fun z => ⟨z.1.sq, ?_⟩)⟩
  · exact Fin.tup (C := fun _ u _ H' _ => Q u H') f sr hp l q
  · exact Fin.ok (C := fun _ u _ H' _ => Q u H') f sr (.tup z.1 l q)
theorem c_list (c : Bool) : CallR X (.type "list") (rCP X.K W fun vs S => bltOf (.listOf c) S vs) := by
  refine c1 (one_of fun _ _ _ => rfl) call_list_of fun H μ S v x Q sr r f => ?_
  cases e : seqOf S v with
  | none =>
    replace f : Fin X.K W (Rep X.K) (match seqOf S v with | some xs => mkl c xs S | none => .no) H μ fun _ u _ H' _ => Q u H' := f
    rw [e] at f
    exact (show False from f).elim
  | some xs =>
    replace f : Fin X.K W (Rep X.K) (match seqOf S v with | some xs => mkl c xs S | none => .no) H μ fun _ u _ H' _ => Q u H' := f
    rw [e] at f
    obtain ⟨a, vs, rfl, l, q, h⟩ := rep_seq sr r e
    refine ⟨a, vs, rfl, h.elim (fun z => .inl (.of z.1)) (fun z => .inr z.1.sq), fun p hp => ?_⟩
    obtain ⟨_, _, _, g⟩ := Fin.list (b := c) (C := fun _ u _ H' _ => Q u H') f sr hp l q
    exact g
theorem c_int : CallR X (.type "int") (rCP X.K W fun vs S => bltOf .intOf S vs) := by
  refine c1 (one_of fun _ _ _ => rfl) call_int1 fun H μ S v x Q sr r f => ?_
  cases r <;> first | exact (show False from f).elim | skip
  · exact .inr ⟨_, rfl, Fin.ok (C := fun _ u _ H' _ => Q u H') f sr (.int _)⟩
  · exact .inl ⟨_, rfl, Fin.ok (C := fun _ u _ H' _ => Q u H') f sr (.int _)⟩
theorem lst_of {K : PySem.W.Frag} {H : Hp} {μ : Mu} {S : Store} {v : PV} {x : V} {xs : List PV} (sr : SR K H μ S) (r : Rep K H μ v x) (e : dr S v = .lst xs) : ∃ a vs, x = .ref a ∧ H a = some (.lst vs) ∧ xs.length ≤ szl ∧ RepAll K H μ xs vs := by
  have d := rep_dr sr r
  rw [e] at d
  cases d with
  | lst h l q => exact ⟨_, _, rfl, h, l, q⟩
theorem c_sum (hc : X.calm = true) : CallR X (.builtin "sum") (rCP X.K W fun vs S => bltOf .sumOf S vs) := by
  refine c1 (one_of fun _ _ _ => rfl) (cr_sum hc) fun H μ S v x Q sr r f => ?_
  replace f : Fin X.K W (Rep X.K) (ofO S (blt1 .sumOf S v)) H μ fun _ u _ H' _ => Q u H' := f
  obtain ⟨z, e, f⟩ := fin_o f
  simp only [blt1] at e
  split at e
  · rename_i xs ex
    obtain ⟨a, vs, rfl, h, l, q⟩ := lst_of sr r ex
    obtain ⟨ns, e', rfl⟩ := Option.map_eq_some_iff.mp e
    have := rep_ints q e'
    subst this
    exact ⟨a, ns, rfl, .of h, Fin.ok (C := fun _ u _ H' _ => Q u H') f sr (.int _)⟩
  · cases e
theorem c_all (hc : X.calm = true) : CallR X (.builtin "all") (rCP X.K W fun vs S => bltOf .allOf S vs) := by
  refine c1 (one_of fun _ _ _ => rfl) (cr_all hc) fun H μ S v x Q sr r f => ?_
  replace f : Fin X.K W (Rep X.K) (ofO S (blt1 .allOf S v)) H μ fun _ u _ H' _ => Q u H' := f
  obtain ⟨z, e, f⟩ := fin_o f
  simp only [blt1] at e
  split at e
  · rename_i xs ex
    obtain ⟨a, vs, rfl, h, l, q⟩ := lst_of sr r ex
    obtain ⟨ns, e', rfl⟩ := Option.map_eq_some_iff.mp e
    have := rep_bools q e'
    subst this
    exact ⟨a, ns, rfl, .of h, Fin.ok (C := fun _ u _ H' _ => Q u H') f sr (.bl _)⟩
  · cases e
theorem c_any (hc : X.calm = true) : CallR X (.builtin "any") (rCP X.K W fun vs S => bltOf .anyOf S vs) := by
  refine c1 (one_of fun _ _ _ => rfl) (cr_any hc) fun H μ S v x Q sr r f => ?_
  replace f : Fin X.K W (Rep X.K) (ofO S (blt1 .anyOf S v)) H μ fun _ u _ H' _ => Q u H' := f
  obtain ⟨z, e, f⟩ := fin_o f
  simp only [blt1] at e
  split at e
  · rename_i xs ex
    obtain ⟨a, vs, rfl, h, l, q⟩ := lst_of sr r ex
    obtain ⟨ns, e', rfl⟩ := Option.map_eq_some_iff.mp e
    have := rep_bools q e'
    subst this
    exact ⟨a, ns, rfl, .of h, Fin.ok (C := fun _ u _ H' _ => Q u H') f sr (.bl _)⟩
  · cases e
theorem c2 {f : Value} {b : Bt} {r : List V → Hp → VK → Prop} (h1 : ∀ S v, bltOf b S [v] = .no) (h : CallR X f r)
    (g : ∀ (H : Hp) (μ : Mu) (S : Store) (v w : PV) (x y : V) (Q : VK), SR X.K H μ S → Rep X.K H μ v x → Rep X.K H μ w y → Fin X.K W (Rep X.K) (ofO S (blt2 b S v w)) H μ (fun _ u _ H' _ => Q u H') → r [x, y] H Q) : CallR X f (rCP X.K W fun vs S => bltOf b S vs) := by
  refine cr_imp h fun us H Q ⟨μ, S, vs, sr, rv, q⟩ => ?_
  replace q : Fin X.K W (Rep X.K) (bltOf b S vs) H μ fun _ u _ H' _ => Q u H' := q
  match vs, us, rv, q with
  | [], _, _, q => exact (show False from q).elim
  | [v], _, _, q => rw [h1] at q; exact (show False from q).elim
  | [v, w], _, .cons r1 (.cons r2 .nil), q => exact g H μ S v w _ _ Q sr r1 r2 q
  | _ :: _ :: _ :: _, _, _, q => exact (show False from q).elim
theorem c_min (hc : X.calm = true) : CallR X (.builtin "min") (rCP X.K W fun vs S => bltOf .min2 S vs) := by
  refine c2 (fun _ _ => rfl) (call_min2 hc) fun H μ S v w x y Q sr r1 r2 f => ?_
  cases r1 <;> cases r2 <;> first | exact (show False from f).elim | skip
  exact ⟨_, _, rfl, Fin.ok (C := fun _ u _ H' _ => Q u H') f sr (.int _)⟩
theorem c_max (hc : X.calm = true) : CallR X (.builtin "max") (rCP X.K W fun vs S => bltOf .max2 S vs) := by
  refine c2 (fun _ _ => rfl) (call_max2 hc) fun H μ S v w x y Q sr r1 r2 f => ?_
  cases r1 <;> cases r2 <;> first | exact (show False from f).elim | skip
  exact ⟨_, _, rfl, Fin.ok (C := fun _ u _ H' _ => Q u H') f sr (.int _)⟩
/-! methods -/
theorem indexD_ok {d : PyData} : ∀ {ds : List PyData} {j : Nat}, indexD d ds = some j → ∃ z, ds[j]? = some z ∧ PyData.eqv z d = true ∧ ∀ (m : Nat) (z' : PyData), m < j → ds[m]? = some z' → PyData.eqv z' d = false
  | [], j, h => by cases h
  | b :: bs, j, h => by
    unfold indexD at h
    by_cases e : PyData.eqv b d = true
    · rw [if_pos e] at h
      injection h with h; subst h
      exact ⟨b, rfl, e, fun m z' hm => absurd hm (Nat.not_lt_zero m)⟩
    · rw [if_neg e] at h
      obtain ⟨k, h', rfl⟩ := Option.map_eq_some_iff.mp h
      obtain ⟨z, h1, h2, h3⟩ := indexD_ok h'
      refine ⟨z, h1, h2, fun m z' hm hz => ?_⟩
      cases m with
      | zero => injection hz with hz; subst hz; simpa using e
      | succ m => exact h3 m z' (by omega) (by simpa using hz)
theorem m_index (hu : X.A.units + 65 < cLine) : MtR X "list.index" (rMP X.K W fun v vs S => methOf .index S v vs) := by
  intro pins s σ H x us v uv Q I rx ru ⟨μ, S, o, vs, sr, ro, rv, f⟩
  replace f : Fin X.K W (Rep X.K) (methOf .index S o vs) H μ fun _ u _ H' _ => Q u H' := f
  match vs, us, rv, f, ru with
  | [], _, _, f, _ => exact (show False from f).elim
  | _ :: _ :: _, _, _, f, _ => exact (show False from f).elim
  | [w], _, .cons (u := y) r1 .nil, f, ru =>
    replace f : Fin X.K W (Rep X.K) (ofO S ((indexIn S w (dr S o)).map fun (j : Nat) => PV.int (j : Int))) H μ fun _ u _ H' _ => Q u H' := f
    obtain ⟨z, e, f⟩ := fin_o f
    obtain ⟨j, e', rfl⟩ := Option.map_eq_some_iff.mp e
    clear e
    have e := e'
    clear e'
    have d := rep_dr sr ro
    clear ro
    generalize dr S o = o' at d e
    cases d <;> simp only [indexIn, reduceCtorEq] at e
    rename_i a xs vs' h l q
    cases e1 : dat 40 S w with
    | none => rw [e1] at e; cases e
    | some d =>
      cases e2 : mapO (dat 40 S) xs with
      | none => rw [e1, e2] at e; cases e
      | some ds =>
        rw [e1, e2] at e
        simp only at e
        split at e
        · rename_i hs
          simp only [Bool.and_eq_true] at hs
          obtain ⟨z, h1, h2, h3⟩ := indexD_ok e
          exact mt_indexD hu pins s σ H _ _ v uv Q I rx ru ⟨_, _, d, ds, j, z, rfl, rfl, .lst (.of h) (repAll_dat sr 40 q e2), rep_dat sr 40 r1 e1, hs.2, hs.1, h1, h2, h3, Fin.ok (C := fun _ u _ H' _ => Q u H') f sr (.int _)⟩
        · cases e
theorem m_append : MtR X "list.append" (rMP X.K W fun v vs S => methOf .append S v vs) := by
  intro pins s σ H x us v uv Q I rx ru ⟨μ, S, o, vs, sr, ro, rv, f⟩
  replace f : Fin X.K W (Rep X.K) (methOf .append S o vs) H μ fun _ u _ H' _ => Q u H' := f
  match vs, us, rv, f, ru with
  | [], _, _, f, _ => exact (show False from f).elim
  | _ :: _ :: _, _, _, f, _ => exact (show False from f).elim
  | [w], _, .cons (u := y) r1 .nil, f, ru =>
    replace f : Fin X.K W (Rep X.K) (appendTo S w o) H μ fun _ u _ H' _ => Q u H' := f
    cases ro <;> first | exact (show False from f).elim | skip
    rename_i n a hn _
    obtain ⟨ob, h1, g⟩ := sr.obj n a hn
    cases ob with
    | lst xs =>
      obtain ⟨us, e1, l, ra⟩ := g
      unfold appendTo at f
      simp only [show S.get n = some (.lst xs) from h1] at f
      split at f
      · rename_i hz
        have hz : xs.length < szl := by simpa [Nat.blt_eq] using hz
        refine mt_append pins s σ H _ _ v uv Q I rx ru ⟨_, _, _, rfl, rfl, e1, by rw [← ra.length, ← szl_eq]; exact hz, ?_⟩
        exact f _ _ .non (After.put (List.mem_of_getElem? hn)) (sr.put hn (by rw [List.length_append]; exact hz) (ra.app (.cons r1 .nil))) .non
      · exact (show False from f).elim
end
end Pi
set_option maxRecDepth 100000
set_option maxHeartbeats 1000000
/-! Pi8: what is walked. -/
namespace Pi
open PySem L2 PyProof.Rows

/-- no exception is known -/
def WF : XW := fun _ _ _ _ _ => False
section
variable (K : PySem.W.Frag)
/-- J walks the values xs from (H0, m0) on, whatever happens beside -/
def JSnap (J : It) (xs : List PV) (H0 : Hp) (m0 : Mu) : Prop :=
  ∀ (H : Hp) (μ : Mu) (S : Store), After H0 m0 H μ → SR K H μ S → ∀ i,
    (∀ z, xs[i]? = some z → J.go i H ∧ ∀ x H', J.yld i H x H' → After H μ H' μ ∧ SR K H' μ S ∧ Rep K H' μ z x) ∧ (xs[i]? = none → J.stop i H)
def SrcR (H : Hp) (μ : Mu) (s : Src) (J : It) : Prop :=
  match s with
  | .snap xs => JSnap K J xs H μ
  | .live n => ∃ a, μ.l[n]? = some a ∧ J = Itl K a
abbrev RI (m : PEnv → Store → Res Src) : TI := RX K WF (SrcR K) m
end
section
variable {K : PySem.W.Frag} {H H' : Hp} {μ μ' : Mu} {S : Store}
theorem JSnap.keep {J : It} {xs : List PV} (s : SR K H' μ' S) (a : After H μ H' μ') (h : JSnap K J xs H μ) : JSnap K J xs H' μ' := fun H2 m2 S2 a2 s2 i => h H2 m2 S2 (a.trans s.trk a2) s2 i
theorem jtup {a : Addr} {xs : List PV} {vs : List V} (h : TupAt K H μ a vs) (r : RepAll K H μ xs vs) : JSnap K (Itt K a) xs H μ := by
  intro H2 m2 S2 k s2 i
  have h2 := (h.keep k).sq
  have r2 := r.keep k
  refine ⟨fun z hz => ?_, fun hz => ?_⟩
  · obtain ⟨u, hu, ru⟩ := r2.get hz
    refine ⟨⟨vs, u, h2, hu⟩, fun x H' y => ?_⟩
    obtain ⟨rfl, y⟩ := y
    have e := y vs h2
    rw [hu] at e
    injection e with e
    subst e
    exact ⟨After.refl, s2, ru⟩
  · refine ⟨vs, h2, ?_⟩
    rw [← r2.length]
    exact List.getElem?_eq_none_iff.mp hz
theorem jlst {a : Addr} {xs : List PV} {vs : List V} (h : H a = some (.lst vs)) (hm : a ∉ μ) (r : RepAll K H μ xs vs) : JSnap K (Itl K a) xs H μ := by
  intro H2 m2 S2 k s2 i
  have h2 : SqL K H2 a vs := .of (new_mem k h hm).1
  have r2 := r.keep k
  refine ⟨fun z hz => ?_, fun hz => ?_⟩
  · obtain ⟨u, hu, ru⟩ := r2.get hz
    refine ⟨⟨vs, u, h2, hu⟩, fun x H' y => ?_⟩
    obtain ⟨rfl, y⟩ := y
    have e := y vs h2
    rw [hu] at e
    injection e with e
    subst e
    exact ⟨After.refl, s2, ru⟩
  · refine ⟨vs, h2, ?_⟩
    rw [← r2.length]
    exact List.getElem?_eq_none_iff.mp hz
theorem rangeL_get : ∀ (n : Nat) (lo : Int) (i : Nat), (rangeL lo n)[i]? = if i < n then some (.int (lo + i)) else none
  | 0, lo, i => by simp [rangeL]
  | n + 1, lo, 0 => by simp [rangeL]
  | n + 1, lo, i + 1 => by
    simp only [rangeL, List.getElem?_cons_succ]
    rw [rangeL_get n (lo + 1) i]
    by_cases h : i < n
    · rw [if_pos h, if_pos (by omega)]
      congr 2
      omega
    · rw [if_neg h, if_neg (by omega)]
theorem jrng (lo : Int) (n : Nat) : JSnap K (Itr lo n) (rangeL lo n) H μ := by
  intro H2 m2 S2 k s2 i
  rw [rangeL_get]
  refine ⟨fun z hz => ?_, fun hz => ?_⟩
  · by_cases h : i < n
    · rw [if_pos h] at hz
      injection hz with hz
      subst hz
      refine ⟨h, fun x H' y => ?_⟩
      obtain ⟨rfl, rfl⟩ := y
      exact ⟨After.refl, s2, .int _⟩
    · rw [if_neg h] at hz; cases hz
  · by_cases h : i < n
    · rw [if_pos h] at hz; cases hz
    · exact Nat.le_of_not_lt h
theorem zipL_get : ∀ (xs ys : List PV) (i : Nat), (zipL xs ys)[i]? = match xs[i]?, ys[i]? with | some x, some y => some (.tup [x, y]) | _, _ => none
  | [], _, i => by simp [zipL]
  | _ :: _, [], i => by
    simp only [zipL, List.getElem?_nil]
    split <;> simp_all
  | x :: xs, y :: ys, 0 => by simp [zipL]
  | x :: xs, y :: ys, i + 1 => by
    simp only [zipL, List.getElem?_cons_succ]
    exact zipL_get xs ys i
theorem pair_new {T : Addr} {a b : PV} {x y : V} (s : SR K H μ S) (hT : H T = none) (ra : Rep K H μ a x) (rb : Rep K H μ b y) :
    After H μ (upd H T (.tup [x, y])) μ ∧ SR K (upd H T (.tup [x, y])) μ S ∧ Rep K (upd H T (.tup [x, y])) μ (.tup [a, b]) (.ref T) :=
  ⟨After.new hT, s.new hT, .tup (.inl ⟨.inl upd_same, s.off hT⟩) (by show 2 ≤ 16777216; decide) (.cons (ra.keep (After.new hT)) (.cons (rb.keep (After.new hT)) .nil))⟩
theorem jzipT {a b : Addr} {xs ys : List PV} {vs ws : List V} (h : TupAt K H μ a vs) (r : RepAll K H μ xs vs) (h' : TupAt K H μ b ws) (r' : RepAll K H μ ys ws) : JSnap K (RZ.ItzT K a b) (zipL xs ys) H μ := by
  intro H2 m2 S2 k s2 i
  have q1 := (h.keep k).sq
  have q2 := (h'.keep k).sq
  have r1 := r.keep k
  have r2 := r'.keep k
  rw [zipL_get]
  cases e1 : xs[i]? with
  | none =>
    refine ⟨fun z hz => (by cases hz), fun _ => ⟨vs, ws, q1, q2, .inl ?_⟩⟩
    rw [← r1.length]; exact List.getElem?_eq_none_iff.mp e1
  | some p =>
    cases e2 : ys[i]? with
    | none =>
      refine ⟨fun z hz => (by cases hz), fun _ => ⟨vs, ws, q1, q2, .inr ?_⟩⟩
      rw [← r2.length]; exact List.getElem?_eq_none_iff.mp e2
    | some q =>
      obtain ⟨u1, f1, g1⟩ := r1.get e1
      obtain ⟨u2, f2, g2⟩ := r2.get e2
      refine ⟨fun z hz => ⟨⟨vs, ws, u1, u2, q1, q2, f1, f2⟩, fun x H' y => ?_⟩, fun hz => (by cases hz)⟩
      injection hz with hz; subst hz
      obtain ⟨T, x', y', rfl, hT, rfl, z1, z2⟩ := y
      have e3 := z1 vs q1
      have e4 := z2 ws q2
      rw [f1] at e3; rw [f2] at e4
      injection e3 with e3; injection e4 with e4
      subst e3; subst e4
      exact pair_new s2 hT g1 g2
theorem jzipL {a b : Addr} {xs ys : List PV} {vs ws : List V} (h : H a = some (.lst vs)) (hm : a ∉ μ) (r : RepAll K H μ xs vs) (h' : H b = some (.lst ws)) (hm' : b ∉ μ) (r' : RepAll K H μ ys ws) : JSnap K (Itz K a b) (zipL xs ys) H μ := by
  intro H2 m2 S2 k s2 i
  have q1 : SqL K H2 a vs := .of (new_mem k h hm).1
  have q2 : SqL K H2 b ws := .of (new_mem k h' hm').1
  have r1 := r.keep k
  have r2 := r'.keep k
  rw [zipL_get]
  cases e1 : xs[i]? with
  | none =>
    refine ⟨fun z hz => (by cases hz), fun _ => ⟨vs, ws, q1, q2, .inl ?_⟩⟩
    rw [← r1.length]; exact List.getElem?_eq_none_iff.mp e1
  | some p =>
    cases e2 : ys[i]? with
    | none =>
      refine ⟨fun z hz => (by cases hz), fun _ => ⟨vs, ws, q1, q2, .inr ?_⟩⟩
      rw [← r2.length]; exact List.getElem?_eq_none_iff.mp e2
    | some q =>
      obtain ⟨u1, f1, g1⟩ := r1.get e1
      obtain ⟨u2, f2, g2⟩ := r2.get e2
      refine ⟨fun z hz => ⟨⟨vs, ws, u1, u2, q1, q2, f1, f2⟩, fun x H' y => ?_⟩, fun hz => (by cases hz)⟩
      injection hz with hz; subst hz
      obtain ⟨T, x', y', rfl, hT, rfl, z1, z2⟩ := y
      have e3 := z1 vs q1
      have e4 := z2 ws q2
      rw [f1] at e3; rw [f2] at e4
      injection e3 with e3; injection e4 with e4
      subst e3; subst e4
      exact pair_new s2 hT g1 g2
end
section
variable {X : Cx} {tg : Expr}
theorem pi_imp {it : Expr} {t t' : TI} (h : PI X tg it t) (f : ∀ σ H R, t' σ H R → t σ H R) : PI X tg it t' := ⟨fun pins s σ H R I q => h.run pins s σ H R I (f σ H R q)⟩
/-- a list or a tuple, walked -/
theorem pi_seq {l : Expr} {tl : TE} (hl : PE X l tl) : PI X tg l (fun σ H R => tl σ H fun x H1 => ∃ a, x = .ref a ∧ ((∃ xs, SqL X.K H1 a xs) ∧ R (Itl X.K a) H1 ∨ (∃ xs, SqT X.K H1 a xs) ∧ R (Itt X.K a) H1)) := by
  refine ⟨fun pins s σ H R I h => thn (hl.run pins s σ H _ I h) fun v s1 ⟨x, H1, I1, r1, q1⟩ => ?_⟩
  obtain ⟨a, e, q1⟩ := q1
  subst e
  cases r1
  rcases q1 with ⟨⟨xs, hq⟩, q⟩ | ⟨⟨xs, hq⟩, q⟩
  · obtain ⟨its, rv, p, hz⟩ := I1.list hq
    refine wpAny_pyIter_list p.isList ⟨s1.heap.objs.size, [s1.heap.objs.size], _, _, H1, rfl, I1.kept (t' := s1.toks) fun b o e => Heap.get?_push_of_some _ e,
      turn_list a _, ⟨_, Heap.get?_push_size _ rfl, rfl, rfl⟩, fun b hb => ?_, q⟩
    cases (show b = s1.heap.objs.size by simpa using hb)
    exact I1.fpOk (Nat.le_refl _) (I1.hok.fresh (Nat.le_refl _))
  · obtain ⟨its, rv, p, hz⟩ := I1.tuple hq
    refine wpAny_pyIter_tuple (show s1.heap.IsTuple a its.toArray from p) ⟨s1.heap.objs.size, [s1.heap.objs.size], _, _, H1, rfl, I1.kept (t' := s1.toks) fun b o e => Heap.get?_push_of_some _ e,
      turn_tuple a _, ⟨_, Heap.get?_push_size _ rfl, rfl, rfl⟩, fun b hb => ?_, q⟩
    cases (show b = s1.heap.objs.size by simpa using hb)
    exact I1.fpOk (Nat.le_refl _) (I1.hok.fresh (Nat.le_refl _))
theorem bnd_iff {i : Int} (h : bnd i = true) : -(2 ^ 62) ≤ i ∧ i < 2 ^ 62 := by
  unfold bnd at h
  simp only [Bool.and_eq_true, decide_eq_true_eq] at h
  have e : (2 : Int) ^ 62 = 4611686018427387904 := by decide
  rw [e]; exact h
variable {m1 m2 : PEnv → Store → Res PV}
/-- the value of an expression, walked -/
def srcV (v : PV) (S : Store) : Res Src := match v with
  | .tup xs | .lst xs => .ok (.snap xs) S
  | .ref n => .ok (.live n) S
  | _ => .no
theorem pi_val {l : Expr} (hl : PE X l (RT X.K WF m1)) : PI X tg l (RI X.K fun ρ S => (m1 ρ S).bind srcV) := by
  refine pi_imp (pi_seq hl) fun σ H R ⟨μ, ρ, S, sr, er, f⟩ => ?_
  refine RX.part (k := srcV) sr er f fun v u S1 H1 μ1 a1 sr1 er1 r1 g => ?_
  cases r1 <;> first | exact (show False from g).elim | skip
  · rename_i a xs vs h l r
    exact ⟨a, rfl, .inr ⟨⟨vs, h.sq⟩, Fin.ok (C := fun _ J _ H' _ => R J H') g sr1 (jtup h r)⟩⟩
  · rename_i a xs vs h hm l r
    exact ⟨a, rfl, .inl ⟨⟨vs, .of h⟩, Fin.ok (C := fun _ J _ H' _ => R J H') g sr1 (jlst h hm r)⟩⟩
  · rename_i n a hn
    obtain ⟨o, e, q⟩ := sr1.obj n a hn
    cases o with
    | lst xs =>
      obtain ⟨vs, e1, _⟩ := q
      exact ⟨a, rfl, .inl ⟨⟨vs, .of e1⟩, Fin.ok (C := fun _ J _ H' _ => R J H') g sr1 ⟨a, hn, rfl⟩⟩⟩
/-- arguments without a star -/
def noStar : Expr → Bool
  | .Starred .. => false
  | _ => true
theorem star_no {e : Expr} {es : List Expr} {env : Env} (h : noStar e = true) : starEach (e :: es) env = (false, eval e env) :: starEach es env := by
  cases e <;> first | rfl | cases h
theorem star_any {pos : Pos} {env : Env} : ∀ {es : List Expr}, es.all noStar = true → (backTo pos (starEach es env)).any (·.1) = false
  | [], _ => rfl
  | e :: es, h => by
    simp only [List.all_cons, Bool.and_eq_true] at h
    rw [star_no h.1]
    have ih := star_any (pos := pos) (env := env) h.2
    simp only [backTo, List.map_cons, List.any_cons, Bool.false_or] at ih ⊢
    exact ih
theorem pi_r1 {a : Expr} {p pos : Pos} (hg : Gl X "range") (hm : X.mg "range" = none) (ha : PE X a (RT X.K WF m1)) (hs : noStar a = true) :
    PI X tg (.Call (.Name "range" p) [a] [] pos) (RI X.K fun ρ S => (m1 ρ S).bind fun v S1 => match v with
    | .int j => if bnd j then .ok (.snap (rangeL 0 j.toNat)) S1 else .no
    | _ => .no) := by
  refine pi_imp (pi_range1 hg hm (pa_cons ha pa_nil (star_no hs)) (star_no hs)) fun σ H R ⟨μ, ρ, S, sr, er, f⟩ => ?_
  refine RX.part sr er f fun v u S1 H1 μ1 a1 sr1 er1 r1 g => ?_
  cases r1 <;> first | exact (show False from g).elim | skip
  rename_i j
  simp only at g
  split at g
  · rename_i hb
    obtain ⟨b1, b2⟩ := bnd_iff hb
    exact ⟨j, rfl, b1, b2, Fin.ok (C := fun _ J _ H' _ => R J H') g sr1 (jrng 0 _)⟩
  · exact (show False from g).elim
theorem pi_r2 {a b : Expr} {p pos : Pos} (hg : Gl X "range") (hm : X.mg "range" = none) (ha : PE X a (RT X.K WF m1)) (hb : PE X b (RT X.K WF m2)) (hs : noStar a = true) (hs2 : noStar b = true) :
    PI X tg (.Call (.Name "range" p) [a, b] [] pos) (RI X.K fun ρ S => (m1 ρ S).bind fun v S1 => (m2 ρ S1).bind fun w S2 => match v, w with
    | .int i, .int j => if bnd i && bnd j then .ok (.snap (rangeL i (j - i).toNat)) S2 else .no
    | _, _ => .no) := by
  refine pi_imp (pi_range2 hg hm (pa_cons ha (pa_cons hb pa_nil (star_no hs2)) (star_no hs)) (by rw [star_no hs, star_no hs2] <;> rfl) (star_no hs2)) fun σ H R ⟨μ, ρ, S, sr, er, f⟩ => ?_
  refine RX.part sr er f fun v u S1 H1 μ1 a1 sr1 er1 r1 g0 => ?_
  refine RX.part sr1 er1 g0 fun w u2 S2 H2 μ2 a2 sr2 er2 r2 g => ?_
  replace r1 := r1.keep a2
  cases r1 <;> first | exact (show False from g).elim | skip
  cases r2 <;> first | exact (show False from g).elim | skip
  rename_i i j
  simp only at g
  split at g
  · rename_i hb
    simp only [Bool.and_eq_true] at hb
    obtain ⟨b1, b2⟩ := bnd_iff hb.1
    obtain ⟨b3, b4⟩ := bnd_iff hb.2
    exact ⟨i, j, rfl, ⟨b1, b2, b3, b4⟩, Fin.ok (C := fun _ J _ H' _ => R J H') g sr2 (jrng i _)⟩
  · exact (show False from g).elim
theorem pi_z {a b : Expr} {p pos tpos : Pos} {elts : List Expr} {kk : Nat} (hg : Gl X "zip") (hm : X.mg "zip" = none) (ha : PE X a (RT X.K WF m1)) (hb : PE X b (RT X.K WF m2)) (hs : noStar a = true) (hs2 : noStar b = true) :
    PI X (.Tuple elts kk tpos) (.Call (.Name "zip" p) [a, b] [] pos) (RI X.K fun ρ S => (m1 ρ S).bind fun v S1 => (m2 ρ S1).bind fun w S2 => match v, w with
    | .tup xs, .tup ys | .lst xs, .lst ys => .ok (.snap (zipL xs ys)) S2
    | _, _ => .no) := by
  refine pi_imp (RZ.pi_zipA hg hm (pa_cons ha (pa_cons hb pa_nil (star_no hs2)) (star_no hs)) (star_no hs) (star_any (by simp [hs2]))) fun σ H R ⟨μ, ρ, S, sr, er, f⟩ => ?_
  refine RX.part sr er f fun v u S1 H1 μ1 a1 sr1 er1 r1 g0 => ?_
  refine RX.part sr1 er1 g0 fun w u2 S2 H2 μ2 a2 sr2 er2 r2 g => ?_
  replace r1 := r1.keep a2
  cases r1 <;> first | exact (show False from g).elim | skip
  · cases r2 <;> first | exact (show False from g).elim | skip
    rename_i a xs vs h l r b ys ws h' l' r'
    exact ⟨a, b, vs, ws, rfl, .inr ⟨h.sq, h'.sq, Fin.ok (C := fun _ J _ H' _ => R J H') g sr2 (jzipT h r h' r')⟩⟩
  · cases r2 <;> first | exact (show False from g).elim | skip
    rename_i a xs vs h hm l r b ys ws h' hm' l' r'
    exact ⟨a, b, vs, ws, rfl, .inl ⟨.of h, .of h', Fin.ok (C := fun _ J _ H' _ => R J H') g sr2 (jzipL h hm r h' hm' r')⟩⟩
end
end Pi
set_option maxRecDepth 100000
set_option maxHeartbeats 1000000
/-! Pi9: targets. -/
namespace Pi
open PySem L2 PyProof.Rows

section
variable {prog : Program} {w : World} {A : Around} {E : Value → Shared → Prop} {s : Shared} {env : Env}
/-- a tuple into n names and a starred one behind them -/
theorem star_items {t : Addr} {items : Array Value} {n : Nat} {Q : List Value → Shared → Prop} (ht : IsTup s.heap t items) (hh : A.handled = none) (hn : n ≤ items.size) (hz : items.size ≤ 16384)
    (h : ∀ D h' tk, s.heap.get? D = none → (∀ b o, s.heap.get? b = some o → h'.get? b = some o) → h'.get? D = some { cls := .type "list", data := .seq (items.toList.drop n).toArray } →
      Q (items.toList.take n ++ [.ref D]) { s with heap := h', toks := tk }) : wpAny (model prog w) A (unpackItems (.ref t) (n + 1) (some n)) Q E s := by
  have hlt : t ≠ s.heap.objs.size := (by obtain ⟨o, ho, _⟩ := ht; exact Nat.ne_of_lt (Heap.lt_size ho))
  unfold unpackItems
  refine wpAny_bind ?_
  unfold notIterableAtAll
  refine wpAny_bind (wpAny_specialOf (ht.typeIs) (slot_tuple_iter.lookup) (wpAny_pure ?_))
  rw [if_neg Bool.false_ne_true]
  refine wpAny_bind (wpAny_holding (iter_tuple (ht) ?_))
  refine wpAny_bind (wpAny_holding (draw_tuple hlt n 0 _ _ ⟨_, Heap.get?_push_size _ rfl, rfl, rfl⟩ (ht.push _)
    (by omega) fun g1 it1 sb => ?_))
  have t1 : IsTup g1 t items := IsTup.extBut (ht.push _) sb.extBut hlt
  rw [Nat.zero_add] at it1
  obtain ⟨oi, hoi, _⟩ := id it1
  obtain ⟨ol, hol, _⟩ := id t1
  rw [List.drop_zero]
  have fl : (items.toList.take n).length = n := by
    rw [List.length_take, Array.length_toList]
    omega
  rw [if_neg (by rw [fl]; exact Nat.lt_irrefl n)]
  have dl : (items.toList.drop n).length = items.size - n := by
    rw [List.length_drop, Array.length_toList]
  have k1 : ∀ b o, s.heap.get? b = some o → b ≠ s.heap.objs.size ∧ g1.get? b = some o := fun b o e =>
    ⟨Nat.ne_of_lt (Heap.lt_size e), sb.extBut b o (Nat.ne_of_lt (Heap.lt_size e)) (Heap.get?_push_of_some _ e)⟩
  refine wpAny_bind (wpAny_holding (PySem.W.kun_collect (s := { s with heap := g1 }) (T := "tuple_iterator") (.inr (.inr (.inr rfl)))
    (Walks.tuple (A := A.in1) hh s.heap.objs.size t hlt items) (fun j u st => st.1.typeIs) (k := n) hn ⟨it1, t1⟩ (Heap.lt_size hoi) (Heap.lt_size hol) (fun g2 tk hk => ?_) (by rw [sizeLine_eq]; omega)))
  show wpAny _ _ (if (items.toList.drop n).length < n + 1 - 1 - n then _ else _) _ _ _
  rw [if_neg (by omega)]
  show wpAny _ _ (newList ((items.toList.drop n).take ((items.toList.drop n).length - (n + 1 - 1 - n))) >>= fun d => pure (items.toList.take n ++ [d] ++ (items.toList.drop n).drop ((items.toList.drop n).length - (n + 1 - 1 - n)))) _ _ _
  rw [show (items.toList.drop n).length - (n + 1 - 1 - n) = (items.toList.drop n).length by omega, List.take_length, List.drop_length]
  refine wpAny_bind (wpAny_newList ?_ (by rw [dl, sizeLine_eq]; omega))
  have k2 : ∀ b o, s.heap.get? b = some o → g2.get? b = some o := fun b o e => hk b o (k1 b o e).1 (k1 b o e).2
  refine wpAny_pure ?_
  rw [List.append_nil]
  refine h g2.objs.size _ tk ?_ (fun b o e => Heap.get?_push_of_some _ (k2 b o e)) (Heap.get?_push_size _ rfl)
  cases e : s.heap.get? g2.objs.size with
  | none => rfl
  | some o => exact absurd (Heap.lt_size (k2 _ _ e)) (Nat.lt_irrefl _)
theorem star_tuple {elts : List Expr} {k : Nat} {pos : Pos} {t : Addr} {items : Array Value} {n : Nat} {Q : Unit → Shared → Prop} (ht : IsTup s.heap t items) (hh : A.handled = none) (hlen : (assignEach elts env).length = n + 1) (hstar : (assignEach elts env).findIdx? (·.1) = some n)
    (hn : n ≤ items.size) (hz : items.size ≤ 16384)
    (h : ∀ D h' tk, s.heap.get? D = none → (∀ b o, s.heap.get? b = some o → h'.get? b = some o) → h'.get? D = some { cls := .type "list", data := .seq (items.toList.drop n).toArray } →
      wpAny (model prog w) A (assignInOrder ((assignEach elts env).map (·.2)) (items.toList.take n ++ [.ref D])) Q E { s with heap := h', toks := tk }) : wpAny (model prog w) A (assign (.Tuple elts k pos) env (.ref t)) Q E s := by
  rw [assign_Tuple]
  refine wpAny_bind (wpAny_standAt ?_)
  unfold unpack
  rw [hlen, hstar]
  exact wpAny_bind (wpAny_holding (star_items ht hh hn hz h))
end
section
variable {X : Cx} {pins : List (Addr × Obj)} {σ : L2.St} {H : Hp} {s : Shared}
/-- a new object at any free place -/
theorem inv_laid {a : Addr} {o : HO} {h' : Heap} {t' : Nat} (I : Inv X pins σ H s) (k : ∀ b u, s.heap.get? b = some u → h'.get? b = some u) (hp : s.heap.get? a = none) (new : ObjOk X.prog X.w (upd H a o) h' a o) :
    H a = none ∧ Inv X pins σ (upd H a o) { s with heap := h', toks := t' } := by
  have hn : H a = none := by
    cases e : H a with
    | none => rfl
    | some u =>
      obtain ⟨v, q⟩ : ∃ v, s.heap.get? a = some v := by
        have lt := I.hok.lt e
        have x := I.hok a u e
        revert x
        induction u with
        | lst xs => rintro ⟨z, its, n, r, e⟩; exact ⟨_, e⟩
        | tup xs => rintro ⟨z, its, r, ob, e, c⟩; exact ⟨_, e⟩
        | dK kvs => rintro ⟨z, y, vs, r, ob, es, ep, e, c⟩; exact ⟨_, e⟩
        | dT kvs => rintro ⟨z, y, xs, r, ob, es, ep, e, c⟩; exact ⟨_, e⟩
        | set S n => rintro ⟨ob, es, ep, t, e, c⟩; exact ⟨_, e⟩
        | ins C dx fs => rintro ⟨d, z, ne, e, r⟩; exact ⟨_, e⟩
        | own y => rintro ⟨ob, e⟩; exact ⟨_, e⟩
        | xd fs => rintro ⟨mA, ⟨od, es, ep, e, c⟩, r⟩; exact ⟨_, e⟩
        | rng lo hi => rintro ⟨t, u, v, e⟩; exact ⟨_, e⟩
        | frz ob u ih => rintro ⟨e, q⟩; exact ⟨_, e⟩
        | tbl ps => intro e; exact ⟨_, e⟩
        | met f y => intro e; exact ⟨_, e⟩
        | ext φ => rintro ⟨p, ⟨o, e⟩, st⟩; exact ⟨_, e⟩
      rw [hp] at q; cases q
  have ne : ∀ b u, s.heap.get? b = some u → b ≠ a := fun b u e z => by rw [z, hp] at e; cases e
  refine ⟨hn, I.un (t' := t') ⟨fun b u q _ _ _ => k b u q, fun b u q _ _ _ => ⟨u.slots, k b u q⟩, fun b u q n _ => by rw [upd_ne (ne b u q)]; exact n, fun b u q _ => ⟨u, k b u q⟩,
    fun b xs q => by rw [upd_ne (ne_of_none q hn)]; exact q, fun b u xs q => by rw [upd_ne (ne_of_none q hn)]; exact q, fun b ps q => ⟨#[], by rw [upd_ne (ne_of_none q hn), q]; simp⟩⟩ fun b u e => ?_⟩
  by_cases hb : b = a
  · subst hb; rw [upd_same] at e; cases e; exact new
  · rw [upd_ne hb] at e
    exact ObjOk.stay (I.hok b u e) (fun c v _ q => k c v q) (fun c q => by rw [upd_ne (ne_of_none q hn)]; exact q) fun c xs q => by rw [upd_ne (ne_of_none q hn)]; exact q
end

/-! ### readings of targets -/
section
variable {K : PySem.W.Frag} {H H' : Hp} {μ μ' : Mu} {S : Store} {ρ ρ' : PEnv} {σ σ' : L2.St}
def gA (K : PySem.W.Frag) (p : Pt) : TG := fun v σ H Q => ∃ (μ : Mu) (ρ ρ' : PEnv) (S : Store) (z : PV), SR K H μ S ∧ ER K H μ ρ σ ∧ Rep K H μ z v ∧ asg p z ρ S = some ρ' ∧ ∀ H' μ' σ', After H μ H' μ' → SR K H' μ' S → ER K H' μ' ρ' σ' → (∀ vs, (∀ i ∈ slots p, i ∈ vs) → wipe σ' vs = wipe σ vs) → Q σ' H'
def gAs (K : PySem.W.Frag) (ps : List Pt) : TGs := fun vs σ H Q => ∃ (μ : Mu) (ρ ρ' : PEnv) (S : Store) (zs : List PV), SR K H μ S ∧ ER K H μ ρ σ ∧ RepAll K H μ zs vs ∧ asgs ps zs ρ S = some ρ' ∧ ∀ H' μ' σ', After H μ H' μ' → SR K H' μ' S → ER K H' μ' ρ' σ' → (∀ vs, (∀ i ∈ slotss ps, i ∈ vs) → wipe σ' vs = wipe σ vs) → Q σ' H'
theorem wipe_set {σ : L2.St} {i : Nat} {v : Option V} : ∀ {vs : List Nat}, i ∈ vs → wipe (σ.set i v) vs = wipe σ vs
  | w :: vs, h => by
    show (wipe (σ.set i v) vs).set w none = (wipe σ vs).set w none
    by_cases hi : i ∈ vs
    · rw [wipe_set hi]
    · have hw : i = w := by
        rcases List.mem_cons.mp h with z | z
        · exact z
        · exact absurd z hi
      subst hw
      have : ∀ vs : List Nat, i ∉ vs → wipe (σ.set i v) vs = (wipe σ vs).set i v := by
        intro vs hv
        induction vs with
        | nil => rfl
        | cons x xs ih =>
          show (wipe (σ.set i v) xs).set x none = ((wipe σ xs).set x none).set i v
          rw [ih (fun z => hv (List.mem_cons_of_mem _ z))]
          exact List.set_comm _ _ fun z => hv (z ▸ List.mem_cons_self)
      rw [this vs hi, List.set_set]
end
section
variable {X : Cx}
theorem pg_imp {tg : Expr} {t t' : TG} (h : PG X tg t) (f : ∀ v σ H Q, t' v σ H Q → t v σ H Q) : PG X tg t' := ⟨fun pins s σ H v u Q I r q => h.run pins s σ H v u Q I r (f v σ H Q q)⟩
theorem pgs_imp {ts : List Expr} {t t' : TGs} (h : PGs X ts t) (f : ∀ v σ H Q, t' v σ H Q → t v σ H Q) : PGs X ts t' := ⟨fun pins s σ H v u Q I r q => h.run pins s σ H v u Q I r (f v σ H Q q)⟩
theorem pg_or {tg : Expr} {t t' : TG} (h : PG X tg t) (h' : PG X tg t') : PG X tg (fun v σ H Q => t v σ H Q ∨ t' v σ H Q) :=
  ⟨fun pins s σ H v u Q I r q => q.elim (h.run pins s σ H v u Q I r) (h'.run pins s σ H v u Q I r)⟩
theorem pg_nm {i : Nat} {x : Str} {pos : Pos} (hN : X.N.Nodup) (hi : X.N[i]? = some x) (hx : L2.Loc X.env.scope x) (hf : X.fn x = true ∨ X.env.scope.names.lookup x = some .local) : PG X (.Name x pos) (gA X.K (.nm i)) := by
  refine pg_imp (pg_name hN hi hx hf) fun v σ H Q ⟨μ, ρ, ρ', S, z, sr, er, rz, e, q⟩ => ?_
  have e : some (ρ.set i (some z)) = some ρ' := e
  injection e with e
  subst e
  exact q _ _ _ After.refl sr (er.set rz) fun vs h => wipe_set (h i (by simp [slots]))
theorem pgs_nl : PGs X [] (gAs X.K []) := by
  refine pgs_imp pgs_nil fun v σ H Q ⟨μ, ρ, ρ', S, zs, sr, er, rz, e, q⟩ => ?_
  cases rz with
  | nil =>
    have e : some ρ = some ρ' := e
    injection e with e
    subst e
    exact ⟨rfl, q _ _ _ After.refl sr er fun _ _ => rfl⟩
  | cons r t => cases (show none = some ρ' from e)
theorem noStar_asg {e : Expr} {es : List Expr} {env : Env} (h : noStar e = true) : assignEach (e :: es) env = (false, assign e env) :: assignEach es env := by
  cases e <;> first | rfl | cases h
theorem pgs_cn {e : Expr} {es : List Expr} {p : Pt} {ps : List Pt} (hs : noStar e = true) (h1 : PG X e (gA X.K p)) (h2 : PGs X es (gAs X.K ps)) : PGs X (e :: es) (gAs X.K (p :: ps)) := by
  refine pgs_imp (pgs_cons h1 h2 (by rw [noStar_asg hs] <;> rfl)) fun v σ H Q ⟨μ, ρ, ρ', S, zs, sr, er, rz, e, q⟩ => ?_
  cases rz with
  | nil => cases (show none = some ρ' from e)
  | @cons z u zs us r t =>
    have e : (match asg p z ρ S with | some ρ' => asgs ps zs ρ' S | none => none) = some ρ' := e
    cases e1 : asg p z ρ S with
    | none => rw [e1] at e; cases e
    | some ρ1 =>
      rw [e1] at e
      refine ⟨u, us, rfl, μ, ρ, ρ1, S, z, sr, er, r, e1, fun H1 μ1 σ1 a1 sr1 er1 w1 => ?_⟩
      refine ⟨μ1, ρ1, ρ', S, zs, sr1, er1, t.keep a1, e, fun H2 μ2 σ2 a2 sr2 er2 w2 => ?_⟩
      refine q H2 μ2 σ2 (a1.trans sr1.trk a2) sr2 er2 fun vs h => ?_
      rw [w2 vs fun i hi => h i (by simp [slotss, hi]), w1 vs fun i hi => h i (by simp [slotss, hi])]
theorem asg_len {es : List Expr} {env : Env} : es.all noStar = true → (assignEach es env).length = es.length ∧ (assignEach es env).findIdx? (·.1) = none := by
  induction es with
  | nil => exact fun _ => ⟨rfl, rfl⟩
  | cons e es ih =>
    intro h
    simp only [List.all_cons, Bool.and_eq_true] at h
    obtain ⟨h1, h2⟩ := ih h.2
    rw [noStar_asg h.1]
    refine ⟨by simp [h1], ?_⟩
    rw [List.findIdx?_cons]
    simp [h2]
theorem pg_tu {es : List Expr} {k : Nat} {pos : Pos} {ps : List Pt} (hc : X.calm = true) (hs : es.all noStar = true) (hl : ps.length = es.length) (h : PGs X es (gAs X.K ps)) : PG X (.Tuple es k pos) (gA X.K (.tup ps)) := by
  refine pg_imp (pg_or (pg_tup hc h (asg_len hs).1 (asg_len hs).2) (pg_unl hc h (asg_len hs).1 (asg_len hs).2)) fun v σ H Q ⟨μ, ρ, ρ', S, z, sr, er, rz, e, q⟩ => ?_
  have d := rep_dr sr rz
  unfold asg at e
  generalize dr S z = z' at d e
  cases d <;> simp only [reduceCtorEq] at e
  · rename_i a xs vs h1 l r _
    split at e
    · rename_i hb
      have hb : xs.length = ps.length := Nat.eq_of_beq_eq_true hb
      refine .inl ⟨a, vs, rfl, h1.sq, by rw [← r.length, hb, hl], μ, ρ, ρ', S, xs, sr, er, r, e, fun H' μ' σ' a' s' e' w' => q H' μ' σ' a' s' e' fun vs h => w' vs fun i hi => h i hi⟩
    · cases e
  · rename_i a xs vs h1 l r _
    split at e
    · rename_i hb
      have hb : xs.length = ps.length := Nat.eq_of_beq_eq_true hb
      refine .inr ⟨a, vs, rfl, .of h1, by rw [← r.length, hb, hl], μ, ρ, ρ', S, xs, sr, er, r, e, fun H' μ' σ' a' s' e' w' => q H' μ' σ' a' s' e' fun vs h => w' vs fun i hi => h i hi⟩
    · cases e
theorem asgs_app : ∀ {ps : List Pt} {xs : List PV} {ρ ρ1 ρ2 : PEnv} {S : Store} {p : Pt} {x : PV}, asgs ps xs ρ S = some ρ1 → asg p x ρ1 S = some ρ2 → asgs (ps ++ [p]) (xs ++ [x]) ρ S = some ρ2
  | [], [], ρ, ρ1, ρ2, S, p, x, h, h2 => by
    have h : some ρ = some ρ1 := h
    injection h with h
    subst h
    show (match asg p x ρ S with | some ρ' => asgs [] [] ρ' S | none => none) = some ρ2
    rw [h2]
    rfl
  | [], _ :: _, _, _, _, _, _, _, h, _ => by cases (show none = some _ from h)
  | _ :: _, [], _, _, _, _, _, _, h, _ => by cases (show none = some _ from h)
  | q :: ps, y :: xs, ρ, ρ1, ρ2, S, p, x, h, h2 => by
    have h : (match asg q y ρ S with | some ρ' => asgs ps xs ρ' S | none => none) = some ρ1 := h
    show (match asg q y ρ S with | some ρ' => asgs (ps ++ [p]) (xs ++ [x]) ρ' S | none => none) = some ρ2
    cases e : asg q y ρ S with
    | none => rw [e] at h; cases h
    | some ρ' =>
      rw [e] at h
      exact asgs_app h h2
theorem slots_app : ∀ {ps : List Pt} {p : Pt}, slotss (ps ++ [p]) = slotss ps ++ slots p
  | [], p => by simp [slotss]
  | q :: ps, p => by simp [slotss, slots_app (ps := ps)]
theorem star_each {t : Expr} {p2 : Pos} {env : Env} : ∀ {es : List Expr}, es.all noStar = true → noStar t = true → (assignEach (es ++ [.Starred t p2]) env).map (·.2) = (assignEach (es ++ [t]) env).map (·.2) ∧
    (assignEach (es ++ [.Starred t p2]) env).length = es.length + 1 ∧ (assignEach (es ++ [.Starred t p2]) env).findIdx? (·.1) = some es.length
  | [], _, ht => by
    refine ⟨?_, rfl, rfl⟩
    show [assign t env] = (assignEach (t :: []) env).map (·.2)
    rw [noStar_asg ht]
    rfl
  | e :: es, h, ht => by
    simp only [List.all_cons, Bool.and_eq_true] at h
    obtain ⟨h1, h2, h3⟩ := star_each (t := t) (p2 := p2) (env := env) h.2 ht
    simp only [List.cons_append, noStar_asg h.1]
    refine ⟨by simp only [List.map_cons, h1], by simp [h2], ?_⟩
    rw [List.findIdx?_cons]
    simp [h3]
theorem pg_st {es : List Expr} {t : Expr} {p2 : Pos} {k : Nat} {pos : Pos} {ps : List Pt} {r : Nat} (hc : X.calm = true) (hs : es.all noStar = true) (ht : noStar t = true) (hl : ps.length = es.length) (h : PGs X (es ++ [t]) (gAs X.K (ps ++ [.nm r]))) :
    PG X (.Tuple (es ++ [.Starred t p2]) k pos) (gA X.K (.star ps r)) := by
  refine ⟨fun pins s σ H v u Q I ru ⟨μ, ρ, ρ', S, z, sr, er, rz, e, q⟩ => ?_⟩
  cases rz <;> first | (cases (show none = some ρ' from e)) | skip
  rename_i a xs vs h1 l ra _
  cases ru
  have e : (if Nat.ble ps.length xs.length && Nat.ble xs.length 16384 then (match asgs ps (xs.take ps.length) ρ S with | some ρ' => some (ρ'.set r (some (.lst (xs.drop ps.length)))) | none => none) else none) = some ρ' := e
  split at e
  · rename_i hb
    simp only [Bool.and_eq_true] at hb
    have b1 := Nat.le_of_ble_eq_true hb.1
    have b2 := Nat.le_of_ble_eq_true hb.2
    cases e1 : asgs ps (xs.take ps.length) ρ S with
    | none => rw [e1] at e; cases e
    | some ρ1 =>
      rw [e1] at e
      injection e with e
      subst e
      obtain ⟨its, rv, pt, _⟩ := I.tuple h1.sq
      obtain ⟨e2, e3, e4⟩ := star_each (p2 := p2) (env := X.env) hs ht
      have len : its.length = xs.length := by rw [← rv.length, ← ra.length]
      refine star_tuple (n := ps.length) pt (I.ok.hd hc) (by rw [e3, hl]) (by rw [e4, hl]) (by rw [List.size_toArray, len]; exact b1) (by rw [List.size_toArray, len]; exact b2) fun D h' tk hD hk hn => ?_
      obtain ⟨fr, I1⟩ := inv_laid (o := .lst (vs.drop ps.length)) (t' := tk) I hk hD ⟨by rw [← szl_eq, List.length_drop, ← ra.length]; omega, its.drop ps.length, 0, rv.drop _, hn⟩
      have k1 : After H μ (upd H D (.lst (vs.drop ps.length))) μ := After.new fr
      rw [e2]
      refine h.run pins _ σ _ (vs.take ps.length ++ [V.ref D]) _ Q I1 ((rv.take _).append (.cons (show L2.RelV (V.ref D) (Value.ref D) from rfl) .nil)) ?_
      refine ⟨μ, ρ, _, S, xs.take ps.length ++ [.lst (xs.drop ps.length)], sr.new fr, er.keep k1, ((ra.keep k1).take _).app (.cons (.lst upd_same (sr.off fr) (by rw [List.length_drop]; omega) ((ra.keep k1).drop _)) .nil), asgs_app e1 rfl, ?_⟩
      exact fun H' μ' σ' a' s' e' w' => q H' μ' σ' (k1.trans (sr.new fr).trk a') s' e' fun vs hv => w' vs fun i hi => hv i (by
        rw [slots_app] at hi
        exact hi)
  · cases e
end
end Pi
set_option maxRecDepth 100000
set_option maxHeartbeats 1000000
/-! Pi10: comprehensions. -/
namespace Pi
open PySem L2

section
variable {K : PySem.W.Frag} {H H' H1 : Hp} {μ μ' m1 : Mu} {S : Store} {l d d' : List Addr}
mutual
theorem Rep.less (hs : ∀ b ∈ d, b ∈ d') : ∀ {x : PV} {u : V}, Rep K H ⟨l, d'⟩ x u → Rep K H ⟨l, d⟩ x u
  | _, _, .non => .non
  | _, _, .bl b => .bl b
  | _, _, .int i => .int i
  | _, _, .str x => .str x
  | _, _, .tup h z r => .tup (h.imp (fun ⟨z, hm⟩ => ⟨z, fun y => hm (y.imp id (hs _))⟩) id) z (RepAll.less hs r)
  | _, _, .lst h hm z r => .lst h (fun y => hm (y.imp id (hs _))) z (RepAll.less hs r)
  | _, _, .dic h hm z r => .dic h (fun y => hm (y.imp id (hs _))) z (RepAll.less hs r)
  | _, _, .ref h => .ref h
  | _, _, .scr h z => .scr (h.imp (fun ⟨z, hm⟩ => ⟨z, fun y => hm (y.imp id (hs _))⟩) id) z
theorem RepAll.less (hs : ∀ b ∈ d, b ∈ d') : ∀ {xs : List PV} {us : List V}, RepAll K H ⟨l, d'⟩ xs us → RepAll K H ⟨l, d⟩ xs us
  | _, _, .nil => .nil
  | _, _, .cons h t => .cons (Rep.less hs h) (RepAll.less hs t)
end
theorem SR.less (hs : ∀ b ∈ d, b ∈ d') (s : SR K H ⟨l, d'⟩ S) : SR K H ⟨l, d⟩ S := by
  refine ⟨s.nd, s.len, fun b hb => s.dl b (hs b hb), fun n a e => ?_⟩
  obtain ⟨o', h1, r⟩ := s.obj n a e
  refine ⟨o', h1, ?_⟩
  cases o' with
  | lst xs =>
    obtain ⟨vs, e1, z, q⟩ := r
    exact ⟨vs, e1, z, q.less hs⟩
theorem After.wr {p : Addr} {o : HO} (a : After H μ H' μ') (h : H p = none) : After H μ (upd H' p o) μ' :=
  ⟨fun b hb hn => by rw [upd_ne fun e => hn (by rw [e]; exact h)]; exact a.keep b hb hn, a.ext, a.hid⟩
/-- the hidden places cut back -/
theorem After.cut (a : After H μ H' μ') : After H μ H' ⟨μ'.l, μ.d⟩ := ⟨a.keep, a.ext, [], rfl, by simp⟩
theorem After.hid1 {p : Addr} (a : After H μ H' μ') (h : H p = none) : After H μ H' ⟨μ'.l, p :: μ.d⟩ := ⟨a.keep, a.ext, [p], rfl, fun b hb => by simp at hb; subst hb; exact h⟩
theorem wipe_wipe {σ : L2.St} : ∀ {vs : List Nat}, wipe (wipe σ vs) vs = wipe σ vs := by
  intro vs
  have : ∀ ws : List Nat, (∀ i ∈ vs, i ∈ ws) → wipe (wipe σ vs) ws = wipe σ ws := by
    intro ws h
    induction vs with
    | nil => rfl
    | cons v vs ih =>
      show wipe ((wipe σ vs).set v none) ws = _
      rw [wipe_set (h v List.mem_cons_self)]
      exact ih fun i hi => h i (List.mem_cons_of_mem _ hi)
  exact this vs fun _ h => h
def ROp (K : PySem.W.Frag) (H : Hp) (μ : Mu) : Option PV → Option V → Prop
  | none, none => True
  | some v, some u => Rep K H μ v u
  | _, _ => False
/-- what a turn does with its answer -/
def onO (Y : V → Hp → Prop) (N : Hp → Prop) : Option V → Hp → Prop
  | some y, H => Y y H
  | none, H => N H
end
section
variable {K : PySem.W.Frag} {H1 : Hp} {m1 : Mu} {S1 : Store} {σ : L2.St} {ρ : PEnv} {vs : List Nat} {t : Pt} {f : PEnv → Store → Res (Option PV)} {tt : TT} {te : TE} {J : It} {D : Addr}
/-- the block of one turn -/
def turnT (K : PySem.W.Frag) (t : Pt) (tt : TT) (te : TE) (vs : List Nat) (σ : L2.St) (x : V) (H' : Hp) (Y : V → Hp → Prop) (N : Hp → Prop) : Prop :=
  gA K t x (wipe σ vs) H' fun σ2 H2 => wipe σ2 vs = wipe σ vs ∧ tt σ2 H2 fun b H3 => if b = true then te σ2 H3 Y else N H3
theorem turn_ok {H : Hp} {μ : Mu} {S S2 : Store} {z : PV} {x : V} {ρ1 : PEnv} {o : Option PV} {Y : V → Hp → Prop} {N : Hp → Prop} (hv : ∀ i ∈ slots t, i ∈ vs)
    (hf : ∀ σ2 H2 (Y : V → Hp → Prop) (N : Hp → Prop), RX K WF (ROp K) f σ2 H2 (onO Y N) → tt σ2 H2 fun b H3 => if b = true then te σ2 H3 Y else N H3)
    (sr : SR K H μ S) (er : ER K H μ ρ σ) (r : Rep K H μ z x) (ha : asg t z (wip ρ vs) S = some ρ1) (he : f ρ1 S = .ok o S2)
    (hk : ∀ H3 μ3 u, After H μ H3 μ3 → SR K H3 μ3 S2 → ROp K H3 μ3 o u → onO Y N u H3) : turnT K t tt te vs σ x H Y N := by
  refine ⟨μ, wip ρ vs, ρ1, S, z, sr, er.wip vs, r, ha, fun H2 μ2 σ2 a2 s2 e2 w2 => ⟨?_, hf σ2 H2 Y N (RX.intro s2 e2 ?_)⟩⟩
  · rw [w2 vs hv, wipe_wipe]
  · rw [he]
    exact fun H3 μ3 u a3 s3 r3 => hk H3 μ3 u (a2.trans s2.trk a3) s3 r3
theorem turns_step {xs : List PV} {z : PV} {acc : List PV} {S : Store} {k : List PV → Store → Res PV} {C : PV → V → Store → Hp → Mu → Prop} (h : Fin K WF (Rep K) ((turns f t (wip ρ vs) (z :: xs) acc S).bind k) H1 m1 C) :
    ∃ ρ1 o S2, asg t z (wip ρ vs) S = some ρ1 ∧ f ρ1 S = .ok o S2 ∧ Fin K WF (Rep K) ((turns f t (wip ρ vs) xs (match o with | some y => acc ++ [y] | none => acc) S2).bind k) H1 m1 C := by
  unfold turns at h
  cases e : asg t z (wip ρ vs) S with
  | none => rw [e] at h; exact (show False from h).elim
  | some ρ1 =>
    rw [e] at h
    simp only at h
    cases e2 : f ρ1 S with
    | no => rw [e2] at h; exact (show False from h).elim
    | ex c fs S2 => rw [e2] at h; exact (show False from h).elim
    | ok o S2 =>
      rw [e2] at h
      cases o with
      | none => exact ⟨ρ1, none, S2, rfl, e2, h⟩
      | some y => exact ⟨ρ1, some y, S2, rfl, e2, h⟩
/-- the values taken ahead, a list that is none of the store's -/
theorem comp_snap {xs : List PV} {Q : VK} (hv : ∀ i ∈ slots t, i ∈ vs)
    (hf : ∀ σ2 H2 (Y : V → Hp → Prop) (N : Hp → Prop), RX K WF (ROp K) f σ2 H2 (onO Y N) → tt σ2 H2 fun b H3 => if b = true then te σ2 H3 Y else N H3)
    (sr1 : SR K H1 m1 S1) (er1 : ER K H1 m1 ρ σ) (js : JSnap K J xs H1 m1) (hD : H1 D = none) (hz : xs.length ≤ szl)
    (g : Fin K WF (Rep K) ((turns f t (wip ρ vs) xs [] S1).bind fun ys S2 => .ok (.lst ys) S2) H1 m1 fun _ u _ H' _ => Q u H') :
    ∃ W : Nat → Nat → Hp → Prop, (∃ m, W 0 m (upd H1 D (.lst []))) ∧ ∀ i m H, W i m H → (J.stop i H ∧ Q (.ref D) H) ∨ (J.go i H ∧ ∃ Nx : Hp → Prop, (∀ H', Nx H' → ∃ m', m' < m ∧ W (i + 1) m' H') ∧ ∀ x H', J.yld i H x H' →
      turnT K t tt te vs σ x H' (fun y H4 => ∃ acc, H4 D = some (.lst acc) ∧ acc.length < sizeLine ∧ Nx (upd H4 D (.lst (acc ++ [y])))) Nx) := by
  have hD1 := sr1.off hD
  refine ⟨fun i m H => m = xs.length - i ∧ i ≤ xs.length ∧ ∃ (l : List Addr) (S : Store) (acc : List PV) (av : List V), After H1 m1 H ⟨l, m1.d⟩ ∧ SR K H ⟨l, D :: m1.d⟩ S ∧ H D = some (.lst av) ∧ RepAll K H ⟨l, D :: m1.d⟩ acc av ∧ acc.length ≤ i ∧
    Fin K WF (Rep K) ((turns f t (wip ρ vs) (xs.drop i) acc S).bind fun ys S2 => .ok (.lst ys) S2) H1 m1 fun _ u _ H' _ => Q u H', ⟨xs.length, by simp, Nat.zero_le _, m1.l, S1, [], [], ?_, sr1.hide hD, upd_same, .nil, Nat.zero_le _, g⟩, ?_⟩
  · exact After.new hD
  · rintro i m H ⟨rfl, hi, l, S, acc, av, a, s, hDv, ra, hl, g⟩
    have ah : After H1 m1 H ⟨l, D :: m1.d⟩ := a.hid1 hD
    obtain ⟨j1, j2⟩ := js H ⟨l, D :: m1.d⟩ S ah s i
    by_cases hlt : i < xs.length
    · have ex : xs[i]? = some xs[i] := List.getElem?_eq_getElem hlt
      obtain ⟨jg, jy⟩ := j1 _ ex
      refine .inr ⟨jg, _, fun H' h => ⟨xs.length - (i + 1), by omega, h⟩, fun x H' y => ?_⟩
      obtain ⟨a2, s2, r2⟩ := jy x H' y
      rw [List.drop_eq_getElem_cons hlt] at g
      obtain ⟨ρ1, o, S2, e1, e2, g⟩ := turns_step g
      refine turn_ok hv hf s2 (er1.keep (ah.trans s.trk a2)) r2 e1 e2 fun H3 μ3 u a3 s3 r3 => ?_
      have a13 := (ah.trans s.trk a2).trans s2.trk a3
      have a23 := a2.trans s2.trk a3
      have hDl : D ∉ l := fun z => (s.dl D List.mem_cons_self).2 z
      have h3 : H3 D = some (.lst av) := (a23.keep D hDl (by rw [hDv]; simp)).trans hDv
      obtain ⟨d3, ed, _⟩ := a23.hid
      have sub : ∀ b ∈ D :: m1.d, b ∈ μ3.d := fun b hb => by rw [ed]; exact List.mem_append_right _ hb
      have s3' : SR K H3 ⟨μ3.l, D :: m1.d⟩ S2 := SR.less sub s3
      have ra3 : RepAll K H3 ⟨μ3.l, D :: m1.d⟩ acc av := RepAll.less sub (ra.keep a23)
      cases o with
      | none =>
        cases u with
        | none => exact ⟨rfl, hlt, μ3.l, S2, acc, av, a13.cut, s3', h3, ra3, by omega, g⟩
        | some u => exact (show False from r3).elim
      | some y =>
        cases u with
        | none => exact (show False from r3).elim
        | some u =>
          have ry : Rep K H3 ⟨μ3.l, D :: m1.d⟩ y u := Rep.less sub r3
          refine ⟨av, h3, by rw [← ra.length, ← szl_eq]; omega, rfl, hlt, μ3.l, S2, acc ++ [y], av ++ [u], a13.cut.wr hD, SR.wr (μ := ⟨μ3.l, m1.d⟩) s3', upd_same, RepAll.wr (μ := ⟨μ3.l, m1.d⟩) (ra3.app (.cons ry .nil)), by simp; omega, g⟩
    · have e : i = xs.length := by omega
      subst e
      rw [List.drop_length] at g
      refine .inl ⟨j2 (by simp), ?_⟩
      have s' : SR K H ⟨l, m1.d⟩ S := SR.less (fun b hb => List.mem_cons_of_mem _ hb) s
      exact g H ⟨l, m1.d⟩ (.ref D) a s' (.lst hDv (fun z => z.elim (fun z => (s.dl D List.mem_cons_self).2 z) fun z => hD1 (.inr z)) (by omega) (RepAll.less (fun b hb => List.mem_cons_of_mem _ hb) ra))
theorem add_l {H : Hp} {μ μ' : Mu} {n : Nat} {a : Addr} (k : After H μ H1 μ') (h : μ.l[n]? = some a) : μ'.l[n]? = some a := by
  obtain ⟨_, ⟨ν, e, _⟩, _⟩ := k
  rw [e, List.getElem?_append_left (List.getElem?_eq_some_iff.mp h).1]
  exact h
/-- a list of the store's, as it stands at each turn -/
theorem comp_live {n : Nat} {a : Addr} {Q : VK} (hv : ∀ i ∈ slots t, i ∈ vs)
    (hf : ∀ σ2 H2 (Y : V → Hp → Prop) (N : Hp → Prop), RX K WF (ROp K) f σ2 H2 (onO Y N) → tt σ2 H2 fun b H3 => if b = true then te σ2 H3 Y else N H3)
    (sr1 : SR K H1 m1 S1) (er1 : ER K H1 m1 ρ σ) (hn : m1.l[n]? = some a) (hD : H1 D = none) (w : Nat)
    (g : Fin K WF (Rep K) ((turnsL f t (wip ρ vs) n w 0 [] S1).bind fun ys S2 => .ok (.lst ys) S2) H1 m1 fun _ u _ H' _ => Q u H') :
    ∃ W : Nat → Nat → Hp → Prop, (∃ m, W 0 m (upd H1 D (.lst []))) ∧ ∀ i m H, W i m H → ((Itl K a).stop i H ∧ Q (.ref D) H) ∨ ((Itl K a).go i H ∧ ∃ Nx : Hp → Prop, (∀ H', Nx H' → ∃ m', m' < m ∧ W (i + 1) m' H') ∧ ∀ x H', (Itl K a).yld i H x H' →
      turnT K t tt te vs σ x H' (fun y H4 => ∃ acc, H4 D = some (.lst acc) ∧ acc.length < sizeLine ∧ Nx (upd H4 D (.lst (acc ++ [y])))) Nx) := by
  have hD1 := sr1.off hD
  refine ⟨fun i m H => ∃ (l : List Addr) (S : Store) (acc : List PV) (av : List V), After H1 m1 H ⟨l, m1.d⟩ ∧ SR K H ⟨l, D :: m1.d⟩ S ∧ H D = some (.lst av) ∧ RepAll K H ⟨l, D :: m1.d⟩ acc av ∧ acc.length ≤ szl ∧
    Fin K WF (Rep K) ((turnsL f t (wip ρ vs) n m i acc S).bind fun ys S2 => .ok (.lst ys) S2) H1 m1 fun _ u _ H' _ => Q u H', ⟨w, m1.l, S1, [], [], After.new hD, sr1.hide hD, upd_same, .nil, Nat.zero_le _, g⟩, ?_⟩
  rintro i m H ⟨l, S, acc, av, aa, s, hDv, ra, hl, g⟩
  have ah : After H1 m1 H ⟨l, D :: m1.d⟩ := aa.hid1 hD
  cases m with
  | zero => exact (show False from g).elim
  | succ m =>
    have hn2 : l[n]? = some a := add_l ah hn
    obtain ⟨o', h1, q⟩ := s.obj n a hn2
    cases o' with
    | lst xs =>
    obtain ⟨us, e1, z1, rx⟩ := q
    unfold turnsL at g
    rw [show S.get n = some (.lst xs) from h1] at g
    simp only at g
    cases ex : xs[i]? with
    | none =>
      rw [ex] at g
      refine .inl ⟨⟨us, .of e1, by rw [← rx.length]; exact List.getElem?_eq_none_iff.mp ex⟩, ?_⟩
      have s' : SR K H ⟨l, m1.d⟩ S := SR.less (fun b hb => List.mem_cons_of_mem _ hb) s
      exact g H ⟨l, m1.d⟩ (.ref D) aa s' (.lst hDv (fun z => z.elim (fun z => (s.dl D List.mem_cons_self).2 z) fun z => hD1 (.inr z)) hl (RepAll.less (fun b hb => List.mem_cons_of_mem _ hb) ra))
    | some z =>
      rw [ex] at g
      simp only at g
      obtain ⟨uz, eu, rz⟩ := rx.get ex
      refine .inr ⟨⟨us, uz, .of e1, eu⟩, _, fun H' h => ⟨m, Nat.lt_succ_self m, h⟩, fun x H' y => ?_⟩
      obtain ⟨rfl, y⟩ := y
      have y := y us (.of e1)
      rw [eu] at y
      injection y with y
      subst y
      cases ea : asg t z (wip ρ vs) S with
      | none => rw [ea] at g; exact (show False from g).elim
      | some ρ1 =>
        rw [ea] at g
        simp only at g
        cases eo : f ρ1 S with
        | no => rw [eo] at g; exact (show False from g).elim
        | ex c fs S2 => rw [eo] at g; exact (show False from g).elim
        | ok o S2 =>
          rw [eo] at g
          refine turn_ok hv hf s (er1.keep ah) rz ea eo fun H3 μ3 u a3 s3 r3 => ?_
          have a13 := ah.trans s.trk a3
          have hDl : D ∉ l := fun z => (s.dl D List.mem_cons_self).2 z
          have h3 : H3 D = some (.lst av) := (a3.keep D hDl (by rw [hDv]; simp)).trans hDv
          obtain ⟨d3, ed, _⟩ := a3.hid
          have sub : ∀ b ∈ D :: m1.d, b ∈ μ3.d := fun b hb => by rw [ed]; exact List.mem_append_right _ hb
          have s3' : SR K H3 ⟨μ3.l, D :: m1.d⟩ S2 := SR.less sub s3
          have ra3 : RepAll K H3 ⟨μ3.l, D :: m1.d⟩ acc av := RepAll.less sub (ra.keep a3)
          cases o with
          | none =>
            cases u with
            | none => exact ⟨μ3.l, S2, acc, av, a13.cut, s3', h3, ra3, hl, g⟩
            | some u => exact (show False from r3).elim
          | some y =>
            cases u with
            | none => exact (show False from r3).elim
            | some u =>
              simp only at g
              split at g
              · rename_i hb
                have hb : acc.length < szl := by simpa [Nat.blt_eq] using hb
                have ry : Rep K H3 ⟨μ3.l, D :: m1.d⟩ y u := Rep.less sub r3
                refine ⟨av, h3, by rw [← ra.length, ← szl_eq]; exact hb, μ3.l, S2, acc ++ [y], av ++ [u], a13.cut.wr hD, SR.wr (μ := ⟨μ3.l, m1.d⟩) s3', upd_same, RepAll.wr (μ := ⟨μ3.l, m1.d⟩) (ra3.app (.cons ry .nil)), by rw [List.length_append]; exact hb, g⟩
              · exact (show False from g).elim
/-- the values taken ahead, a list of the store's -/
theorem comp_box {xs : List PV} {Q : VK} (hv : ∀ i ∈ slots t, i ∈ vs)
    (hf : ∀ σ2 H2 (Y : V → Hp → Prop) (N : Hp → Prop), RX K WF (ROp K) f σ2 H2 (onO Y N) → tt σ2 H2 fun b H3 => if b = true then te σ2 H3 Y else N H3)
    (sr1 : SR K H1 m1 S1) (er1 : ER K H1 m1 ρ σ) (js : JSnap K J xs H1 m1) (hD : H1 D = none)
    (g : Fin K WF (Rep K) ((turnsB f t (wip ρ vs) S1.size xs (S1.add (.lst []))).bind fun _ S2 => .ok (.ref S1.size) S2) H1 m1 fun _ u _ H' _ => Q u H') :
    ∃ W : Nat → Nat → Hp → Prop, (∃ m, W 0 m (upd H1 D (.lst []))) ∧ ∀ i m H, W i m H → (J.stop i H ∧ Q (.ref D) H) ∨ (J.go i H ∧ ∃ Nx : Hp → Prop, (∀ H', Nx H' → ∃ m', m' < m ∧ W (i + 1) m' H') ∧ ∀ x H', J.yld i H x H' →
      turnT K t tt te vs σ x H' (fun y H4 => ∃ acc, H4 D = some (.lst acc) ∧ acc.length < sizeLine ∧ Nx (upd H4 D (.lst (acc ++ [y])))) Nx) := by
  have hk : (m1.add D).l[S1.size]? = some D := by
    show (m1.l ++ [D])[S1.size]? = _
    rw [show S1.size = m1.l.length from sr1.len.symm, List.getElem?_append_right (Nat.le_refl _)]
    simp
  refine ⟨fun i m H => m = xs.length - i ∧ i ≤ xs.length ∧ ∃ (μ : Mu) (S : Store), After H1 m1 H μ ∧ SR K H μ S ∧ μ.l[S1.size]? = some D ∧
    Fin K WF (Rep K) ((turnsB f t (wip ρ vs) S1.size (xs.drop i) S).bind fun _ S2 => .ok (.ref S1.size) S2) H1 m1 fun _ u _ H' _ => Q u H', ⟨xs.length, by simp, Nat.zero_le _, m1.add D, _, After.box hD, sr1.add hD (Nat.zero_le _) .nil, hk, g⟩, ?_⟩
  rintro i m H ⟨rfl, hi, μ, S, a, s, hk, g⟩
  obtain ⟨j1, j2⟩ := js H μ S a s i
  by_cases hlt : i < xs.length
  · have ex : xs[i]? = some xs[i] := List.getElem?_eq_getElem hlt
    obtain ⟨jg, jy⟩ := j1 _ ex
    refine .inr ⟨jg, _, fun H' h => ⟨xs.length - (i + 1), by omega, h⟩, fun x H' y => ?_⟩
    obtain ⟨a2, s2, r2⟩ := jy x H' y
    rw [List.drop_eq_getElem_cons hlt] at g
    unfold turnsB at g
    cases ea : asg t xs[i] (wip ρ vs) S with
    | none => rw [ea] at g; exact (show False from g).elim
    | some ρ1 =>
      rw [ea] at g
      simp only at g
      cases eo : f ρ1 S with
      | no => rw [eo] at g; exact (show False from g).elim
      | ex c fs S2 => rw [eo] at g; exact (show False from g).elim
      | ok o S2 =>
        rw [eo] at g
        refine turn_ok hv hf s2 (er1.keep (a.trans s.trk a2)) r2 ea eo fun H3 μ3 u a3 s3 r3 => ?_
        have a13 := (a.trans s.trk a2).trans s2.trk a3
        have hk3 : μ3.l[S1.size]? = some D := add_l a3 hk
        cases o with
        | none =>
          cases u with
          | none => exact ⟨rfl, hlt, μ3, S2, a13, s3, hk3, g⟩
          | some u => exact (show False from r3).elim
        | some y =>
          cases u with
          | none => exact (show False from r3).elim
          | some u =>
            obtain ⟨o', h1, q⟩ := s3.obj _ D hk3
            cases o' with
            | lst acc =>
              obtain ⟨av, e1, z1, ra⟩ := q
              simp only [show S2.get S1.size = some (.lst acc) from h1] at g
              split at g
              · rename_i hb
                have hb : acc.length < szl := by simpa [Nat.blt_eq] using hb
                refine ⟨av, e1, by rw [← ra.length, ← szl_eq]; exact hb, rfl, hlt, μ3, _, a13.wr hD, s3.put hk3 (by rw [List.length_append]; exact hb) (ra.app (.cons r3 .nil)), hk3, g⟩
              · exact (show False from g).elim
  · have e : i = xs.length := by omega
    subst e
    rw [List.drop_length] at g
    exact .inl ⟨j2 (by simp), g H μ (.ref D) a s (.ref hk)⟩
/-- THE RULE of a comprehension -/
theorem comp_ok {b : Bool} {m : PEnv → Store → Res Src} (hv : ∀ i ∈ slots t, i ∈ vs)
    (hf : ∀ σ2 H2 (Y : V → Hp → Prop) (N : Hp → Prop), RX K WF (ROp K) f σ2 H2 (onO Y N) → tt σ2 H2 fun b H3 => if b = true then te σ2 H3 Y else N H3) (σ : L2.St) (H : Hp) (Q : VK)
    (h : RT K WF (fun ρ S => (m ρ S).bind fun s S1 => compOf b s f t (wip ρ vs) S1) σ H Q) : tLc (RI K m) (gA K t) tt te vs σ H Q := by
  obtain ⟨μ, ρ, S, sr, er, g⟩ := h
  refine RX.part sr er g fun s J S1 H1 μ1 a1 sr1 er1 r1 g D hD => ?_
  cases b with
  | true =>
    cases s with
    | live n => exact (show False from g).elim
    | snap xs => exact comp_box hv hf sr1 er1 r1 hD g
  | false =>
    cases s with
    | live n =>
      obtain ⟨a, hn, rfl⟩ := r1
      exact comp_live hv hf sr1 er1 hn hD _ g
    | snap xs =>
      have g : Fin K WF (Rep K) (if Nat.ble xs.length szl then (turns f t (wip ρ vs) xs [] S1).bind fun ys S2 => .ok (.lst ys) S2 else .no) H1 μ1 fun _ u _ H' _ => Q u H' := g
      split at g
      · rename_i hz
        exact comp_snap hv hf sr1 er1 r1 hD (ble_szl hz) g
      · exact (show False from g).elim
end
end Pi
set_option maxRecDepth 100000
set_option maxHeartbeats 1000000
/-! Pi11: statements, loops. -/
namespace Pi
open PySem L2

inductive OutV where
  | nx (σ : L2.St) | rt (u : V) | bk (σ : L2.St) | ct (σ : L2.St)
def dOut (D : Ends) : OutV → Hp → Prop
  | .nx σ, H => D.nx σ H
  | .rt u, H => D.rt u H
  | .bk σ, H => D.bk σ H
  | .ct σ, H => D.ct σ H
section
variable (K : PySem.W.Frag)
def RO (H : Hp) (μ : Mu) : Out → OutV → Prop
  | .nx ρ, .nx σ => ER K H μ ρ σ
  | .rt v, .rt u => Rep K H μ v u
  | .bk ρ, .bk σ => ER K H μ ρ σ
  | .ct ρ, .ct σ => ER K H μ ρ σ
  | _, _ => False
abbrev RTS (m : PEnv → Store → Res Out) : TS := fun D σ H => RX K WF (RO K) m σ H (dOut D)
end
theorem oOk {K : PySem.W.Frag} {D : Ends} {H : Hp} {μ : Mu} {o : Out} {S : Store} (u : OutV) (g : Fin K WF (RO K) (.ok o S) H μ fun _ o _ H' _ => dOut D o H') (sr : SR K H μ S) (r : RO K H μ o u) : dOut D u H :=
  Fin.ok (R := RO K) (C := fun _ o _ H' _ => dOut D o H') (u := u) g sr r
section
variable {K : PySem.W.Frag}
theorem hf_no {m : PEnv → Store → Res PV} : ∀ σ2 H2 (Y : V → Hp → Prop) (N : Hp → Prop), RX K WF (ROp K) (fun ρ S => (m ρ S).bind fun v S1 => .ok (some v) S1) σ2 H2 (onO Y N) → tYes σ2 H2 fun b H3 => if b = true then RT K WF m σ2 H3 Y else N H3 := by
  intro σ2 H2 Y N ⟨μ, ρ, S, sr, er, g⟩
  show if true = true then RT K WF m σ2 H2 Y else N H2
  rw [if_pos rfl]
  exact RX.part sr er g fun v u S1 H1 μ1 a1 sr1 er1 r1 g => Fin.ok (C := fun _ o _ H' _ => onO Y N o H') (u := some u) g sr1 r1
theorem hf_if {c : PEnv → Store → Res Bool} {m : PEnv → Store → Res PV} : ∀ σ2 H2 (Y : V → Hp → Prop) (N : Hp → Prop), RX K WF (ROp K) (fun ρ S => (c ρ S).bind fun k S1 => if k then (m ρ S1).bind fun v S2 => .ok (some v) S2 else .ok none S1) σ2 H2 (onO Y N) →
    RTB K WF c σ2 H2 fun b H3 => if b = true then RT K WF m σ2 H3 Y else N H3 := by
  intro σ2 H2 Y N ⟨μ, ρ, S, sr, er, g⟩
  refine RX.part sr er g fun v u S1 H1 μ1 a1 sr1 er1 r1 g => ?_
  cases (show v = u from r1)
  cases v with
  | false =>
    rw [if_neg Bool.false_ne_true]
    exact Fin.ok (C := fun _ o _ H' _ => onO Y N o H') (u := none) g sr1 trivial
  | true =>
    rw [if_pos rfl]
    exact RX.part sr1 er1 g fun v u S1 H1 μ1 a1 sr1 er1 r1 g => Fin.ok (C := fun _ o _ H' _ => onO Y N o H') (u := some u) g sr1 r1
end
section
variable {X : Cx} {f : XF} {sts : List Stmt} {xs : List Sm}
theorem s_nil : PSs X [] (RTS X.K (xss f [])) := pss_imp pss_nil fun D σ H ⟨μ, ρ, S, sr, er, g⟩ => oOk (.nx σ) g sr er
theorem s_cons {st : Stmt} {x : Sm} (h1 : PS X st (RTS X.K (f x))) (h2 : PSs X sts (RTS X.K (xss f xs))) : PSs X (st :: sts) (RTS X.K (xss f (x :: xs))) := by
  refine pss_imp (pss_cons h1 h2) fun D σ H ⟨μ, ρ, S, sr, er, g⟩ => ?_
  refine RX.part (R := RO X.K) sr er g fun o u S1 H1 μ1 a1 sr1 er1 r1 g => ?_
  cases o <;> cases u <;> first | exact (show False from r1).elim | skip
  · exact ⟨μ1, _, S1, sr1, r1, g⟩
  · exact oOk (D := D) (.rt _) g sr1 r1
  · exact oOk (D := D) (.bk _) g sr1 r1
  · exact oOk (D := D) (.ct _) g sr1 r1
theorem s_exp {e : Expr} {pos : Pos} {m : PEnv → Store → Res PV} (h : PE X e (RT X.K WF m)) (hs : swapsWith e none pos.line X.env = pure false) : PS X (.Expr e pos) (RTS X.K fun ρ S => (m ρ S).bind fun _ S1 => .ok (.nx ρ) S1) :=
  ps_imp (ps_expr h hs) fun D σ H ⟨μ, ρ, S, sr, er, g⟩ => RX.part sr er g fun v u S1 H1 μ1 a1 sr1 er1 r1 g => oOk (.nx σ) g sr1 er1
theorem s_ret {e : Expr} {pos : Pos} {m : PEnv → Store → Res PV} (h : PE X e (RT X.K WF m)) : PS X (.Return (some e) pos) (RTS X.K fun ρ S => (m ρ S).bind fun v S1 => .ok (.rt v) S1) :=
  ps_imp (ps_ret h) fun D σ H ⟨μ, ρ, S, sr, er, g⟩ => RX.part sr er g fun v u S1 H1 μ1 a1 sr1 er1 r1 g => oOk (.rt u) g sr1 r1
theorem s_retN {pos : Pos} : PS X (.Return none pos) (RTS X.K fun _ S => .ok (.rt .non) S) :=
  ps_imp ps_retN fun D σ H ⟨μ, ρ, S, sr, er, g⟩ => oOk (.rt .non) g sr .non
theorem s_pas {pos : Pos} : PS X (.Pass pos) (RTS X.K fun ρ S => .ok (.nx ρ) S) :=
  ps_imp ps_pass fun D σ H ⟨μ, ρ, S, sr, er, g⟩ => oOk (.nx σ) g sr er
theorem s_brk {pos : Pos} : PS X (.Break pos) (RTS X.K fun ρ S => .ok (.bk ρ) S) :=
  ps_imp ps_break fun D σ H ⟨μ, ρ, S, sr, er, g⟩ => oOk (.bk σ) g sr er
theorem s_cnt {pos : Pos} : PS X (.Continue pos) (RTS X.K fun ρ S => .ok (.ct ρ) S) :=
  ps_imp ps_continue fun D σ H ⟨μ, ρ, S, sr, er, g⟩ => oOk (.ct σ) g sr er
theorem s_iff {c : Expr} {a b : List Stmt} {pos : Pos} {mc : PEnv → Store → Res Bool} {ma mb : PEnv → Store → Res Out} (hc : PT X c (RTB X.K WF mc)) (ha : PSs X a (RTS X.K ma)) (hb : PSs X b (RTS X.K mb)) :
    PS X (.If c a b pos) (RTS X.K fun ρ S => (mc ρ S).bind fun k S1 => if k then ma ρ S1 else mb ρ S1) :=
  ps_imp (ps_if hc ha hb) fun D σ H ⟨μ, ρ, S, sr, er, g⟩ => RX.part sr er g fun v u S1 H1 μ1 a1 sr1 er1 r1 g => by
    cases (show v = u from r1)
    cases v with
    | true => rw [if_pos rfl]; exact ⟨μ1, ρ, S1, sr1, er1, g⟩
    | false => rw [if_neg Bool.false_ne_true]; exact ⟨μ1, ρ, S1, sr1, er1, g⟩
/-- target = value -/
theorem s_set {tg e : Expr} {pos : Pos} {p : Pt} {m : PEnv → Store → Res PV} (he : PE X e (RT X.K WF m)) (hg : PG X tg (gA X.K p)) (hs : swapsWithSole [tg] e pos.line X.env = pure false) (hw : swappedStores [tg] e X.env = pure none) (h1 : (assignEach [tg] X.env).map (·.2) = [assign tg X.env]) :
    PS X (.Assign [tg] e pos) (RTS X.K fun ρ S => (m ρ S).bind fun v S1 => match asg p v ρ S1 with | some ρ1 => .ok (.nx ρ1) S1 | none => .no) := by
  refine ps_imp (ps_asg he hg hs hw h1) fun D σ H ⟨μ, ρ, S, sr, er, g⟩ => ?_
  refine RX.part sr er g fun v u S1 H1 μ1 a1 sr1 er1 r1 g => ?_
  cases e : asg p v ρ S1 with
  | none => simp only [e] at g; exact (show False from g).elim
  | some ρ1 =>
    simp only [e] at g
    exact ⟨μ1, ρ, ρ1, S1, v, sr1, er1, r1, e, fun H' μ' σ' a' s' e' _ => g H' μ' (.nx σ') a' s' e'⟩
/-- o[i] = value -/
theorem s_sub {o i e : Expr} {pos pos' : Pos} {mo mi m : PEnv → Store → Res PV} (he : PE X e (RT X.K WF m)) (ho : PE X o (RT X.K WF mo)) (hi : PE X i (RT X.K WF mi)) (hsl : ∀ v, assign (.Subscript o i pos') X.env v = (do
      let ov ← holding [v] (eval o X.env)
      let iv ← holding [v, ov] (eval i X.env)
      standAt pos'
      holding [v, ov, iv] (setItem ov iv v)
      release [v, ov, iv] []))
    (hs : swapsWithSole [.Subscript o i pos'] e pos.line X.env = pure false) (hw : swappedStores [.Subscript o i pos'] e X.env = pure none) :
    PS X (.Assign [.Subscript o i pos'] e pos) (RTS X.K fun ρ S => (m ρ S).bind fun v S1 => (mo ρ S1).bind fun p S2 => (mi ρ S2).bind fun k S3 => match setIx S3 p k v with | some S4 => .ok (.nx ρ) S4 | none => .no) := by
  refine ps_imp (ps_asg he (pg_sub ho hi set_ok hsl) hs hw) fun D σ H ⟨μ, ρ, S, sr, er, g⟩ => ?_
  refine RX.part sr er g fun v u S1 H1 μ1 a1 sr1 er1 r1 g => ?_
  refine RX.part sr1 er1 g fun p up S2 H2 μ2 a2 sr2 er2 r2 g => ?_
  refine RX.part sr2 er2 g fun k uk S3 H3 μ3 a3 sr3 er3 r3 g => ?_
  have r1 := (r1.keep a2).keep a3
  have r2 := r2.keep a3
  cases e : setIx S3 p k v with
  | none => simp only [e] at g; exact (show False from g).elim
  | some S4 =>
    simp only [e] at g
    exact ⟨μ3, S3, S4, p, k, v, sr3, r2, r3, r1, e, fun H' a' s' => g H' μ3 (.nx σ) a' s' (er3.keep a')⟩
theorem s_for {tg it : Expr} {body : List Stmt} {pos : Pos} {p : Pt} {ms : PEnv → Store → Res Src} {mb : PEnv → Store → Res Out} (hp : PassesOwn (model X.prog X.w) X.A X.env X.xe) (hc : X.calm = true) (hi : PI X tg it (RI X.K ms)) (hg : PG X tg (gA X.K p)) (hb : PSs X body (RTS X.K mb))
    (hs : ∀ x, foldedSetIterable it X.env x = pure x) : PS X (.For tg it body [] pos) (RTS X.K fun ρ S => (ms ρ S).bind fun s S1 => match s with | .snap xs => loopS mb p xs ρ S1 | .live n => loopL mb p n (fuelOf S1 n) 0 ρ S1) := by
  refine ps_imp (ps_for hp hc hi hg hb hs) fun D σ0 H0 ⟨μ0, ρ0, S0, sr0, er0, g⟩ => ?_
  refine RX.part sr0 er0 g fun s J S1 H1 μ1 a1 sr1 er1 r1 g => ?_
  cases s with
  | snap xs =>
    refine ⟨fun i m σ H => m = xs.length - i ∧ i ≤ xs.length ∧ ∃ (μ : Mu) (ρ : PEnv) (S : Store), After H1 μ1 H μ ∧ SR X.K H μ S ∧ ER X.K H μ ρ σ ∧ Fin X.K WF (RO X.K) (loopS mb p (xs.drop i) ρ S) H μ fun _ o _ H' _ => dOut D o H',
      ⟨xs.length, by simp, Nat.zero_le _, μ1, ρ0, S1, After.refl, sr1, er1, g⟩, ?_⟩
    rintro i m σ H ⟨rfl, hi, μ, ρ, S, a, s, er, g⟩
    obtain ⟨j1, j2⟩ := r1 H μ S a s i
    by_cases hlt : i < xs.length
    · have ex : xs[i]? = some xs[i] := List.getElem?_eq_getElem hlt
      obtain ⟨jg, jy⟩ := j1 _ ex
      refine .inr ⟨jg, _, fun σ' H' h => ⟨xs.length - (i + 1), by omega, h⟩, fun x H' y => ?_⟩
      obtain ⟨a2, s2, r2⟩ := jy x H' y
      rw [List.drop_eq_getElem_cons hlt] at g
      unfold loopS at g
      cases ea : asg p xs[i] ρ S with
      | none => rw [ea] at g; exact (show False from g).elim
      | some ρ1 =>
        rw [ea] at g
        simp only at g
        refine ⟨μ, ρ, ρ1, S, _, s2, er.keep a2, r2, ea, fun H2 μ2 σ2 a3 s3 e3 _ => ?_⟩
        have g2 := Fin.shift s3 (a2.trans s2.trk a3) g
        refine RX.part (R := RO X.K) s3 e3 g2 fun o u S4 H4 μ4 a4 s4 e4 r4 g4 => ?_
        have a14 := ((a.trans s.trk a2).trans s2.trk a3).trans s3.trk a4
        cases o <;> cases u <;> first | exact (show False from r4).elim | skip
        · exact ⟨rfl, hlt, μ4, _, S4, a14, s4, r4, g4⟩
        · exact oOk (D := D) (.rt _) g4 s4 r4
        · exact oOk (D := D) (.nx _) g4 s4 r4
        · exact ⟨rfl, hlt, μ4, _, S4, a14, s4, r4, g4⟩
    · have e : i = xs.length := by omega
      subst e
      rw [List.drop_length] at g
      exact .inl ⟨j2 (by simp), oOk (.nx σ) g s er⟩
  | live n =>
    obtain ⟨a, hn, rfl⟩ := r1
    refine ⟨fun i m σ H => ∃ (μ : Mu) (ρ : PEnv) (S : Store), After H1 μ1 H μ ∧ SR X.K H μ S ∧ ER X.K H μ ρ σ ∧ Fin X.K WF (RO X.K) (loopL mb p n m i ρ S) H μ fun _ o _ H' _ => dOut D o H',
      ⟨_, μ1, ρ0, S1, After.refl, sr1, er1, g⟩, ?_⟩
    rintro i m σ H ⟨μ, ρ, S, aa, s, er, g⟩
    cases m with
    | zero => exact (show False from g).elim
    | succ m =>
      have hn2 : μ.l[n]? = some a := add_l aa hn
      obtain ⟨o', h1, q⟩ := s.obj n a hn2
      cases o' with
      | lst xs =>
      obtain ⟨us, e1, z1, rx⟩ := q
      unfold loopL at g
      rw [show S.get n = some (.lst xs) from h1] at g
      simp only at g
      cases ex : xs[i]? with
      | none =>
        rw [ex] at g
        exact .inl ⟨⟨us, .of e1, by rw [← rx.length]; exact List.getElem?_eq_none_iff.mp ex⟩, oOk (.nx σ) g s er⟩
      | some z =>
        rw [ex] at g
        simp only at g
        obtain ⟨uz, eu, rz⟩ := rx.get ex
        refine .inr ⟨⟨us, uz, .of e1, eu⟩, _, fun σ' H' h => ⟨m, Nat.lt_succ_self m, h⟩, fun x H' y => ?_⟩
        obtain ⟨rfl, y⟩ := y
        have y := y us (.of e1)
        rw [eu] at y
        injection y with y
        subst y
        cases ea : asg p z ρ S with
        | none => rw [ea] at g; exact (show False from g).elim
        | some ρ1 =>
          rw [ea] at g
          simp only at g
          refine ⟨μ, ρ, ρ1, S, _, s, er, rz, ea, fun H2 μ2 σ2 a3 s3 e3 _ => ?_⟩
          have g2 := Fin.shift s3 a3 g
          refine RX.part (R := RO X.K) s3 e3 g2 fun o u S4 H4 μ4 a4 s4 e4 r4 g4 => ?_
          have a14 := (aa.trans s.trk a3).trans s3.trk a4
          cases o <;> cases u <;> first | exact (show False from r4).elim | skip
          · exact ⟨μ4, _, S4, a14, s4, r4, g4⟩
          · exact oOk (D := D) (.rt _) g4 s4 r4
          · exact oOk (D := D) (.nx _) g4 s4 r4
          · exact ⟨μ4, _, S4, a14, s4, r4, g4⟩
theorem s_whl {c : Expr} {body : List Stmt} {pos : Pos} {mc : PEnv → Store → Res Bool} {mb : PEnv → Store → Res Out} (w : Nat) (hp : PassesOwn (model X.prog X.w) X.A X.env X.xe) (hc : PT X c (RTB X.K WF mc)) (hb : PSs X body (RTS X.K mb)) :
    PS X (.While c body [] pos) (RTS X.K fun ρ S => loopW mc mb w ρ S) := by
  refine ps_imp (ps_while hp hc hb) fun D σ0 H0 ⟨μ0, ρ0, S0, sr0, er0, g⟩ => ?_
  refine ⟨fun m σ H => ∃ (μ : Mu) (ρ : PEnv) (S : Store), SR X.K H μ S ∧ ER X.K H μ ρ σ ∧ Fin X.K WF (RO X.K) (loopW mc mb m ρ S) H μ fun _ o _ H' _ => dOut D o H', ⟨w, μ0, ρ0, S0, sr0, er0, g⟩, ?_⟩
  rintro m σ H ⟨μ, ρ, S, s, er, g⟩
  cases m with
  | zero => exact (show False from g).elim
  | succ m =>
    unfold loopW at g
    refine RX.part (R := RB) s er g fun v u S1 H1 μ1 a1 s1 e1 r1 g => ?_
    cases (show v = u from r1)
    cases v with
    | false =>
      rw [if_neg Bool.false_ne_true]
      exact oOk (.nx σ) g s1 e1
    | true =>
      rw [if_pos rfl]
      refine ⟨_, fun σ' H' h => ⟨m, Nat.lt_succ_self m, h⟩, ?_⟩
      refine RX.part (R := RO X.K) s1 e1 g fun o u S4 H4 μ4 a4 s4 e4 r4 g4 => ?_
      cases o <;> cases u <;> first | exact (show False from r4).elim | skip
      · exact ⟨μ4, _, S4, s4, r4, g4⟩
      · exact oOk (D := D) (.rt _) g4 s4 r4
      · exact oOk (D := D) (.nx _) g4 s4 r4
      · exact ⟨μ4, _, S4, s4, r4, g4⟩
end
end Pi
set_option maxRecDepth 100000
set_option maxHeartbeats 1000000
/-! Pi12: expressions. -/
namespace Pi
open PySem L2

abbrev MV := PEnv → Store → Res PV
abbrev MB := PEnv → Store → Res Bool
abbrev ML := PEnv → Store → Res (List PV)
section
variable {X : Cx} {e a b c : Expr} {pos : Pos} {m ma mb mc : MV} {ta tb tc : MB}
theorem truV {K : PySem.W.Frag} {H : Hp} {μ : Mu} {S : Store} {v : PV} {x : V} {k : Bool} (s : SR K H μ S) (r : Rep K H μ v x) (h : tru S v = some k) : TruV K x H k := by
  have d := rep_dr s r
  unfold tru at h
  generalize dr S v = v' at d h
  cases d with
  | non => cases h; exact rfl
  | bl b => cases h; exact rfl
  | int i => cases h; exact rfl
  | str x =>
    simp only at h
    split at h
    · rename_i hb
      cases h
      exact ⟨szl_eq ▸ ble_szl hb, rfl⟩
    · cases h
  | tup h1 l q =>
    cases h
    exact .inr (.inl ⟨_, h1.sq, by cases q <;> rfl⟩)
  | lst h1 l q =>
    cases h
    exact .inl ⟨_, .of h1, by cases q <;> rfl⟩
  | @dic a ks xs vs h1 l q =>
    cases h
    refine .inr (.inr ⟨_, h1, ?_⟩)
    cases ks <;> cases q <;> first | rfl | cases l
  | scr h1 l =>
    cases h
    exact .inl ⟨_, h1.sq, by cases ‹List Int› <;> rfl⟩
theorem e_var {i : Nat} {x : Str} (hN : X.N[i]? = some x) (hv : Vis X.env.scope x) (hd : (x == ("__debug__" : Str)) = false) (hcd : (x == ("__classdict__" : Str)) = false) :
    PE X (.Name x pos) (RT X.K WF fun ρ S => match ρ[i]? with
      | some (some v) => .ok v S
      | _ => .no) := by
  refine pe_imp (pe_var hN hv hd hcd) fun σ H Q ⟨μ, ρ, S, sr, er, g⟩ => ?_
  cases e : ρ[i]? with
  | none => simp only [e] at g; exact (show False from g).elim
  | some o =>
    cases o with
    | none => simp only [e] at g; exact (show False from g).elim
    | some v =>
      simp only [e] at g
      obtain ⟨u, hu, r⟩ := er.at_ i v e
      exact ⟨u, hu, Fin.ok (C := fun _ u _ H' _ => Q u H') g sr r⟩
theorem e_c {v : PV} {u : V} (h : PE X e (tC u)) (r : ∀ H μ, Rep X.K H μ v u) : PE X e (RT X.K WF fun _ S => .ok v S) :=
  pe_imp h fun σ H Q ⟨μ, ρ, S, sr, er, g⟩ => Fin.ok (C := fun _ u _ H' _ => Q u H') g sr (r H μ)
theorem e_bin (o : Bop) (ha : PE X a (RT X.K WF ma)) (hb : PE X b (RT X.K WF mb)) : PE X (.BinOp a (bopC o) b pos) (RT X.K WF fun ρ S => (ma ρ S).bind fun v S1 => (mb ρ S1).bind fun w S2 => ofO S2 (bop o S2 v w)) :=
  pe_imp (pe_op (opr_bop o) ha hb) fun σ H Q ⟨μ, ρ, S, sr, er, g⟩ => RX.part sr er g fun v u S1 H1 μ1 a1 sr1 er1 r1 g => RX.part sr1 er1 g fun w x S2 H2 μ2 a2 sr2 er2 r2 g =>
    ⟨μ2, S2, v, w, sr2, r1.keep a2, r2, g⟩
theorem e_neg (ha : PE X a (RT X.K WF ma)) : PE X (.UnaryOp .USub a pos) (RT X.K WF fun ρ S => (ma ρ S).bind fun v S1 => match v with
      | .int i => .ok (.int (-i)) S1
      | _ => .no) := by
  refine pe_imp (pe_un un_neg ha) fun σ H Q ⟨μ, ρ, S, sr, er, g⟩ => RX.part sr er g fun v u S1 H1 μ1 a1 sr1 er1 r1 g => ?_
  cases r1 <;> first | exact (show False from g).elim | skip
  exact ⟨_, rfl, fin_int (C := fun _ u _ H' _ => Q u H') g sr1⟩
theorem e_nott (ha : PE X a (RT X.K WF ma)) : PE X (.UnaryOp .Not a pos) (RT X.K WF fun ρ S => (ma ρ S).bind fun v S1 => match tru S1 v with
      | some c => .ok (.bl !c) S1
      | none => .no) := by
  refine pe_imp (pe_notT ha) fun σ H Q ⟨μ, ρ, S, sr, er, g⟩ => RX.part sr er g fun v u S1 H1 μ1 a1 sr1 er1 r1 g => ?_
  cases e : tru S1 v with
  | none => simp only [e] at g; exact (show False from g).elim
  | some k => simp only [e] at g; exact ⟨k, truV sr1 r1 e, Fin.ok (C := fun _ u _ H' _ => Q u H') g sr1 (.bl _)⟩
theorem bound_of {K : PySem.W.Frag} {H : Hp} {μ : Mu} {S : Store} {o : Option Bool} {C : PV → V → Store → Hp → Mu → Prop} (f : Fin K WF (Rep K) ((ofB S o).bind fun c S3 => .ok (.bl c) S3) H μ C) : ∃ z, o = some z ∧ Fin K WF (Rep K) (.ok (.bl z) S) H μ C := by
  cases o with
  | none => exact (show False from f).elim
  | some z => exact ⟨z, rfl, f⟩
theorem boundB {K : PySem.W.Frag} {H : Hp} {μ : Mu} {S : Store} {o : Option Bool} {C : Bool → Bool → Store → Hp → Mu → Prop} (f : Fin K WF RB (ofB S o) H μ C) : ∃ z, o = some z ∧ Fin K WF RB (.ok z S) H μ C := by
  cases o with
  | none => exact (show False from f).elim
  | some z => exact ⟨z, rfl, f⟩
theorem e_cmp (hu : X.A.units + 65 < cLine) (o : Cop) (hm : behindInMarks (copC o) b = false) (ha : PE X a (RT X.K WF ma)) (hb : PE X b (RT X.K WF mb)) :
    PE X (.Compare a [copC o] [b] pos) (RT X.K WF fun ρ S => (ma ρ S).bind fun v S1 => (mb ρ S1).bind fun w S2 => (ofB S2 (cop o S2 v w)).bind fun c S3 => .ok (.bl c) S3) :=
  pe_imp (pe_cmpR (opr_cop (W := WF) hu o) ha hb hm) fun σ H Q ⟨μ, ρ, S, sr, er, g⟩ => RX.part sr er g fun v u S1 H1 μ1 a1 sr1 er1 r1 g => RX.part sr1 er1 g fun w x S2 H2 μ2 a2 sr2 er2 r2 g => by
    obtain ⟨k, ek, g⟩ := bound_of g
    exact ⟨μ2, S2, v, w, k, sr2, r1.keep a2, r2, ek, fin_bl (C := fun _ u _ H' _ => Q u H') g sr2⟩
theorem t_cmp (hu : X.A.units + 65 < cLine) (o : Cop) (hm : behindInMarks (copC o) b = false) (ha : PE X a (RT X.K WF ma)) (hb : PE X b (RT X.K WF mb)) :
    PT X (.Compare a [copC o] [b] pos) (RTB X.K WF fun ρ S => (ma ρ S).bind fun v S1 => (mb ρ S1).bind fun w S2 => ofB S2 (cop o S2 v w)) :=
  pt_imp (pt_cmpR (opr_cop (W := WF) hu o) ha hb hm) fun σ H Q ⟨μ, ρ, S, sr, er, g⟩ => RX.part sr er g fun v u S1 H1 μ1 a1 sr1 er1 r1 g => RX.part sr1 er1 g fun w x S2 H2 μ2 a2 sr2 er2 r2 g => by
    obtain ⟨k, ek, g⟩ := boundB g
    exact ⟨μ2, S2, v, w, k, sr2, r1.keep a2, r2, ek, k, rfl, Fin.ok (C := fun _ u _ H' _ => Q u H') (u := k) g sr2 rfl⟩
theorem e_chain (hu : X.A.units + 65 < cLine) (o o' : Cop) (hm : lastMarks [copC o, copC o'] [b, c] = false) (ha : PE X a (RT X.K WF ma)) (hb : PE X b (RT X.K WF mb)) (hc : PE X c (RT X.K WF mc)) :
    PE X (.Compare a [copC o, copC o'] [b, c] pos) (RT X.K WF fun ρ S => (ma ρ S).bind fun v S1 => (mb ρ S1).bind fun w S2 => (ofB S2 (cop o S2 v w)).bind fun k S3 =>
        if k then (mc ρ S3).bind fun u S4 => (ofB S4 (cop o' S4 w u)).bind fun c S5 => .ok (.bl c) S5 else .ok (.bl false) S3) :=
  pe_imp (pe_chain (opr_cop (W := WF) hu o) (opr_cop (W := WF) hu o') ha hb hc hm) fun σ H Q ⟨μ, ρ, S, sr, er, g⟩ => RX.part sr er g fun v u S1 H1 μ1 a1 sr1 er1 r1 g => RX.part sr1 er1 g fun w x S2 H2 μ2 a2 sr2 er2 r2 g => by
    cases ek : cop o S2 v w with
    | none => rw [ek] at g; exact (show False from g).elim
    | some k =>
      rw [ek] at g
      refine ⟨μ2, S2, v, w, k, sr2, r1.keep a2, r2, ek, k, rfl, ?_⟩
      cases k with
      | false => rw [if_neg Bool.false_ne_true]; exact fin_bl (C := fun _ u _ H' _ => Q u H') g sr2
      | true =>
        rw [if_pos rfl]
        refine RX.part sr2 er2 g fun z y S4 H4 μ4 a4 sr4 er4 r4 g => ?_
        obtain ⟨k, ek, g⟩ := bound_of g
        exact ⟨μ4, S4, w, z, k, sr4, r2.keep a4, r4, ek, fin_bl (C := fun _ u _ H' _ => Q u H') g sr4⟩
theorem t_chain (hu : X.A.units + 65 < cLine) (o o' : Cop) (hm : lastMarks [copC o, copC o'] [b, c] = false) (ha : PE X a (RT X.K WF ma)) (hb : PE X b (RT X.K WF mb)) (hc : PE X c (RT X.K WF mc)) :
    PT X (.Compare a [copC o, copC o'] [b, c] pos) (RTB X.K WF fun ρ S => (ma ρ S).bind fun v S1 => (mb ρ S1).bind fun w S2 => (ofB S2 (cop o S2 v w)).bind fun k S3 =>
        if k then (mc ρ S3).bind fun u S4 => ofB S4 (cop o' S4 w u) else .ok false S3) :=
  pt_imp (pt_chain (opr_cop (W := WF) hu o) (opr_cop (W := WF) hu o') ha hb hc hm) fun σ H Q ⟨μ, ρ, S, sr, er, g⟩ => RX.part sr er g fun v u S1 H1 μ1 a1 sr1 er1 r1 g => RX.part sr1 er1 g fun w x S2 H2 μ2 a2 sr2 er2 r2 g => by
    cases ek : cop o S2 v w with
    | none => rw [ek] at g; exact (show False from g).elim
    | some k =>
      rw [ek] at g
      refine ⟨μ2, S2, v, w, k, sr2, r1.keep a2, r2, ek, k, rfl, ?_⟩
      cases k with
      | false => rw [if_neg Bool.false_ne_true]; exact ⟨false, rfl, Fin.ok (C := fun _ u _ H' _ => Q u H') (u := false) g sr2 rfl⟩
      | true =>
        rw [if_pos rfl]
        refine RX.part sr2 er2 g fun z y S4 H4 μ4 a4 sr4 er4 r4 g => ?_
        obtain ⟨k, ek, g⟩ := boundB g
        exact ⟨μ4, S4, w, z, k, sr4, r2.keep a4, r4, ek, k, rfl, Fin.ok (C := fun _ u _ H' _ => Q u H') (u := k) g sr4 rfl⟩
theorem e_and {rest : List Expr} (ha : PE X a (RT X.K WF ma)) (hb : PE X (.BoolOp .And (b :: rest) pos) (RT X.K WF mb)) : PE X (.BoolOp .And (a :: b :: rest) pos) (RT X.K WF fun ρ S => (ma ρ S).bind fun v S1 => match tru S1 v with
      | some true => mb ρ S1
      | some false => .ok v S1
      | none => .no) := by
  refine pe_imp (pe_andT ha hb) fun σ H Q ⟨μ, ρ, S, sr, er, g⟩ => RX.part sr er g fun v u S1 H1 μ1 a1 sr1 er1 r1 g => ?_
  cases e : tru S1 v with
  | none => simp only [e] at g; exact (show False from g).elim
  | some k =>
    simp only [e] at g
    refine ⟨k, truV sr1 r1 e, ?_⟩
    cases k with
    | true => rw [if_pos rfl]; exact ⟨μ1, ρ, S1, sr1, er1, g⟩
    | false => rw [if_neg Bool.false_ne_true]; exact Fin.ok (C := fun _ u _ H' _ => Q u H') g sr1 r1
theorem e_or {rest : List Expr} (ha : PE X a (RT X.K WF ma)) (hb : PE X (.BoolOp .Or (b :: rest) pos) (RT X.K WF mb)) : PE X (.BoolOp .Or (a :: b :: rest) pos) (RT X.K WF fun ρ S => (ma ρ S).bind fun v S1 => match tru S1 v with
      | some true => .ok v S1
      | some false => mb ρ S1
      | none => .no) := by
  refine pe_imp (pe_orT ha hb) fun σ H Q ⟨μ, ρ, S, sr, er, g⟩ => RX.part sr er g fun v u S1 H1 μ1 a1 sr1 er1 r1 g => ?_
  cases e : tru S1 v with
  | none => simp only [e] at g; exact (show False from g).elim
  | some k =>
    simp only [e] at g
    refine ⟨k, truV sr1 r1 e, ?_⟩
    cases k with
    | false => rw [if_neg Bool.false_ne_true]; exact ⟨μ1, ρ, S1, sr1, er1, g⟩
    | true => rw [if_pos rfl]; exact Fin.ok (C := fun _ u _ H' _ => Q u H') g sr1 r1
/-- a test by the value's truth -/
theorem t_val (ha : PE X e (RT X.K WF m)) (he : ∀ whole, isTrue e X.env whole = (do let v ← whole; standAt e.pos; holding [v] (truthy v))) :
    PT X e (RTB X.K WF fun ρ S => (m ρ S).bind fun v S1 => ofB S1 (tru S1 v)) :=
  pt_imp (pt_truth ha he) fun σ H Q ⟨μ, ρ, S, sr, er, g⟩ => RX.part sr er g fun v u S1 H1 μ1 a1 sr1 er1 r1 g => by
    obtain ⟨k, ek, g⟩ := boundB g
    exact ⟨k, truV sr1 r1 ek, Fin.ok (C := fun _ u _ H' _ => Q u H') (u := k) g sr1 rfl⟩
theorem t_not (ha : PT X a (RTB X.K WF ta)) : PT X (.UnaryOp .Not a pos) (RTB X.K WF fun ρ S => (ta ρ S).bind fun k S1 => .ok (!k) S1) :=
  pt_imp (pt_not ha) fun σ H Q ⟨μ, ρ, S, sr, er, g⟩ => RX.part sr er g fun v u S1 H1 μ1 a1 sr1 er1 r1 g => by
    cases (show v = u from r1)
    exact Fin.ok (C := fun _ u _ H' _ => Q u H') (u := !v) g sr1 rfl
theorem pw_imp {t t' : TT} (h : PW X e t) (f : ∀ σ H Q, t' σ H Q → t σ H Q) : PW X e t' := ⟨fun wh pins s σ H Q I q => h.run wh pins s σ H Q I (f σ H Q q)⟩
theorem w_and {rest : List Expr} (ha : PT X a (RTB X.K WF ta)) (hb : PW X (.BoolOp .And (b :: rest) pos) (RTB X.K WF tb)) : PW X (.BoolOp .And (a :: b :: rest) pos) (RTB X.K WF fun ρ S => (ta ρ S).bind fun k S1 => if k then tb ρ S1 else .ok false S1) :=
  pw_imp (pw_and ha hb) fun σ H Q ⟨μ, ρ, S, sr, er, g⟩ => RX.part sr er g fun v u S1 H1 μ1 a1 sr1 er1 r1 g => by
    cases (show v = u from r1)
    cases v with
    | true => rw [if_pos rfl]; exact ⟨μ1, ρ, S1, sr1, er1, g⟩
    | false => rw [if_neg Bool.false_ne_true]; exact Fin.ok (C := fun _ u _ H' _ => Q u H') (u := false) g sr1 rfl
theorem w_or {rest : List Expr} (ha : PT X a (RTB X.K WF ta)) (hb : PW X (.BoolOp .Or (b :: rest) pos) (RTB X.K WF tb)) : PW X (.BoolOp .Or (a :: b :: rest) pos) (RTB X.K WF fun ρ S => (ta ρ S).bind fun k S1 => if k then .ok true S1 else tb ρ S1) :=
  pw_imp (pw_or ha hb) fun σ H Q ⟨μ, ρ, S, sr, er, g⟩ => RX.part sr er g fun v u S1 H1 μ1 a1 sr1 er1 r1 g => by
    cases (show v = u from r1)
    cases v with
    | false => rw [if_neg Bool.false_ne_true]; exact ⟨μ1, ρ, S1, sr1, er1, g⟩
    | true => rw [if_pos rfl]; exact Fin.ok (C := fun _ u _ H' _ => Q u H') (u := true) g sr1 rfl
theorem e_if (hc : PT X c (RTB X.K WF tc)) (ha : PE X a (RT X.K WF ma)) (hb : PE X b (RT X.K WF mb)) : PE X (.IfExp c a b pos) (RT X.K WF fun ρ S => (tc ρ S).bind fun k S1 => if k then ma ρ S1 else mb ρ S1) :=
  pe_imp (pe_ifExp hc ha hb) fun σ H Q ⟨μ, ρ, S, sr, er, g⟩ => RX.part sr er g fun v u S1 H1 μ1 a1 sr1 er1 r1 g => by
    cases (show v = u from r1)
    cases v with
    | true => rw [if_pos rfl]; exact ⟨μ1, ρ, S1, sr1, er1, g⟩
    | false => rw [if_neg Bool.false_ne_true]; exact ⟨μ1, ρ, S1, sr1, er1, g⟩
theorem t_if (hc : PT X c (RTB X.K WF tc)) (ha : PT X a (RTB X.K WF ta)) (hb : PT X b (RTB X.K WF tb)) : PT X (.IfExp c a b pos) (RTB X.K WF fun ρ S => (tc ρ S).bind fun k S1 => if k then ta ρ S1 else tb ρ S1) := by
  refine ⟨fun pins s σ H Q I ⟨μ, ρ, S, sr, er, g⟩ => ?_⟩
  have hc' := hc.run pins s σ H (fun k H1 => if k = true then RTB X.K WF ta σ H1 Q else RTB X.K WF tb σ H1 Q) I (RX.part sr er g fun v u S1 H1 μ1 a1 sr1 er1 r1 g => by
    cases (show v = u from r1)
    cases v with
    | true => rw [if_pos rfl]; exact ⟨μ1, ρ, S1, sr1, er1, g⟩
    | false => rw [if_neg Bool.false_ne_true]; exact ⟨μ1, ρ, S1, sr1, er1, g⟩)
  rw [PySem.isTrue]
  refine wpAny_bind (thn hc' fun k s1 ⟨H1, I1, q1⟩ => ?_)
  cases k with
  | true => exact ha.run pins s1 σ H1 Q I1 q1
  | false => exact hb.run pins s1 σ H1 Q I1 q1
end
end Pi
set_option maxRecDepth 100000
set_option maxHeartbeats 1000000
/-! Pi13: argument lists, displays, subscripts, calls of built-in things. -/
namespace Pi
open PySem L2

section
variable {X : Cx} {e a b c : Expr} {es : List Expr} {pos p p2 p3 : Pos} {m ma mb mc : MV} {ml : ML}
theorem a_nil : PA X [] (RTL X.K WF fun _ S => .ok [] S) := pa_imp pa_nil fun σ H Q ⟨μ, ρ, S, sr, er, g⟩ => Fin.ok (C := fun _ u _ H' _ => Q u H') g sr .nil
theorem a_cons (hs : noStar e = true) (h : PE X e (RT X.K WF m)) (hr : PA X es (RTL X.K WF ml)) : PA X (e :: es) (RTL X.K WF fun ρ S => (m ρ S).bind fun v S1 => (ml ρ S1).bind fun ys S2 => .ok (v :: ys) S2) :=
  pa_imp (pa_cons h hr (star_no hs)) fun σ H Q ⟨μ, ρ, S, sr, er, g⟩ => RX.part sr er g fun v u S1 H1 μ1 a1 sr1 er1 r1 g => RX.part sr1 er1 g fun vs us S2 H2 μ2 a2 sr2 er2 r2 g =>
    Fin.ok (C := fun _ u _ H' _ => Q u H') g sr2 (.cons (r1.keep a2) r2)
theorem a_star (h : PE X e (RT X.K WF m)) (hr : PA X es (RTL X.K WF ml)) : PA X (.Starred e p :: es) (RTL X.K WF fun ρ S => (m ρ S).bind fun v S1 => match seqOf S1 v with
    | some xs => (ml ρ S1).bind fun ys S2 => .ok (xs ++ ys) S2
    | none => .no) := by
  refine pa_imp (StX.pa_star h hr) fun σ H Q ⟨μ, ρ, S, sr, er, g⟩ => RX.part sr er g fun v u S1 H1 μ1 a1 sr1 er1 r1 g => ?_
  cases e : seqOf S1 v with
  | none => simp only [e] at g; exact (show False from g).elim
  | some xs =>
    simp only [e] at g
    obtain ⟨t, vs, rfl, l, q, z⟩ := rep_seq sr1 r1 e
    refine ⟨t, vs, rfl, z.elim (fun z => .inr (.of z.1)) (fun z => .inl z.1.sq), ?_⟩
    exact RX.part sr1 er1 g fun ys us S2 H2 μ2 a2 sr2 er2 r2 g => Fin.ok (C := fun _ u _ H' _ => Q u H') g sr2 ((q.keep a2).app r2)
theorem e_tup {x1 : Nat} (h : PA X es (RTL X.K WF ml)) : PE X (.Tuple es x1 pos) (RT X.K WF fun ρ S => (ml ρ S).bind fun xs S1 => if Nat.ble xs.length szl then .ok (.tup xs) S1 else .no) := by
  refine pe_imp (pe_tup h) fun σ H Q ⟨μ, ρ, S, sr, er, g⟩ => RX.part sr er g fun v u S1 H1 μ1 a1 sr1 er1 r1 g => ?_
  split at g
  · rename_i hz
    refine ⟨?_, fun p hp => Fin.tup (C := fun _ u _ H' _ => Q u H') g sr1 hp (ble_szl hz) r1⟩
    rw [← r1.length, ← szl_eq]; exact ble_szl hz
  · exact (show False from g).elim
theorem e_lst (b : Bool) (h : PA X es (RTL X.K WF ml)) : PE X (.List es pos) (RT X.K WF fun ρ S => (ml ρ S).bind fun xs S1 => if Nat.ble xs.length szl then mkl b xs S1 else .no) := by
  refine pe_imp (pe_lst h) fun σ H Q ⟨μ, ρ, S, sr, er, g⟩ => RX.part sr er g fun v u S1 H1 μ1 a1 sr1 er1 r1 g => ?_
  split at g
  · rename_i hz
    refine ⟨?_, fun p hp => ?_⟩
    · rw [← r1.length, ← szl_eq]; exact ble_szl hz
    · obtain ⟨v, S', μ', q⟩ := Fin.list (C := fun _ u _ H' _ => Q u H') g sr1 hp (ble_szl hz) r1
      exact q
  · exact (show False from g).elim
theorem e_ix (hu : X.A.units + 65 < cLine) (hs : PlainIx b) (ha : PE X a (RT X.K WF ma)) (hb : PE X b (RT X.K WF mb)) : PE X (.Subscript a b pos) (RT X.K WF fun ρ S => (ma ρ S).bind fun v S1 => (mb ρ S1).bind fun w S2 => ofO S2 (getIx S2 v w)) :=
  pe_imp (pe_ix (ix_ok (W := WF) hu) ha hb hs) fun σ H Q ⟨μ, ρ, S, sr, er, g⟩ => RX.part sr er g fun v u S1 H1 μ1 a1 sr1 er1 r1 g => RX.part sr1 er1 g fun w x S2 H2 μ2 a2 sr2 er2 r2 g =>
    ⟨μ2, S2, v, w, sr2, r1.keep a2, r2, g⟩
/-! ### slices -/
def ROi (_ : Hp) (_ : Mu) (a b : Option Int) : Prop := a = b
abbrev MO := PEnv → Store → Res (Option Int)
abbrev RTO (K : PySem.W.Frag) (mo : MO) : TO := RX K WF ROi mo
theorem po_imp {o : Option Expr} {t t' : TO} (h : PO X o t) (f : ∀ σ H Q, t' σ H Q → t σ H Q) : PO X o t' := ⟨fun pins s σ H Q I q => h.run pins s σ H Q I (f σ H Q q)⟩
theorem o_none : PO X none (RTO X.K fun _ S => .ok none S) := po_imp po_none fun σ H Q ⟨μ, ρ, S, sr, er, g⟩ => Fin.ok (C := fun _ u _ H' _ => Q u H') (u := none) g sr rfl
theorem o_some (h : PE X e (RT X.K WF m)) : PO X (some e) (RTO X.K fun ρ S => (m ρ S).bind fun v S1 => match v with
    | .int i => .ok (some i) S1
    | _ => .no) := by
  refine po_imp (po_some h) fun σ H Q ⟨μ, ρ, S, sr, er, g⟩ => RX.part sr er g fun v u S1 H1 μ1 a1 sr1 er1 r1 g => ?_
  cases r1 <;> first | exact (show False from g).elim | skip
  exact ⟨_, rfl, Fin.ok (C := fun _ u _ H' _ => Q u H') (u := some _) g sr1 rfl⟩
theorem e_slc {lo hi : Option Expr} {mlo mhi : MO} (ha : PE X a (RT X.K WF ma)) (hl : PO X lo (RTO X.K mlo)) (hh : PO X hi (RTO X.K mhi)) : PE X (.Subscript a (.Slice lo hi none p2) pos) (RT X.K WF fun ρ S => (ma ρ S).bind fun v S1 => (mlo ρ S1).bind fun l S2 => (mhi ρ S2).bind fun h S3 => ofO S3 (slice S3 v l h)) :=
  pe_imp (pe_slice (sl_ok (W := WF)) ha hl hh) fun σ H Q ⟨μ, ρ, S, sr, er, g⟩ => RX.part sr er g fun v u S1 H1 μ1 a1 sr1 er1 r1 g => RX.part sr1 er1 g fun l l' S2 H2 μ2 a2 sr2 er2 r2 g => RX.part sr2 er2 g fun h h' S3 H3 μ3 a3 sr3 er3 r3 g => by
    cases (show l = l' from r2)
    cases (show h = h' from r3)
    exact ⟨μ3, S3, v, sr3, (r1.keep a2).keep a3, g⟩
/-! ### calls of built-in things -/
theorem e_callB {x : Str} {id : String} {mm : List PV → Store → Res PV} (hc : CallR X (.builtin id) (rCP X.K WF mm)) (hg : Gl X x) (hm : X.mg x = none) (hv : bootBuiltins x = some (.builtin id)) (hn : x ≠ "__name__") (hd : (x == ("__debug__" : Str)) = false) (hs : (e :: es).all noStar = true) (ha : PA X (e :: es) (RTL X.K WF ml)) :
    PE X (.Call (.Name x p) (e :: es) [] pos) (RT X.K WF fun ρ S => (ml ρ S).bind fun vs S1 => mm vs S1) := by
  simp only [List.all_cons, Bool.and_eq_true] at hs
  exact pe_imp (pe_callB hc hg hm hv ha hn hd (star_no hs.1) (star_any hs.2)) fun σ H Q ⟨μ, ρ, S, sr, er, g⟩ => RX.part sr er g fun v u S1 H1 μ1 a1 sr1 er1 r1 g => ⟨μ1, S1, v, sr1, r1, g⟩
theorem e_callTy {x : Str} {id : String} {mm : List PV → Store → Res PV} (hc : CallR X (.type id) (rCP X.K WF mm)) (hg : Gl X x) (hm : X.mg x = none) (hv : bootBuiltins x = some (.type id)) (hn : x ≠ "__name__") (hd : (x == ("__debug__" : Str)) = false) (hs : (e :: es).all noStar = true) (ha : PA X (e :: es) (RTL X.K WF ml)) :
    PE X (.Call (.Name x p) (e :: es) [] pos) (RT X.K WF fun ρ S => (ml ρ S).bind fun vs S1 => mm vs S1) := by
  simp only [List.all_cons, Bool.and_eq_true] at hs
  exact pe_imp (pe_callTy hc hg hm hv ha hn hd (star_no hs.1) (star_any hs.2)) fun σ H Q ⟨μ, ρ, S, sr, er, g⟩ => RX.part sr er g fun v u S1 H1 μ1 a1 sr1 er1 r1 g => ⟨μ1, S1, v, sr1, r1, g⟩
/-- a method of a list -/
theorem e_meth {o : Expr} {mo : MV} {name : Str} {id : String} {mm : PV → List PV → Store → Res PV} {apos cpos : Pos} (slot : Slot "list" name id) (hty : typeOf (.builtin id) = pure (.type "method_descriptor")) (hm : MtR X id (rMP X.K WF mm))
    (hbase : attributeBase o name X.env (eval o X.env) = eval o X.env) (hline : (apos.endLine == cpos.line) = true)
    (hs : noStar e = true) (ho : PE X o (RT X.K WF mo)) (ha : PA X [e] (RTL X.K WF ml)) :
    PE X (.Call (.Attribute o name apos) [e] [] cpos) (RT X.K WF fun ρ S => (mo ρ S).bind fun v S1 => if isL (dr S1 v) then (ml ρ S1).bind fun vs S2 => mm v vs S2 else .no) := by
  refine pe_imp (pe_bm PySem.F.plainAttrs_list slot hty hm ho ha hbase (by rw [star_no hs]; rfl) hline (star_no hs) rfl) fun σ H Q ⟨μ, ρ, S, sr, er, g⟩ => RX.part sr er g fun v u S1 H1 μ1 a1 sr1 er1 r1 g => ?_
  split at g
  · rename_i hl
    have d := rep_dr sr1 r1
    generalize dr S1 v = z at d hl
    cases d <;> first | cases hl | skip
    rename_i h1 l q
    exact ⟨.inl ⟨rfl, _, .of h1⟩, RX.part sr1 er1 g fun vs us S2 H2 μ2 a2 sr2 er2 r2 g => ⟨μ2, S2, v, vs, sr2, r1.keep a2, r2, g⟩⟩
  · exact (show False from g).elim
end
end Pi
set_option maxRecDepth 100000
set_option maxHeartbeats 1000000
/-! Pi14: isinstance, repr, dict displays. -/
namespace Pi
open PySem L2

section
def tys : List String := ["NoneType", "bool", "int", "str", "tuple", "list", "dict"]
def clss : List String := ["bool", "int", "str", "tuple", "list", "dict"]
theorem kit_all (K : PySem.W.Frag) : ∀ t ∈ tys, ∀ c ∈ clss, PySem.W.kitOne K (.type t) (.type c) = some (isOf t c) := by
  intro t ht c hc
  simp only [tys, clss, List.mem_cons, List.mem_nil_iff, or_false] at ht hc
  rcases ht with rfl | rfl | rfl | rfl | rfl | rfl | rfl <;> rcases hc with rfl | rfl | rfl | rfl | rfl | rfl <;> kernel_rfl
theorem kit_any (K : PySem.W.Frag) {t : String} (ht : t ∈ tys) : ∀ {cs : List String}, (∀ c ∈ cs, c ∈ clss) → PySem.W.kitAny K (.type t) (cs.map Value.type) = some (cs.any (isOf t))
  | [], _ => rfl
  | c :: cs, h => by
    have h1 := kit_all K t ht c (h c (by simp))
    have ih := kit_any K ht (cs := cs) fun c hc => h c (List.mem_cons_of_mem _ hc)
    show (match PySem.W.kitOne K (.type t) (.type c) with
      | some true => some true
      | some false => PySem.W.kitAny K (.type t) (cs.map Value.type)
      | none => none) = _
    rw [h1, List.any_cons]
    cases isOf t c with
    | true => rfl
    | false => exact ih
theorem tyx_of {K : PySem.W.Frag} {H : Hp} {μ : Mu} {S : Store} {v : PV} {x : V} {t : String} (s : SR K H μ S) (r : Rep K H μ v x) (h : tyName S v = some t) : TyX K H x (.type t) ∧ t ∈ tys := by
  have d := rep_dr s r
  unfold tyName at h
  generalize dr S v = v' at d h
  cases d with
  | non => cases h; exact ⟨.base .non, by simp [tys]⟩
  | bl b => cases h; exact ⟨.base (.bl b), by simp [tys]⟩
  | int i => cases h; exact ⟨.base (.int i), by simp [tys]⟩
  | str x => cases h; exact ⟨.base (.str x), by simp [tys]⟩
  | tup h1 l q =>
    cases h
    refine ⟨?_, by simp [tys]⟩
    rcases h1 with ⟨h1 | ⟨o, h1⟩, _⟩ | ⟨o, its, n, h1, h2, _⟩
    · exact .base (.tup h1)
    · exact .fTuple h1
    · exact .kTuple h1 h2
  | lst h1 l q => cases h; exact ⟨.base (.lst h1), by simp [tys]⟩
  | dic h1 l q => cases h; exact ⟨.base (.dK h1), by simp [tys]⟩
  | scr h1 l =>
    cases h
    refine ⟨?_, by simp [tys]⟩
    rcases h1 with ⟨h1 | ⟨o, h1⟩, _⟩ | ⟨o, its, n, h1, h2, _⟩
    · exact .base (.lst h1)
    · exact .base (.frz h1)
    · exact .kList h1 h2
end
section
variable {X : Cx} {e a b c : Expr} {es : List Expr} {pos p p2 p3 : Pos} {m ma mb mc : MV} {ml : ML}
theorem boot_isi : bootBuiltins "isinstance" = some (.builtin "isinstance") := by decide +kernel
/-- a built-in class's name -/
structure IsTy (X : Cx) (x : Str) (n : String) : Prop where
  gl : Gl X x
  mg : X.mg x = none
  bt : bootBuiltins x = some (.type n)
  nn : x ≠ "__name__"
  nd : (x == ("__debug__" : Str)) = false
theorem pe_ty {x : Str} {n : String} (h : IsTy X x n) : PE X (.Name x p) (tC (.ty n)) := pe_bltn h.gl h.mg h.bt (by exact rfl) h.nn h.nd
theorem e_isi {x : Str} {n : String} (hg : Gl X "isinstance") (hm : X.mg "isinstance" = none) (hs : noStar a = true) (ha : PE X a (RT X.K WF ma)) (hc : IsTy X x n) (hn : n ∈ clss) :
    PE X (.Call (.Name "isinstance" p) [a, .Name x p2] [] pos) (RT X.K WF fun ρ S => (ma ρ S).bind fun v S1 => match tyName S1 v with
      | some t => .ok (.bl ([n].any (isOf t))) S1
      | none => .no) := by
  refine pe_imp (pe_callB (call_isi (X := X)) hg hm boot_isi (pa_cons ha (pa_cons (pe_ty hc) pa_nil) (star_no hs)) (by decide) (by decide) (star_no hs)) fun σ H Q ⟨μ, ρ, S, sr, er, g⟩ => RX.part sr er g fun v u S1 H1 μ1 a1 sr1 er1 r1 g => ?_
  cases e : tyName S1 v with
  | none => simp only [e] at g; exact (show False from g).elim
  | some t =>
    simp only [e] at g
    obtain ⟨h1, h2⟩ := tyx_of sr1 r1 e
    refine ⟨u, .ty n, .type t, .type n, _, rfl, .ty n, h1, kit_all X.K t h2 n hn, ?_⟩
    have g2 := fin_bl (C := fun _ u _ H' _ => Q u H') g sr1
    simpa using g2
/-- a list of built-in classes' names -/
inductive TyNames (X : Cx) : List Expr → List String → Prop
  | nil : TyNames X [] []
  | cons {x : Str} {n : String} {es : List Expr} {ns : List String} {p : Pos} : IsTy X x n → TyNames X es ns → TyNames X (.Name x p :: es) (n :: ns)
def tTys (ns : List String) : TA := fun _ H Q => Q (ns.map V.ty) H
theorem pa_tys : ∀ {es : List Expr} {ns : List String}, TyNames X es ns → PA X es (tTys ns)
  | _, _, .nil => pa_imp pa_nil fun _ _ _ q => q
  | _, _, .cons h t => pa_imp (pa_cons (pe_ty h) (pa_tys t)) fun _ _ _ q => q
theorem pair_cls : ∀ ns : List String, Paired ClsV (ns.map V.ty) (ns.map Value.type)
  | [] => .nil
  | n :: ns => .cons (.ty n) (pair_cls ns)
theorem e_isiT {ns : List String} {x1 : Nat} (hg : Gl X "isinstance") (hm : X.mg "isinstance" = none) (hs : noStar a = true) (ha : PE X a (RT X.K WF ma)) (hc : TyNames X es ns) (hn : ∀ n ∈ ns, n ∈ clss) (hl : ns.length ≤ 100) :
    PE X (.Call (.Name "isinstance" p) [a, .Tuple es x1 p2] [] pos) (RT X.K WF fun ρ S => (ma ρ S).bind fun v S1 => match tyName S1 v with
      | some t => .ok (.bl (ns.any (isOf t))) S1
      | none => .no) := by
  refine pe_imp (pe_callB (call_isiT (X := X)) hg hm boot_isi (pa_cons ha (pa_cons (pe_tup (pa_tys hc)) pa_nil) (star_no hs)) (by decide) (by decide) (star_no hs)) fun σ H Q ⟨μ, ρ, S, sr, er, g⟩ => RX.part sr er g fun v u S1 H1 μ1 a1 sr1 er1 r1 g => ?_
  cases e : tyName S1 v with
  | none => simp only [e] at g; exact (show False from g).elim
  | some t =>
    simp only [e] at g
    refine ⟨by rw [List.length_map, sizeLine_eq]; omega, fun p hp => ?_⟩
    have s2 := sr1.new (o := .tup (ns.map V.ty)) hp
    have r2 := r1.keep (After.new (o := .tup (ns.map V.ty)) hp)
    obtain ⟨h1, h2⟩ := tyx_of s2 r2 e
    have g2 := g (upd H1 p (.tup (ns.map V.ty))) μ1 (.bl (ns.any (isOf t))) (After.new hp) s2 (.bl _)
    exact ⟨u, p, ns.map V.ty, .type t, ns.map Value.type, _, rfl, upd_same, pair_cls ns, h1, kit_any X.K h2 hn, g2⟩
/-! ### repr -/
theorem dp_noDict {K : PySem.W.Frag} {H : Hp} : ∀ {v : V} {d : PyData}, Dp K H v d → d.hasDict = false := by
  intro v d h
  exact Dp.rec (motive_1 := fun _ d _ => d.hasDict = false) (motive_2 := fun _ ds _ => PyData.hasDictAll ds = false) (by simp [PyData.hasDict]) (by simp [PyData.hasDict]) (by simp [PyData.hasDict]) (by simp [PyData.hasDict])
    (fun _ _ ih => by simpa [PyData.hasDict] using ih) (fun _ _ ih => by simpa [PyData.hasDict] using ih) (by simp [PyData.hasDictAll]) (fun _ _ h1 h2 => by simp [PyData.hasDictAll, h1, h2]) h
def rRepr (K : PySem.W.Frag) : List V → Hp → VK → Prop := fun xs H Q => ∃ (v : V) (d : PyData), xs = [v] ∧ Dp K H v d ∧ d.showable = true ∧ d.shown.length ≤ sizeLine ∧ d.depth ≤ 40 ∧ Q (.str d.shown) H
theorem call_repr (hg : X.A.guards = some []) (hu : X.A.units + 65 < cLine) : CallR X (.builtin "repr") (rRepr X.K) := by
  intro pins s σ H xs us Q I r h
  obtain ⟨v, d, rfl, dp, hs, hz, hd, q⟩ := h
  obtain ⟨u, rfl, r1⟩ := vals1 r
  obtain ⟨as, rd⟩ := Dp.reads I d v u dp r1
  have nd := dp_noDict dp
  cases dp with
  | non => cases (show u = Value.none from r1); exact P.repr_of_none ⟨.str _, H, I.tok _, ⟨_, rfl⟩, q⟩
  | bl b => cases (show u = Value.bool b from r1); exact P.repr_of_bool ⟨.str _, H, I.tok _, ⟨_, rfl⟩, q⟩
  | int i =>
    obtain ⟨t, rfl⟩ := (show ∃ t, u = Value.int i t from r1)
    exact P.repr_of_int (of_decide_eq_true (by simpa [PyData.showable] using hs)) ⟨.str _, H, I.tok _, ⟨_, rfl⟩, q⟩
  | str x =>
    obtain ⟨t, rfl⟩ := (show ∃ t, u = Value.str x t from r1)
    exact P.repr_of_str ⟨.str _, H, I.tok _, ⟨_, rfl⟩, q⟩ hz
  | @lst a xs ds h1 h2 =>
    cases (show u = Value.ref a from r1)
    exact PySem.repr_of_reads' rd hs (PySem.PyData.noDict_hsm nd) hg (by omega) (fun _ _ e => e) (fun h' u tk hk => ⟨.str _, H, I.kept hk, ⟨_, rfl⟩, q⟩) hz
  | @tup a xs ds h1 h2 =>
    cases (show u = Value.ref a from r1)
    exact PySem.repr_of_reads' rd hs (PySem.PyData.noDict_hsm nd) hg (by omega) (fun _ _ e => e) (fun h' u tk hk => ⟨.str _, H, I.kept hk, ⟨_, rfl⟩, q⟩) hz
theorem c_repr (hg : X.A.guards = some []) (hu : X.A.units + 65 < cLine) : CallR X (.builtin "repr") (rCP X.K WF fun vs S => bltOf .repr S vs) := by
  refine c1 (one_of fun _ v w => by cases v <;> cases w <;> rfl) (call_repr hg hu) fun H μ S v x Q sr r f => ?_
  obtain ⟨z, e, f⟩ := fin_o (show Fin X.K WF (Rep X.K) (ofO S (blt1 .repr S v)) H μ (fun _ u _ H' _ => Q u H') from f)
  unfold blt1 at e
  simp only at e
  split at e
  · rename_i d ed
    split at e
    · rename_i hb
      simp only [Bool.and_eq_true] at hb
      cases e
      exact ⟨x, d, rfl, rep_dat sr 40 r ed, hb.1.1, szl_eq ▸ ble_szl hb.1.2, Nat.le_of_ble_eq_true hb.2, Fin.ok (C := fun _ u _ H' _ => Q u H') f sr (.str _)⟩
    · cases e
  · cases e
end
end Pi
set_option maxRecDepth 100000
set_option maxHeartbeats 1000000
/-! Pi15: dict displays, comprehensions, two or three names at once, match. -/
namespace Pi
open PySem L2

def isStar : E → Bool
  | .star _ => true
  | _ => false
theorem evs_cons {f : E → PEnv → Store → Res PV} {x : E} {xs : List E} (h : isStar x = false) : evs f (x :: xs) = fun ρ S => (f x ρ S).bind fun v S1 => (evs f xs ρ S1).bind fun ys S2 => .ok (v :: ys) S2 := by
  cases x <;> first | rfl | cases h
theorem RX.partE {K : PySem.W.Frag} {W : XW} {α β γ δ : Type} {R : Hp → Mu → α → β → Prop} {R2 : Hp → Mu → γ → δ → Prop} {H : Hp} {μ : Mu} {S : Store} {σ : L2.St} {ρ : PEnv} {m : PEnv → Store → Res α} {k : α → Store → Res γ} {C : γ → δ → Store → Hp → Mu → Prop} (s : SR K H μ S) (e : ER K H μ ρ σ) (h : Fin K W R2 ((m ρ S).bind k) H μ C) {Q : β → Hp → Prop}
    (f : ∀ v u S' H' μ', m ρ S = .ok v S' → After H μ H' μ' → SR K H' μ' S' → ER K H' μ' ρ σ → R H' μ' v u → Fin K W R2 (k v S') H' μ' C → Q u H') : RX K W R m σ H Q :=
  ⟨μ, ρ, S, s, e, (Fin.seq (R := R) h).mono fun v u S' H' μ' hq a s' q g => f v u S' H' μ' hq a s' (e.keep a) q g⟩
/-! ### dict displays -/
section
variable {X : Cx} {pos : Pos} {f : E → PEnv → Store → Res PV}
/-- the values of a display, each by its reading -/
inductive AllE (X : Cx) (f : E → PEnv → Store → Res PV) : List Expr → List E → Prop
  | nil : AllE X f [] []
  | cons {e : Expr} {es : List Expr} {x : E} {xs : List E} : PE X e (RT X.K WF (f x)) → isStar x = false → AllE X f es xs → AllE X f (e :: es) (x :: xs)
inductive KeysE : List (Option Expr) → List Str → Prop
  | nil : KeysE [] []
  | cons {k : Str} {j : Nat} {p : Pos} {es : List (Option Expr)} {ks : List Str} : KeysE es ks → KeysE (some (.Constant (.str k) j p) :: es) (k :: ks)
def trs (K : PySem.W.Frag) (f : E → PEnv → Store → Res PV) : List Str → List E → List (TE × TE)
  | k :: ks, x :: xs => (tC (.str k), RT K WF (f x)) :: trs K f ks xs
  | _, _ => []
theorem pps_all : ∀ {keys : List (Option Expr)} {ks : List Str} {es : List Expr} {xs : List E}, KeysE keys ks → AllE X f es xs → keys.length = es.length → PPs X pos keys es (trs X.K f ks xs)
  | _, _, _, _, .nil, .nil, _ => pps_nil
  | _, _, _, _, .cons k, .cons h _ t, hl => pps_cons pe_str h (pps_all k t (by simpa using hl))
  | _, _, _, _, .nil, .cons _ _ _, hl => by simp at hl
  | _, _, _, _, .cons _, .nil, hl => by simp at hl
theorem trs_ok {ρ : PEnv} {σ : L2.St} : ∀ {ks : List Str} {es : List Expr} {xs : List E} {H : Hp} {μ : Mu} {S : Store} {Q : List (V × V) → Hp → Prop} {C : List PV → List V → Store → Hp → Mu → Prop}, AllE X f es xs → ks.length = xs.length →
    SR X.K H μ S → ER X.K H μ ρ σ → Fin X.K WF (RepAll X.K) (evs f xs ρ S) H μ C →
    (∀ vs us S1 H1 μ1, evs f xs ρ S = .ok vs S1 → After H μ H1 μ1 → SR X.K H1 μ1 S1 → RepAll X.K H1 μ1 vs us → vs.length = xs.length → Q ((ks.map V.str).zip us) H1) → tPairs (trs X.K f ks xs) σ H Q
  | [], _, [], _, _, _, _, _, .nil, _, sr, er, g, h => h [] [] _ _ _ rfl After.refl sr .nil rfl
  | k :: ks, _, x :: xs, H, μ, S, Q, C, .cons hx hs t, hl, sr, er, g, h => by
    have ee := evs_cons (f := f) (xs := xs) hs
    rw [ee] at g
    show RT X.K WF (f x) σ H fun y H2 => tPairs (trs X.K f ks xs) σ H2 fun ps H3 => Q ((V.str k, y) :: ps) H3
    refine RX.partE sr er g fun v u S1 H1 μ1 e1 a1 sr1 er1 r1 g => ?_
    refine trs_ok t (by simpa using hl) sr1 er1 (Fin.seq (R := RepAll X.K) g) fun vs us S2 H2 μ2 e2 a2 sr2 r2 l2 => ?_
    refine h (v :: vs) (u :: us) S2 H2 μ2 ?_ (a1.trans sr1.trk a2) sr2 (.cons (r1.keep a2) r2) (by simp [l2])
    rw [ee]
    show (f x ρ S).bind _ = _
    rw [e1]
    show (evs f xs ρ S1).bind _ = _
    rw [e2]
    rfl
  | [], _, _ :: _, _, _, _, _, _, .cons _ _ _, hl, _, _, _, _ => by simp at hl
  | _ :: _, _, [], _, _, _, _, _, .nil, hl, _, _, _, _ => by simp at hl
theorem merge_new : ∀ {more acc : List (Key × V)}, (acc.map (·.1) ++ more.map (·.1)).Nodup → mergeK acc more = acc ++ more
  | [], acc, _ => by simp [mergeK]
  | (k, v) :: more, acc, h => by
    show mergeK (putK acc k v) more = _
    have hk : (acc.any fun kv => decide (kv.1 = k)) = false := by
      rw [List.any_eq_false]
      intro p hp
      simp only [decide_eq_true_eq]
      intro e
      rw [List.nodup_append] at h
      exact h.2.2 p.1 (List.mem_map.mpr ⟨p, hp, rfl⟩) k (by simp) e
    have e : putK acc k v = acc ++ [(k, v)] := by
      unfold putK
      rw [hk]
      rfl
    rw [e, merge_new (by simpa [List.append_assoc] using h)]
    simp
theorem keysE_all : ∀ {keys : List (Option Expr)} {ks : List Str}, KeysE keys ks → keys.all (·.isSome) = true ∧ keys.length = ks.length
  | _, _, .nil => ⟨rfl, rfl⟩
  | _, _, .cons t => ⟨by simp [(keysE_all t).1], by simp [(keysE_all t).2]⟩
theorem e_dis {keys : List (Option Expr)} {ks : List Str} {es : List Expr} {xs : List E} (hk : KeysE keys ks) (ha : AllE X f es xs) (hl : ks.length = xs.length) (hle : ks.length = es.length) (h0 : ks.isEmpty = false) (h15 : Nat.ble ks.length 15 = true) (hn : ks.Nodup) :
    PE X (.Dict keys es pos) (RT X.K WF fun ρ S => (evs f xs ρ S).bind fun vs S1 => if Nat.beq ks.length vs.length then .ok (.dic (ks.zip vs)) S1 else .no) := by
  obtain ⟨k1, k2⟩ := keysE_all hk
  refine pe_imp (pe_disp (pps_all hk ha (by omega)) k1 (by omega) (by intro e; subst e; cases hk; simp at h0) (by rw [k2]; exact Nat.le_of_ble_eq_true h15)) fun σ H Q ⟨μ, ρ, S, sr, er, g⟩ p hp => ?_
  have ap : After H μ (upd H p (.dK [])) (μ.hide p) := After.hide hp
  have s1 := sr.hide (o := .dK []) hp
  refine trs_ok ha hl s1 (er.keep ap) (Fin.seq (R := RepAll X.K) (Fin.shift s1 ap g)) fun vs us S1 H1 μ1 e1 a1 sr1 r1 l1 => ?_
  simp only [e1] at g
  have g : Fin X.K WF (Rep X.K) (if Nat.beq ks.length vs.length then .ok (.dic (ks.zip vs)) S1 else .no) H μ fun _ u _ H' _ => Q u H' := g
  rw [if_pos (by rw [l1, hl]; exact Nat.beq_refl _)] at g
  have hpl : p ∉ μ.l := fun z => sr.off hp (.inl z)
  have hpd : p ∉ μ.d := fun z => sr.off hp (.inr z)
  have h1 : H1 p = some (.dK []) := (a1.keep p hpl (by rw [upd_same]; simp)).trans upd_same
  obtain ⟨d1, ed, _⟩ := a1.hid
  have sub : ∀ b ∈ p :: μ.d, b ∈ μ1.d := fun b hb => by rw [ed]; exact List.mem_append_right _ hb
  have hp1 : p ∉ μ1.l := (sr1.dl p (sub p List.mem_cons_self)).2
  have s2 : SR X.K H1 ⟨μ1.l, p :: μ.d⟩ S1 := SR.less sub sr1
  have r2 : RepAll X.K H1 ⟨μ1.l, p :: μ.d⟩ vs us := RepAll.less sub r1
  have lu : us.length = ks.length := by rw [← r1.length, l1, hl]
  refine ⟨h1, (ks.map (Sum.inr (α := Int))).zip us, ?_, ?_, ?_⟩
  · rw [List.zip_map_left, List.zip_map_left, List.map_map]
    rfl
  · rw [List.length_zip, List.length_map, lu, Nat.min_self]; exact Nat.le_of_ble_eq_true h15
  · rw [merge_new (by
      rw [List.map_nil, List.nil_append, List.map_fst_zip (by rw [List.length_map]; omega)]
      exact List.pairwise_map.mpr (List.Pairwise.imp (fun h e => h (Sum.inr.inj e)) hn)), List.nil_append]
    have sx : SR X.K (upd H1 p (.dK ((ks.map (Sum.inr (α := Int))).zip us))) ⟨μ1.l, p :: μ.d⟩ S1 := SR.wr (μ := ⟨μ1.l, μ.d⟩) s2
    have rx : RepAll X.K (upd H1 p (.dK ((ks.map (Sum.inr (α := Int))).zip us))) ⟨μ1.l, p :: μ.d⟩ vs us := RepAll.wr (μ := ⟨μ1.l, μ.d⟩) r2
    have a : After H μ (upd H1 p (.dK ((ks.map (Sum.inr (α := Int))).zip us))) ⟨μ1.l, μ.d⟩ := ((ap.trans s1.trk a1).wr hp).cut
    have sub2 : ∀ b ∈ μ.d, b ∈ p :: μ.d := fun b hb => List.mem_cons_of_mem _ hb
    exact g _ ⟨μ1.l, μ.d⟩ (.ref p) a (SR.less sub2 sx) (.dic upd_same (fun z => z.elim hp1 hpd) (by omega) (RepAll.less sub2 rx))
end
end Pi
set_option maxRecDepth 100000
set_option maxHeartbeats 1000000
/-! Pi16: comprehensions, two or three names at once, match. -/
namespace Pi
open PySem L2
section
variable {X : Cx} {pos spos : Pos}
/-- [elt for tg in it if c]: what the parts must be, within any block of this scope -/
structure CompOk (X : Cx) (scope : Scope) (vs : List Nat) (t : Pt) (elt tg iter : Expr) (ifs : List Expr) (ms : PEnv → Store → Res Src) (f : PEnv → Store → Res (Option PV)) (tt : TT) (te : TE) : Prop where
  calm : X.calm = true
  nd : X.N.Nodup
  src : PI X tg iter (RI X.K ms)
  blk : ∃ own : List (Str × Nat), BlkOk X.N X.env.scope scope own ∧ own.map (·.2) = vs
  hg : ∀ (s : Shared) (H : Hp) (C : Addr) (cl : List (Str × Addr)) (fp : List Addr), PG (X.blk s H scope (compEnvC scope cl C X.env) fp) tg (gA X.K t)
  ht : ∀ (s : Shared) (H : Hp) (C : Addr) (cl : List (Str × Addr)) (fp : List Addr), PTs (X.blk s H scope (compEnvC scope cl C X.env) fp) ifs tt
  he : ∀ (s : Shared) (H : Hp) (C : Addr) (cl : List (Str × Addr)) (fp : List Addr), PE (X.blk s H scope (compEnvC scope cl C X.env) fp) elt te
  fold : ∀ x, foldedSetIterable iter X.env x = pure x
  slots : ∀ i ∈ slots t, i ∈ vs
  turn : ∀ σ2 H2 (Y : V → Hp → Prop) (N : Hp → Prop), RX X.K WF (ROp X.K) f σ2 H2 (onO Y N) → tt σ2 H2 fun b H3 => if b = true then te σ2 H3 Y else N H3
theorem e_comp {scope : Scope} {vs : List Nat} {t : Pt} {elt tg iter : Expr} {ifs : List Expr} {ms : PEnv → Store → Res Src} {f : PEnv → Store → Res (Option PV)} {tt : TT} {te : TE} (b : Bool) (h : CompOk X scope vs t elt tg iter ifs ms f tt te) :
    PE X (.ListComp elt [⟨tg, iter, ifs, 0⟩] scope pos) (RT X.K WF fun ρ S => (ms ρ S).bind fun s S1 => compOf b s f t (wip ρ vs) S1) := by
  obtain ⟨own, ok, rfl⟩ := h.blk
  exact pe_imp (pe_lc h.calm h.nd h.src ok h.hg h.ht h.he h.fold) fun σ H Q q => comp_ok h.slots h.turn σ H Q q
/-- x = [..], the list laid before the block's names go -/
theorem s_setComp {i : Nat} {y : Str} {py : Pos} {scope : Scope} {vs : List Nat} {t : Pt} {elt tg iter : Expr} {ifs : List Expr} {ms : PEnv → Store → Res Src} {f : PEnv → Store → Res (Option PV)} {tt : TT} {te : TE} (b : Bool) (h : CompOk X scope vs t elt tg iter ifs ms f tt te)
    (hy : X.N[i]? = some y) (hyl : X.env.scope.names.lookup y = some .local) (hsw : swapsWith (.ListComp elt [⟨tg, iter, ifs, 0⟩] scope pos) (some (.Name y py)) spos.line X.env = pure true) :
    PS X (.Assign [.Name y py] (.ListComp elt [⟨tg, iter, ifs, 0⟩] scope pos) spos) (RTS X.K fun ρ S => ((ms ρ S).bind fun s S1 => compOf b s f t (wip ρ vs) S1).bind fun v S1 => match asg (.nm i) v ρ S1 with
      | some ρ1 => .ok (.nx ρ1) S1
      | none => .no) := by
  obtain ⟨own, ok, rfl⟩ := h.blk
  refine ps_imp (ps_setLc h.calm h.nd hy hyl hsw h.src ok h.hg h.ht h.he h.fold) fun D σ H ⟨μ, ρ, S, sr, er, g⟩ => ?_
  refine comp_ok (b := b) h.slots h.turn σ H _ ?_
  refine RX.part (m := fun ρ S => (ms ρ S).bind fun s S1 => compOf b s f t (wip ρ (own.map (·.2))) S1) sr er g fun v u S1 H1 μ1 a1 sr1 er1 r1 g => ?_
  exact oOk (D := D) (.nx _) (show Fin X.K WF (RO X.K) (.ok (.nx (ρ.set i (some v))) S1) H1 μ1 _ from g) sr1 (er1.set r1)
/-! ### a, b = e1, e2 -/
theorem s_par2 {i j : Nat} {x y : Str} {a b : Expr} {px py pt : Pos} {kt k2 pt2} {ml : ML} (hc : X.calm = true) (hN : X.N.Nodup) (hi : X.N[i]? = some x) (hj : X.N[j]? = some y) (hij : i ≠ j)
    (hx : X.env.scope.names.lookup x = some .local) (hy : X.env.scope.names.lookup y = some .local) (ha : PA X [a, b] (RTL X.K WF ml))
    (hw : swappedStores [.Tuple [.Name x px, .Name y py] kt pt] (.Tuple [a, b] k2 pt2) X.env = pure (some [x, y])) :
    PS X (.Assign [.Tuple [.Name x px, .Name y py] kt pt] (.Tuple [a, b] k2 pt2) pos) (RTS X.K fun ρ S => (ml ρ S).bind fun vs S1 => match setAll [i, j] vs ρ with
      | some ρ1 => .ok (.nx ρ1) S1
      | none => .no) := by
  refine ps_imp (ps_par hc hN hi hj hij hx hy ha hw) fun D σ H ⟨μ, ρ, S, sr, er, g⟩ => RX.part sr er g fun vs us S1 H1 μ1 a1 sr1 er1 r1 g => ?_
  cases r1 with
  | nil => exact (show False from g).elim
  | cons r1 t =>
    cases t with
    | nil => exact (show False from g).elim
    | cons r2 t =>
      cases t with
      | cons _ _ => exact (show False from g).elim
      | nil => exact ⟨_, _, rfl, oOk (D := D) (.nx _) (show Fin X.K WF (RO X.K) (.ok (.nx _) S1) H1 μ1 _ from g) sr1 ((er1.set r1).set r2)⟩
theorem s_par3 {i j l : Nat} {x y z : Str} {a b c : Expr} {px py pz pt : Pos} {kt k2 pt2} {ml : ML} (hc : X.calm = true) (hN : X.N.Nodup) (hi : X.N[i]? = some x) (hj : X.N[j]? = some y) (hl : X.N[l]? = some z) (hij : i ≠ j) (hil : i ≠ l) (hjl : j ≠ l)
    (hx : X.env.scope.names.lookup x = some .local) (hy : X.env.scope.names.lookup y = some .local) (hz : X.env.scope.names.lookup z = some .local) (ha : PA X [a, b, c] (RTL X.K WF ml))
    (hw : swappedStores [.Tuple [.Name x px, .Name y py, .Name z pz] kt pt] (.Tuple [a, b, c] k2 pt2) X.env = pure (some [x, y, z])) :
    PS X (.Assign [.Tuple [.Name x px, .Name y py, .Name z pz] kt pt] (.Tuple [a, b, c] k2 pt2) pos) (RTS X.K fun ρ S => (ml ρ S).bind fun vs S1 => match setAll [i, j, l] vs ρ with
      | some ρ1 => .ok (.nx ρ1) S1
      | none => .no) := by
  refine ps_imp (ps_par3 hc hN hi hj hl hij hil hjl hx hy hz ha hw) fun D σ H ⟨μ, ρ, S, sr, er, g⟩ => RX.part sr er g fun vs us S1 H1 μ1 a1 sr1 er1 r1 g => ?_
  cases r1 with
  | nil => exact (show False from g).elim
  | cons r1 t =>
    cases t with
    | nil => exact (show False from g).elim
    | cons r2 t =>
      cases t with
      | nil => exact (show False from g).elim
      | cons r3 t =>
        cases t with
        | cons _ _ => exact (show False from g).elim
        | nil => exact ⟨_, _, _, rfl, oOk (D := D) (.nx _) (show Fin X.K WF (RO X.K) (.ok (.nx _) S1) H1 μ1 _ from g) sr1 (((er1.set r1).set r2).set r3)⟩
/-! ### match: constants, then anything -/
/-- the cases' readings -/
inductive Cases (X : Cx) (f : List Sm → PEnv → Store → Res Out) : List MatchCase → List (Option PV × List Sm) → Prop
  | nil : Cases X f [] []
  | str {x : Str} {j : Nat} {p p2 : Pos} {b : List Stmt} {cs : List MatchCase} {sb : List Sm} {ss : List (Option PV × List Sm)} : PSs X b (RTS X.K (f sb)) → Cases X f cs ss → Cases X f (⟨.MatchValue (.Constant (.str x) j p) p2, none, b⟩ :: cs) ((some (.str x), sb) :: ss)
  | any {p : Pos} {b : List Stmt} {sb : List Sm} : PSs X b (RTS X.K (f sb)) → Cases X f [⟨.MatchAs none none p, none, b⟩] [(none, sb)]
theorem cases_run (hu : X.A.units + 65 < cLine) {f : List Sm → PEnv → Store → Res Out} : ∀ {cs : List MatchCase} {ss : List (Option PV × List Sm)}, Cases X f cs ss → ∀ (pins : List (Addr × Obj)) (s : Shared) (σ : L2.St) (H : Hp) (D : Ends) (v : PV) (u : V) (uv : Value) (first : Bool) (μ : Mu) (ρ : PEnv) (S : Store),
    Inv X pins σ H s → RelV u uv → SR X.K H μ S → ER X.K H μ ρ σ → Rep X.K H μ v u → Fin X.K WF (RO X.K) (pick f v ρ ss S) H μ (fun _ o _ H' _ => dOut D o H') → wpAny (model X.prog X.w) X.A (matchCases cs X.env uv first) (SP X pins D) X.xe s
  | _, _, .nil, pins, s, σ, H, D, v, u, uv, first, μ, ρ, S, I, ru, sr, er, rv, g => PySem.wpAny_matchCases_nil ⟨σ, H, I, oOk (D := D) (.nx σ) g sr er⟩
  | _, _, .any hb, pins, s, σ, H, D, v, u, uv, first, μ, ρ, S, I, ru, sr, er, rv, g =>
    PySem.wpAny_matchCases_cons (PySem.wpAny_matchPattern_Capture (PySem.wpAny_assignInOrder_none (hb.run pins s σ H D I ⟨μ, ρ, S, sr, er, g⟩)))
  | _, _, .str (x := x) (sb := sb) (ss := ss) hb t, pins, s, σ, H, D, v, u, uv, first, μ, ρ, S, I, ru, sr, er, rv, g => by
    refine PySem.wpAny_matchCases_cons (PySem.wpAny_matchPattern_Value ?_)
    refine thn ((pe_str (X := X)).run pins s σ H (fun y H1 => y = .str x ∧ H1 = H) I ⟨rfl, rfl⟩) fun w s1 ⟨y, H1, I1, r1, e1, e2⟩ => ?_
    subst e1 e2
    cases ek : scalEq v (.str x) with
    | none =>
      have g : Fin X.K WF (RO X.K) (match scalEq v (.str x) with
        | some true => f sb ρ S
        | some false => pick f v ρ ss S
        | none => .no) H1 μ (fun _ o _ H' _ => dOut D o H') := g
      rw [ek] at g
      exact (show False from g).elim
    | some k =>
      have g : Fin X.K WF (RO X.K) (match scalEq v (.str x) with
        | some true => f sb ρ S
        | some false => pick f v ρ ss S
        | none => .no) H1 μ (fun _ o _ H' _ => dOut D o H') := g
      rw [ek] at g
      obtain ⟨c1, c2⟩ := scal_ok rv (.str x) ek
      refine thn (op_eq pins s1 σ H1 u (.str x) uv w (fun z H2 => z = .bl k ∧ H2 = H1) I1 ru r1 ⟨c1, by rw [c2], rfl⟩) fun c s2 ⟨z, H2, I2, r2, e1, e2⟩ => ?_
      subst e1 e2
      cases (show c = Value.bool k from r2)
      refine wpAny_truthy_bool ?_
      cases k with
      | true =>
        rw [if_pos rfl]
        exact PySem.wpAny_assignInOrder_none (hb.run pins s2 σ H2 D I2 ⟨μ, ρ, S, sr, er, g⟩)
      | false =>
        rw [if_neg Bool.false_ne_true]
        exact cases_run hu t pins s2 σ H2 D v u uv false μ ρ S I2 ru sr er rv g
theorem s_mat (hu : X.A.units + 65 < cLine) {e : Expr} {m : MV} {f : List Sm → PEnv → Store → Res Out} {cs : List MatchCase} {ss : List (Option PV × List Sm)} (he : PE X e (RT X.K WF m)) (hc : Cases X f cs ss) :
    PS X (.Match e cs pos) (RTS X.K fun ρ S => (m ρ S).bind fun v S1 => pick f v ρ ss S1) := by
  refine ⟨fun pins s σ H D I ⟨μ, ρ, S, sr, er, g⟩ => PySem.wpAny_Match ?_⟩
  refine thn (he.run pins s σ H (fun u H1 => ∃ (μ1 : Mu) (S1 : Store) (v : PV), SR X.K H1 μ1 S1 ∧ ER X.K H1 μ1 ρ σ ∧ Rep X.K H1 μ1 v u ∧ Fin X.K WF (RO X.K) (pick f v ρ ss S1) H1 μ1 fun _ o _ H' _ => dOut D o H') I
    (RX.part sr er g fun v u S1 H1 μ1 a1 sr1 er1 r1 g => ⟨μ1, S1, v, sr1, er1, r1, g⟩)) fun uv s1 ⟨u, H1, I1, ru, μ1, S1, v, sr1, er1, r1, g⟩ => ?_
  exact cases_run hu hc pins s1 σ H1 D v u uv true μ1 ρ S1 I1 ru sr1 er1 r1 g
end
end Pi
set_option maxRecDepth 100000
set_option maxHeartbeats 1000000
/-! Pi17: defs, calls of defs. -/
namespace Pi
open PySem L2 PySem.Spec PyProof.Rows

/-- a def that does what m says, with k calls' room below it -/
structure FnG (P : Program) (w : World) (K : PySem.W.Frag) (mg : Str → Option Value) (base : Heap) (k : Nat) (f : Addr) (fd : FuncData) (ps : List Str) (m : List PV → Store → Res PV) : Prop where
  run : ∀ (A : Around) (outer : List Env) (s : Shared) (H : Hp) (args : Args) (us : List Value) (vs : List V) (Q : VK), Room k A → A.guards = some [] → Env0 P w K mg base A outer s H → BindsTo s fd args (ps.zip us) → Vals vs us → vs.length = ps.length → rCP K WF m vs H Q →
    codeAny (model P w) A (.call (.ref f) args) (CR CX0 outer P w H s Q E0) s
theorem FnG.none {P : Program} {w : World} {K : PySem.W.Frag} {mg : Str → Option Value} {base : Heap} {k : Nat} {f : Addr} {fd : FuncData} {ps : List Str} {m : List PV → Store → Res PV} (h : ∀ vs S, m vs S = .no) : FnG P w K mg base k f fd ps m :=
  ⟨fun A outer s H args us vs Q _ _ _ _ _ _ ⟨μ, S, xs, _, _, g⟩ => by
    have g : Fin K WF (Rep K) (m xs S) H μ fun _ u _ H' _ => Q u H' := g
    rw [h] at g
    exact g.elim⟩
theorem rep_start {K : PySem.W.Frag} {H : Hp} {μ : Mu} {N : List Str} {vs : List PV} {us : List V} (r : RepAll K H μ vs us) : ER K H μ (vs.map some ++ List.replicate (N.length - vs.length) none) (L2.start N us) := by
  refine ⟨?_, fun i v h => ?_⟩
  · unfold L2.start
    rw [List.length_append, List.length_append, List.length_map, List.length_map, List.length_replicate, List.length_replicate, r.length]
  · have hi : i < vs.length := by
      by_cases hi : i < vs.length
      · exact hi
      · rw [List.getElem?_append_right (by simpa using hi), List.getElem?_replicate] at h
        split at h <;> cases h
    rw [List.getElem?_append_left (by simpa using hi), List.getElem?_map] at h
    cases e : vs[i]? with
    | none => rw [e] at h; cases h
    | some x =>
      rw [e] at h
      cases h
      obtain ⟨u, hu, ru⟩ := r.get e
      refine ⟨u, ?_, ru⟩
      unfold L2.start
      have hi2 : i < us.length := by rw [← r.length]; exact hi
      rw [List.getElem?_append_left (by simpa using hi2), List.getElem?_map, hu]
      rfl
/-- THE RULE of a def: its body's reading -/
theorem fnG_of {P : Program} {w : World} {K : PySem.W.Frag} {mg : Str → Option Value} {base : Heap} {k : Nat} {f : Addr} {x qual : Str} {params : Arguments} {body : List Stmt} {scope : Scope} {fd : FuncData} {N ps : List Str} {mb : PEnv → Store → Res Out}
    (F : FunD K x qual params body scope [] [] f fd) (S : FnScope N ps scope)
    (hbody : ∀ (cdv : Value) (A : Around) (outer : List Env) (s : Shared) (H : Hp), Room k (A.deeper (envOfC qual scope s.heap.objs.size f cdv)) → A.guards = some [] →
      PSs (cxOf CX0 P w K mg base N qual scope f cdv A outer s H E0).nox body (RTS K mb)) :
    FnG P w K mg base (k + 1) f fd ps (fun vs S => if Nat.beq vs.length ps.length then retOf (mb (vs.map some ++ List.replicate (N.length - vs.length) none) S) else .no) := by
  obtain ⟨oc, od, dV, kV, doc, pm, an, cdv, ct, osl, rfl, lk, hcd, _, _⟩ := F.ex
  constructor
  intro A outer s H args us vs Q hr hg e0 hb rv hl ⟨μ, S0, zs, sr, rz, g⟩
  have lz : zs.length = vs.length := rz.length
  have g : Fin K WF (Rep K) (retOf (mb (zs.map some ++ List.replicate (N.length - zs.length) none) S0)) H μ fun _ u _ H' _ => Q u H' := by
    have g : Fin K WF (Rep K) (if Nat.beq zs.length ps.length then retOf (mb (zs.map some ++ List.replicate (N.length - zs.length) none) S0) else .no) H μ fun _ u _ H' _ => Q u H' := g
    rw [if_pos (by rw [lz, hl]; exact Nat.beq_refl _)] at g
    exact g
  have inK : K.In s.heap := e0.mod.kin.keeps fun b o e => (e0.bs b o e).1
  have noL : s.heap.NoLimit := e0.mod.nolimit.keeps fun b o e => (e0.bs b o e).1
  have kinds : ∀ y ∈ ps.zip us, scope.names.lookup y.1 = some .local ∨ (scope.names.lookup y.1 = some .cell ∧ ((cellsFrom (s.heap.objs.size + 1) scope.names []).lookup y.1).isSome = true) := by
    rintro ⟨n, v⟩ hy
    exact (S.par n (List.of_mem_zip hy).1).imp id fun q => ⟨q, PySem.W.cellsFrom_some _ _ _ (.inl q)⟩
  refine codeAny_call_function hr.depth (inK _ _ lk) rfl S.co S.gen rfl (PySem.W.codeRec_of inK hcd) (hb _ _ _ _ (wpAny_newFunctionEnv_cells S.kind kinds fun env he s1 x => ?_))
  cases he
  refine ⟨noL.keeps x.toInCall.keep, codeAny_func ?_⟩
  have J : Inv (cxOf CX0 P w K mg base N qual scope f cdv A outer s H E0) [] (L2.start N vs) H s1 := inv_start S hr.hd e0 hl rv x
  have body := (hbody cdv A outer s H (hr.deeper _) hg).run [] s1 (L2.start N vs) H { nx := fun _ H' => Q .non H', rt := Q } (J.wish _) ⟨μ, _, S0, sr, rep_start rz, (Fin.seq (R := RO K) g).mono fun o u S1 H1 μ1 _ a1 s1' r1 g => by
      cases o <;> cases u <;> first | exact (show False from r1).elim | skip
      · exact Fin.ok (C := fun _ u _ H' _ => Q u H') g s1' .non
      · exact Fin.ok (C := fun _ u _ H' _ => Q u H') g s1' r1
      · exact (show False from g).elim
      · exact (show False from g).elim⟩
  refine wpAny_mono body (fun fl s' hs => ?_) fun _ _ z => False.elim z
  cases fl with
  | next =>
    obtain ⟨σ', H', I, q⟩ := hs
    have I := I.unwish
    exact ⟨V.non, H', I.os, I.bare, I.base, I.hok, rfl, q⟩
  | ret u =>
    obtain ⟨v, σ', H', I, r, q⟩ := hs
    have I := I.unwish
    exact ⟨v, H', I.os, I.bare, I.base, I.hok, r, q⟩
  | brk =>
    obtain ⟨_, _, _, q⟩ := hs
    exact False.elim q
  | cont =>
    obtain ⟨_, _, _, q⟩ := hs
    exact False.elim q
section
variable {X : Cx} {p pos : Pos} {es : List Expr} {ml : ML} {m : List PV → Store → Res PV} {k : Nat} {f : Addr} {fd : FuncData} {ps : List Str} {x : Str}
theorem runG {pins : List (Addr × Obj)} {σ : L2.St} {H : Hp} {s : Shared} {Q : VK} {us : List Value} {vs : List V} (F : FnG X.prog X.w X.K X.mg X.base k f fd ps m) (hr : Room k X.A) (hg : X.A.guards = some []) (hb : Binds X.K fd ps []) (I : Inv X pins σ H s) (r : Vals vs us) (hl : vs.length = ps.length) (h : rCP X.K WF m vs H Q) :
    wpAny (model X.prog X.w) X.A (PySem.call (.ref f) us) (EP X pins σ Q) X.xe s := by
  have hb := hb s us I.kIn (by rw [List.append_nil, ← r.length]; exact hl)
  rw [List.append_nil] at hb
  refine wpAny_call (codeAny_mono (F.run X.A X.stack s H ⟨us, []⟩ us vs Q hr hg I.env0 hb r hl h) fun q s' hq => ?_)
  match q, hq with
  | .ok (.ret u), hq => exact I.after hq
  | .ok .next, hq => exact False.elim hq
  | .ok .brk, hq => exact False.elim hq
  | .ok .cont, hq => exact False.elim hq
  | .error e, hq => exact False.elim hq
/-- f(..) -/
theorem e_call (hs : es.all noStar = true) (F : FnG X.prog X.w X.K X.mg X.base k f fd ps m) (hm1 : ∀ vs S, vs.length ≠ ps.length → m vs S = .no) (hr : Room k X.A) (hgd : X.A.guards = some []) (hb : Binds X.K fd ps []) (hg : Gl X x) (hm : X.mg x = some (.ref f)) (hk : PySem.W.keepIn X.K (.ref f) = true) (hdb : (x == ("__debug__" : Str)) = false) (ha : PA X es (RTL X.K WF ml)) :
    PE X (.Call (.Name x p) es [] pos) (RT X.K WF fun ρ S => (ml ρ S).bind fun vs S1 => m vs S1) := by
  refine ⟨fun pins s σ H Q I ⟨μ, ρ, S, sr, er, g⟩ => wpAny_Call_Name_kw (ld_glob I hg hm ?_ hdb)⟩
  have ha' := ha.run pos pins s σ H (fun us H1 => us.length = ps.length ∧ rCP X.K WF m us H1 Q) I (RX.part sr er g fun vs us S1 H1 μ1 a1 sr1 er1 r1 g => ⟨by
    by_cases e : vs.length = ps.length
    · rw [← r1.length]; exact e
    · rw [hm1 vs S1 e] at g; exact (show False from g).elim, μ1, S1, vs, sr1, r1, g⟩)
  cases es with
  | nil =>
    have h0 : wpAny (model X.prog X.w) X.A (pure ([] : List Value) >>= fun us => PySem.call (.ref f) us) (EP X pins σ Q) X.xe s :=
      wpAny_bind (thn ha' fun us s1 ⟨vs, H1, I1, r1, hl, q⟩ => runG F hr hgd hb I1 r1 hl q)
    rw [pure_bind] at h0
    exact PySem.W.callWith_K0 I.kIn hk h0
  | cons e es =>
    simp only [List.all_cons, Bool.and_eq_true] at hs
    exact PySem.W.callWith_K (h₀ := X.base) I.ok.mod.kin hk (thn ha' fun us s1 ⟨vs, H1, I1, r1, hl, q⟩ => ⟨I1.kIn, runG F hr hgd hb I1 r1 hl q⟩) (star_no hs.1) (star_any hs.2)
end
end Pi
set_option maxRecDepth 100000
set_option maxHeartbeats 1000000
/-! Pi18: from the model's syntax to the small language. -/
namespace Pi
open PySem L2

/-- what a law's module tells: its defs by number, names that are nowhere bound; the lists that are written to, by where they are displayed -/
structure Gt where
  fns : List (Str × Nat)
  free : List Str
  bx : Pos → Bool
/-- a block: the slots' names, the scope, the names whose cells are its own -/
structure Ct where
  N : List Str
  sc : Scope
  fn : Str → Bool

def eqN (x y : Str) : Bool := decide (x = y)
def slotOf (x : Str) : List Str → Option Nat
  | [] => none
  | y :: r => if eqN y x then some 0 else (slotOf x r).map (· + 1)
def isK (k : NameKind) (o : Option NameKind) : Bool := decide (o = some k)
def glB (C : Ct) (x : Str) : Bool := isK .globalImplicit (C.sc.names.lookup x)
def locB (C : Ct) (x : Str) : Bool := isK .local (C.sc.names.lookup x)
def visB (C : Ct) (x : Str) : Bool := isK .local (C.sc.names.lookup x) || isK .cell (C.sc.names.lookup x) || isK .free (C.sc.names.lookup x)
def okName (x : Str) : Bool := !eqN x "__debug__" && !eqN x "__classdict__" && !eqN x "__name__"
def fnOfN (x : Str) : List (Str × Nat) → Option Nat
  | [] => none
  | (y, i) :: r => if eqN y x then some i else fnOfN x r
def bltn (G : Gt) (C : Ct) (x : Str) : Bool := glB C x && (G.free.any fun y => eqN y x) && okName x
def bopT : Operator → Option Bop
  | .Add => some .add | .Sub => some .sub | .Mult => some .mul | .FloorDiv => some .fdiv | .Mod => some .mod | .Pow => some .pow
  | _ => none
def copT : CmpOp → Option Cop
  | .Eq => some .eq | .NotEq => some .ne | .Lt => some .lt | .LtE => some .le | .Gt => some .gt | .GtE => some .ge
  | .Is => some .isN | .IsNot => some .isnotN | .In => some .inn | .NotIn => some .notin
def isSlice : Expr → Bool
  | .Slice .. => true
  | _ => false
def isCall : Expr → Bool
  | .Call .. => true
  | _ => false
def isSet : Expr → Bool
  | .Set .. => true
  | _ => false
def isTupE : Expr → Bool
  | .Tuple .. => true
  | _ => false
def isListE : Expr → Bool
  | .List .. => true
  | _ => false
def isCompE : Expr → Bool
  | .ListComp .. => true | .SetComp .. => true | .DictComp .. => true
  | _ => false
def isNameE : Expr → Bool
  | .Name .. => true
  | _ => false
/-- a test by the value's truth -/
def byVal : Expr → Bool
  | .UnaryOp .Not _ _ => false | .BoolOp .. => false | .IfExp .. => false | .Compare .. => false
  | _ => true
/-- what stands where something is walked -/
def isW : E → Bool
  | .rng1 _ => true | .rng2 _ _ => true | .enum _ => true | .zip _ _ => true | .star _ => true
  | _ => false
/-- IR whose test is its value's truth -/
def valT : E → Bool
  | .nott _ => false | .andd _ _ => false | .orr _ _ => false | .ifx _ _ _ => false | .cmp _ _ _ => false | .chain _ _ _ _ _ => false
  | _ => true
def bt1 (x : Str) : Option Bt :=
  if eqN x "len" then some .len else if eqN x "sum" then some .sumOf else if eqN x "all" then some .allOf else if eqN x "any" then some .anyOf
  else if eqN x "min" then some .min2 else if eqN x "max" then some .max2 else if eqN x "repr" then some .repr else none
def bt2 (c : Bool) (x : Str) : Option Bt :=
  if eqN x "tuple" then some .tupleOf else if eqN x "list" then some (.listOf c) else if eqN x "int" then some .intOf else none
def clsN (x : Str) : Option String :=
  if eqN x "bool" then some "bool" else if eqN x "int" then some "int" else if eqN x "str" then some "str" else if eqN x "tuple" then some "tuple" else if eqN x "list" then some "list" else if eqN x "dict" then some "dict" else none
def clsT (G : Gt) (C : Ct) : Expr → Option String
  | .Name x _ => if bltn G C x then clsN x else none
  | _ => none
def keyT : Option Expr → Option Str
  | some (.Constant (.str k) _ _) => some k
  | _ => none
def noDupN : List Str → Bool
  | [] => true
  | x :: r => (r.all fun y => !eqN y x) && noDupN r
/-- a block's own names with their slots -/
def ownOf (N : List Str) : List (Str × NameKind) → List (Str × Nat)
  | [] => []
  | (x, k) :: r => match isK .local (some k) || isK .cell (some k), slotOf x N with
    | true, some i => (x, i) :: ownOf N r
    | _, _ => ownOf N r
def blkCt (C : Ct) (scope : Scope) : Ct := ⟨C.N, relS scope C.sc, fun x => isK .cell (scope.names.lookup x)⟩
/-! ### targets -/
mutual
def trP (C : Ct) : Nat → Expr → Option Pt
  | 0, _ => none
  | n + 1, .Name x _ => match slotOf x C.N with
    | some i => if locB C x || (isK .cell (C.sc.names.lookup x) && C.fn x) then some (.nm i) else none
    | none => none
  | n + 1, .Tuple es _ _ => trPs C n es
  | _, _ => none
/-- the items of a tuple, perhaps one with a star at its end -/
def trPs (C : Ct) : Nat → List Expr → Option Pt
  | 0, _ => none
  | n + 1, es => match mapO (trP C n) es with
    | some ps => if es.all noStar then some (.tup ps) else none
    | none => match es.reverse with
      | .Starred t _ :: rs => match mapO (trP C n) rs.reverse, trP C n t with
        | some ps, some (.nm r) => if rs.reverse.all noStar && noStar t then some (.star ps r) else none
        | _, _ => none
      | _ => none
end
/-! ### expressions -/
abbrev TrE := Ct → Expr → Option E
def args (f : TrE) (C : Ct) : List Expr → Option (List E)
  | [] => some []
  | .Starred e _ :: es => match f C e, args f C es with
    | some x, some xs => if noStar e then some (.star x :: xs) else none
    | _, _ => none
  | e :: es => match f C e, args f C es with
    | some x, some xs => some (x :: xs)
    | _, _ => none
def iterT (G : Gt) (f : TrE) (C : Ct) (tg it : Expr) : Option E :=
  match it with
  | .Call (.Name g _) [a] [] _ => if eqN g "range" && bltn G C g then (f C a).map .rng1 else f C it
  | .Call (.Name g _) [a, b] [] _ => if eqN g "range" && bltn G C g then (match f C a, f C b with
      | some x, some y => some (.rng2 x y)
      | _, _ => none) else if eqN g "zip" && bltn G C g && isTupE tg then (match f C a, f C b with
      | some x, some y => some (.zip x y)
      | _, _ => none) else f C it
  | it => if isSet it then none else f C it
def partT (f : TrE) (C : Ct) : Option Expr → Option (Option E)
  | none => some none
  | some e => (f C e).map some
def compT (G : Gt) (f : TrE) (C : Ct) (elt tg iter : Expr) (ifs : List Expr) (scope : Scope) (pos : Pos) : Option E :=
  let own := ownOf C.N scope.names
  let C2 := blkCt C scope
  if blkC C.N C.sc scope own && !isSet iter then
    match iterT G f C tg iter, trP C2 8 tg, f C2 elt with
    | some it, some t, some el => if (slots t).all fun i => (own.map (·.2)).any fun j => Nat.beq i j then
        match ifs with
        | [] => some (.comp (G.bx pos) (own.map (·.2)) t it none el)
        | [c] => (f C2 c).map fun c => .comp (G.bx pos) (own.map (·.2)) t it (some c) el
        | _ => none
      else none
    | _, _, _ => none
  else none
def callT (G : Gt) (f : TrE) (C : Ct) (x : Str) (as : List Expr) (pos : Pos) : Option E :=
  match glB C x && okName x, fnOfN x G.fns with
  | true, some i => if as.all noStar then (args f C as).map (.call i) else none
  | _, _ => if bltn G C x then
      match bt1 x, bt2 (G.bx pos) x with
      | some b, _ => if as.all noStar && !as.isEmpty then (args f C as).map (.blt b) else none
      | none, some b => if as.all noStar && !as.isEmpty then (args f C as).map (.blt b) else none
      | none, none => if eqN x "isinstance" then
          match as with
          | [a, .Tuple es _ _] => match f C a, mapO (clsT G C) es with
            | some v, some cs => if Nat.ble cs.length 100 then some (.isi v cs) else none
            | _, _ => none
          | [a, c] => match f C a, clsT G C c with
            | some v, some n => some (.isi v [n])
            | _, _ => none
          | _ => none
        else if eqN x "sorted" then
          match as with
          | [.Call (.Name y _) [a] [] _] => if eqN y "set" && bltn G C y then (f C a).map fun v => .blt .sortedSet [v] else none
          | _ => none
        else if eqN x "dict" then
          match as with
          | [.Call (.Name y _) [a, b] [] _] => if eqN y "zip" && bltn G C y then (match f C a, f C b with
              | some v, some w => some (.blt .dictZip [v, w])
              | _, _ => none) else none
          | _ => none
        else none
    else none
def trStep (G : Gt) (f : TrE) : TrE := fun C e => match e with
  | .Name x _ => match slotOf x C.N with
    | some i => if visB C x && okName x then some (.var i) else none
    | none => none
  | .Constant (.int i) _ _ => some (.con (.int i))
  | .Constant (.bool i) _ _ => some (.con (.bl i))
  | .Constant (.str i) _ _ => some (.con (.str i))
  | .Constant .none _ _ => some (.con .non)
  | .Tuple es _ _ => (args f C es).map .tup
  | .List es pos => (args f C es).map (.lst (G.bx pos))
  | .BinOp a op b _ => match bopT op, f C a, f C b with
    | some o, some x, some y => some (.bin o x y)
    | _, _, _ => none
  | .UnaryOp .USub a _ => (f C a).map .neg
  | .UnaryOp .Not a _ => (f C a).map .nott
  | .BoolOp op [a] _ => f C a
  | .BoolOp .And (a :: b :: r) pos => match f C a, f C (.BoolOp .And (b :: r) pos) with
    | some x, some y => some (.andd x y)
    | _, _ => none
  | .BoolOp .Or (a :: b :: r) pos => match f C a, f C (.BoolOp .Or (b :: r) pos) with
    | some x, some y => some (.orr x y)
    | _, _ => none
  | .Compare a [op] [b] _ => match copT op, f C a, f C b with
    | some o, some x, some y => if behindInMarks op b then none else some (.cmp o x y)
    | _, _, _ => none
  | .Compare a [op, op'] [b, c] _ => match copT op, copT op', f C a, f C b, f C c with
    | some o, some o', some x, some y, some z => if lastMarks [op, op'] [b, c] then none else some (.chain o o' x y z)
    | _, _, _, _, _ => none
  | .IfExp c a b _ => match f C c, f C a, f C b with
    | some z, some x, some y => some (.ifx z x y)
    | _, _, _ => none
  | .Subscript a (.Slice lo hi none _) _ => match f C a, partT f C lo, partT f C hi with
    | some x, some l, some h => some (.slc x l h)
    | _, _, _ => none
  | .Subscript a b _ => match f C a, f C b with
    | some x, some y => if isSlice b then none else some (.idx x y)
    | _, _ => none
  | .Call (.Name x _) as [] pos => callT G f C x as pos
  | .Call (.Attribute o name apos) [a] [] cpos => if !isCall o && decide (apos.endLine = cpos.line) && noStar a then
      match f C o, f C a with
      | some x, some y => if eqN name "append" then some (.meth .append x [y]) else if eqN name "index" then some (.meth .index x [y]) else none
      | _, _ => none
    else none
  | .ListComp elt [⟨tg, iter, ifs, .ofNat 0⟩] scope pos => compT G f C elt tg iter ifs scope pos
  | .Dict keys values _ => match mapO keyT keys, args f C values with
    | some ks, some xs => if values.all noStar && decide (ks.length = xs.length) && decide (ks.length = values.length) && !ks.isEmpty && Nat.ble ks.length 15 && noDupN ks && xs.all fun x => !isStar x then some (.dis ks xs) else none
    | _, _ => none
  | _ => none
def trE (G : Gt) (n : Nat) : TrE := Nat.rec (fun _ _ => none) (fun _ ih => trStep G ih) n
/-! ### statements -/
def parT (C : Ct) (ts vs : List Expr) : Option (List Nat) :=
  if (vs.all (foldedForSure 8)) || (vs.all (constantsAlone 8)) || !vs.all noStar || !decide (C.sc.kind = .function) then none
  else match ts, vs with
    | [.Name x px, .Name y py], [_, _] => match slotOf x C.N, slotOf y C.N with
      | some i, some j => if locB C x && locB C y && decide (py.line = px.line) && !Nat.beq i j then some [i, j] else none
      | _, _ => none
    | [.Name x px, .Name y py, .Name z pz], [_, _, _] => match slotOf x C.N, slotOf y C.N, slotOf z C.N with
      | some i, some j, some l => if locB C x && locB C y && locB C z && decide (py.line = px.line) && decide (pz.line = px.line) && !Nat.beq i j && !Nat.beq i l && !Nat.beq j l then some [i, j, l] else none
      | _, _, _ => none
    | _, _ => none
/-- a, b = e1, e2 that is an assignment of a tuple -/
def noSwap (ts vs : List Expr) : Bool := !(ts.length == 2 || ts.length == 3) || (vs.length != ts.length) || vs.all (foldedForSure 8)
/-- x = [..], by swapped stores (some true), plainly (some false) -/
def swC (C : Ct) (t : Str) (tp : Pos) (scope : Scope) (p : Pos) : Bool :=
  decide (C.sc.kind = .function) && locB C t && decide (tp.line = p.line) && !(scope.names.any fun (n, k) => n == t && (k == .local || k == .cell))
abbrev TrS := Ct → Stmt → Option Sm
def stmts (f : TrS) (C : Ct) : List Stmt → Option (List Sm)
  | [] => some []
  | s :: r => match f C s, stmts f C r with
    | some x, some xs => some (x :: xs)
    | _, _ => none
def casesT (f : TrS) (C : Ct) : List MatchCase → Option (List (Option PV × List Sm))
  | [] => some []
  | [⟨.MatchAs none none _, none, b⟩] => (stmts f C b).map fun x => [(none, x)]
  | ⟨.MatchValue (.Constant (.str x) _ _) _, none, b⟩ :: r => match stmts f C b, casesT f C r with
    | some sb, some ss => some ((some (.str x), sb) :: ss)
    | _, _ => none
  | _ => none
def setT (G : Gt) (n : Nat) (C : Ct) (tg e : Expr) : Option Sm :=
  match trP C 8 tg, trE G n C e with
  | some p, some x => if isStar x then none else some (.set p x)
  | _, _ => none
def asgT (G : Gt) (n : Nat) (C : Ct) (tg e : Expr) : Option Sm :=
  match tg, e with
  | .Tuple ts _ _, .Tuple vs _ _ => match parT C ts vs with
    | some is => match args (trE G n) C vs with
      | some xs => some (.par is xs)
      | none => none
    | none => if noSwap ts vs then setT G n C tg e else none
  | .Subscript o i _, e => if isSlice i || isCompE e then none else match trE G n C e, trE G n C o, trE G n C i with
    | some x, some a, some b => some (.sub a b x)
    | _, _, _ => none
  | tg, e => if isListE tg || (isCompE e && !isNameE tg) then none else setT G n C tg e
def trSt (G : Gt) (n : Nat) (f : TrS) : TrS := fun C s => match s with
  | .Expr (.Constant (.str _) _ _) _ => some .pas
  | .Expr e _ => if isCompE e then none else (trE G n C e).map .exp
  | .Assign [tg] e _ => asgT G n C tg e
  | .If c a b _ => match trE G n C c, stmts f C a, stmts f C b with
    | some x, some y, some z => some (.iff x y z)
    | _, _, _ => none
  | .While c b [] _ => match trE G n C c, stmts f C b with
    | some x, some y => some (.whl x y)
    | _, _ => none
  | .For tg it b [] _ => match iterT G (trE G n) C tg it, trP C 8 tg, stmts f C b with
    | some x, some p, some y => if isSet it then none else some (.forr p x y)
    | _, _, _ => none
  | .Return (some e) _ => (trE G n C e).map .ret
  | .Return none _ => some .retN
  | .Pass _ => some .pas
  | .Break _ => some .brk
  | .Continue _ => some .cnt
  | .Match e cs _ => match trE G n C e, casesT f C cs with
    | some x, some ss => some (.mat x ss)
    | _, _ => none
  | _ => none
def trS (G : Gt) (n m : Nat) : TrS := Nat.rec (fun _ _ => none) (fun _ ih => trSt G n ih) m
end Pi
set_option maxRecDepth 100000
set_option maxHeartbeats 2000000
/-! Pi19: dict(zip(a, b)), a and b lists or tuples. -/
namespace Pi
open PySem
/-- a kind of iterator: how it lies, what it walks, how it goes on, how it ends -/
structure Nx (prog : Program) (w : World) (IT : Heap → Addr → Addr → Nat → Prop) (SQ : Heap → Addr → Array Value → Prop) : Prop where
  item : ∀ {A : Around} {E : Value → Shared → Prop} {s : Shared} {it l : Addr} {i : Nat} {its : Array Value} {x : Value} {Q : Value → Shared → Prop}, IT s.heap it l i → SQ s.heap l its → its[i]? = some x →
    (∀ g, IT g it l (i + 1) → Heap.SameBut it s.heap g → Q x { s with heap := g }) → wpAny (model prog w) A (Builtin.SmallTypes.nextOf (.ref it)) Q E s
  stop : ∀ {A : Around} {E : Value → Shared → Prop} {s : Shared} {it l : Addr} {i : Nat} {its : Array Value} {Q : Value → Shared → Prop}, A.handled = none → IT s.heap it l i → SQ s.heap l its → its[i]? = none →
    (∀ g e, Heap.ExtBut it s.heap g → (∃ o, g.get? e = some o ∧ o.cls = .type "StopIteration") → E (.ref e) { s with heap := g }) → wpAny (model prog w) A (Builtin.SmallTypes.nextOf (.ref it)) Q E s
  itAt : ∀ {h g : Heap} {it l : Addr} {i : Nat}, IT h it l i → (∀ o, h.get? it = some o → g.get? it = some o) → IT g it l i
  sqAt : ∀ {h g : Heap} {l : Addr} {its : Array Value}, SQ h l its → (∀ o, h.get? l = some o → g.get? l = some o) → SQ g l its
  itO : ∀ {h : Heap} {it l : Addr} {i : Nat}, IT h it l i → ∃ o, h.get? it = some o
  sqO : ∀ {h : Heap} {l : Addr} {its : Array Value}, SQ h l its → ∃ o, h.get? l = some o
theorem nxL {prog : Program} {w : World} : Nx prog w (fun h it l i => h.IsListIter it l i) (fun h l its => h.IsList l its) where
  item := fun h1 h2 h3 h4 => wpAny_nextOf_list_item h1 h2 h3 h4
  stop := fun hh h1 h2 h3 h4 => wpAny_nextOf_list_end hh h1 h2 h3 h4
  itAt := fun h e => h.at e
  sqAt := fun h e => h.at e
  itO := fun ⟨o, e, _⟩ => ⟨o, e⟩
  sqO := fun ⟨o, e, _⟩ => ⟨o, e⟩
theorem nxT {prog : Program} {w : World} : Nx prog w (fun h it l i => h.IsTupleIter it l i) (fun h l its => h.IsTuple l its) where
  item := fun h1 h2 h3 h4 => RZ.nextOf_tuple_item h1 h2 h3 h4
  stop := fun hh h1 h2 h3 h4 => RZ.nextOf_tuple_end hh h1 h2 h3 h4
  itAt := fun h e => h.at e
  sqAt := fun h e => h.at e
  itO := fun ⟨o, e, _⟩ => ⟨o, e⟩
  sqO := fun ⟨o, e, _⟩ => ⟨o, e⟩
section
variable {prog : Program} {w : World} {A : Around} {E : Value → Shared → Prop} {s : Shared} {I1 I2 : Heap → Addr → Addr → Nat → Prop} {S1 S2 : Heap → Addr → Array Value → Prop}
variable {zz TI TO i1 i2 l1 l2 : Addr} {k1 k2 : Nat} {xs ys : Array Value} {x y a b : Value}
/-- next(zip), the first -/
theorem zm_item (N1 : Nx prog w I1 S1) (N2 : Nx prog w I2 S2) {Q : Value → Shared → Prop} (D : ZipApart zz TI TO i1 i2 l1 l2)
    (hz : IsZip s.heap zz TI TO .none) (hTI : IsPair s.heap TI (.ref i1) (.ref i2)) (hTO : IsPair s.heap TO a b) (h1 : I1 s.heap i1 l1 k1) (h2 : I2 s.heap i2 l2 k2) (hl1 : S1 s.heap l1 xs) (hl2 : S2 s.heap l2 ys) (hx : xs[k1]? = some x) (hy : ys[k2]? = some y)
    (hQ : ∀ g, IsZip g zz TI TO (rawInt s.heap.objs.size) → I1 g i1 l1 (k1 + 1) → I2 g i2 l2 (k2 + 1) → IsPair g s.heap.objs.size x y → (∀ c o, c ≠ zz → c ≠ TO → c ≠ i1 → c ≠ i2 → s.heap.get? c = some o → g.get? c = some o) → Q (.ref s.heap.objs.size) { s with heap := g }) :
    wpAny (model prog w) A (Builtin.«zip.__next__» ⟨[.ref zz], []⟩) (fun fin s' => ∃ v, fin = .done (.ret v) ∧ Q v s') E s := by
  show wpAny _ _ (field (.ref zz) 2 >>= _) _ _ _
  refine wpAny_bind (wpAny_field hz rfl (x := .bool false) rfl ?_)
  show wpAny _ _ (field (.ref zz) 3 >>= _) _ _ _
  refine wpAny_bind (wpAny_field hz rfl (x := .ref TI) rfl (wpAny_bind (wpAny_seqItems hTI rfl ?_)))
  show wpAny _ _ (Builtin.SmallTypes.ownedTupleIsFree (.ref zz) >>= _) _ _ _
  refine wpAny_bind ?_
  unfold Builtin.SmallTypes.ownedTupleIsFree
  refine wpAny_bind (wpAny_field hz rfl (x := .none) rfl (wpAny_pure ?_))
  simp only [if_true]
  refine wpAny_bind (wpAny_rule (wpAny_bind (wpAny_field hz rfl (x := .ref TO) rfl (wpAny_bind (wpAny_setField_rec hz (by simp) fun g1 z1 b1 => ?_)))))
  replace z1 : IsZip g1 zz TI TO .ellipsis := z1
  refine wpAny_bind ?_
  simp only [List.zipIdx_cons, List.zipIdx_nil, List.forIn_cons, List.forIn_nil]
  refine wpAny_bind (wpAny_bind (wpAny_onRaise ?_))
  show wpAny _ _ (Builtin.SmallTypes.nextOf (.ref i1) >>= _) _ _ _
  refine wpAny_bind (N1.item (s := { s with heap := g1 }) (N1.itAt h1 fun o e => b1.extBut _ o D.i1z e) (N1.sqAt hl1 fun o e => b1.extBut _ o D.l1z e) hx fun g2 j1 b2 => wpAny_pure ?_)
  have p2 : IsPair g2 TO a b := b2.extBut _ _ D.TOi1 (b1.extBut _ _ D.TOz hTO)
  refine wpAny_bind (wpAny_seqItems p2 rfl (wpAny_bind (wpAny_updateSeq_pair p2 fun g3 p3 b3 => ?_)))
  replace p3 : IsPair g3 TO x b := p3
  refine wpAny_bind (wpAny_letGo (wpAny_pure (wpAny_bind (wpAny_bind (wpAny_onRaise ?_)))))
  show wpAny _ _ (Builtin.SmallTypes.nextOf (.ref i2) >>= _) _ _ _
  have up3 : ∀ c o, c ≠ zz → c ≠ TO → c ≠ i1 → s.heap.get? c = some o → g3.get? c = some o := fun c o c1 c2 c3 e => b3.extBut _ _ c2 (b2.extBut _ _ c3 (b1.extBut _ _ c1 e))
  refine wpAny_bind (N2.item (s := { s with heap := g3 }) (N2.itAt h2 fun o e => up3 _ o D.i2z D.TOi2.symm D.i12.symm e) (N2.sqAt hl2 fun o e => up3 _ o D.l2z D.l2TO D.l2i1 e) hy fun g4 j2 b4 => wpAny_pure ?_)
  have p4 : IsPair g4 TO x b := b4.extBut _ _ D.TOi2 p3
  refine wpAny_bind (wpAny_seqItems p4 rfl (wpAny_bind (wpAny_updateSeq_pair p4 fun g5 p5 b5 => ?_)))
  replace p5 : IsPair g5 TO x y := p5
  refine wpAny_bind (wpAny_letGo (wpAny_pure (wpAny_pure (wpAny_bind (wpAny_seqItems p5 rfl (wpAny_bind (wpAny_newTuple ?_)))))))
  have sz5 : g5.objs.size = s.heap.objs.size := by rw [b5.1, b4.1, b3.1, b2.1, b1.1]
  have z5 : IsZip g5 zz TI TO .ellipsis := b5.extBut _ _ D.TOz.symm (b4.extBut _ _ D.i2z.symm (b3.extBut _ _ D.TOz.symm (b2.extBut _ _ D.i1z.symm z1)))
  have up5 : ∀ c o, c ≠ zz → c ≠ TO → c ≠ i1 → c ≠ i2 → s.heap.get? c = some o → g5.get? c = some o := fun c o c1 c2 c3 c4 e => b5.extBut _ _ c2 (b4.extBut _ _ c4 (up3 c o c1 c2 c3 e))
  have j15 : I1 g5 i1 l1 (k1 + 1) := N1.itAt j1 fun o e => b5.extBut _ _ D.TOi1.symm (b4.extBut _ _ D.i12 (b3.extBut _ _ D.TOi1.symm e))
  have j25 : I2 g5 i2 l2 (k2 + 1) := N2.itAt j2 fun o e => b5.extBut _ _ D.TOi2.symm e
  have zlt : zz < g5.objs.size := Heap.lt_size z5
  show wpAny _ _ (Builtin.SmallTypes.ownedTupleHandOut (.ref zz) (.ref g5.objs.size) >>= _) _ _ _
  refine wpAny_bind ?_
  unfold Builtin.SmallTypes.ownedTupleHandOut
  have z6 : IsZip (g5.push { cls := .type "tuple", data := .seq #[x, y] }) zz TI TO .ellipsis := Heap.get?_push_of_some _ z5
  refine wpAny_bind (wpAny_setField_rec z6 (by simp) fun g7 z7 b7 => ?_)
  replace z7 : IsZip g7 zz TI TO (rawInt g5.objs.size) := z7
  refine wpAny_setField_rec z7 (by simp) fun g8 z8 b8 => ?_
  replace z8 : IsZip g8 zz TI TO (rawInt g5.objs.size) := z8
  have up8 : ∀ c o, c ≠ zz → g5.get? c = some o → g8.get? c = some o := fun c o c1 e => b8.extBut _ _ c1 (b7.extBut _ _ c1 (Heap.get?_push_of_some _ e))
  have T8 : IsPair g8 g5.objs.size x y := b8.extBut _ _ (Nat.ne_of_gt zlt) (b7.extBut _ _ (Nat.ne_of_gt zlt) (Heap.get?_push_size _ rfl))
  rw [sz5] at z8 T8
  refine wpAny_pure ⟨_, rfl, ?_⟩
  show Q (.ref g5.objs.size) _
  rw [sz5]
  exact hQ g8 z8 (N1.itAt j15 fun o e => up8 _ o D.i1z e) (N2.itAt j25 fun o e => up8 _ o D.i2z e) T8 fun c o c1 c2 c3 c4 e => up8 c o c1 (up5 c o c1 c2 c3 c4 e)
/-- its end -/
theorem zm_end (N1 : Nx prog w I1 S1) (N2 : Nx prog w I2 S2) {Q : PySem.Fin → Shared → Prop} (hh : A.handled = none) (D : ZipApart zz TI TO i1 i2 l1 l2)
    (hz : IsZip s.heap zz TI TO .none) (hTI : IsPair s.heap TI (.ref i1) (.ref i2)) (hTO : IsPair s.heap TO a b) (h1 : I1 s.heap i1 l1 k1) (h2 : I2 s.heap i2 l2 k2) (hl1 : S1 s.heap l1 xs) (hl2 : S2 s.heap l2 ys) (hend : xs[k1]? = none ∨ ys[k2]? = none)
    (hE : ∀ g e, (∀ c o, c ≠ zz → c ≠ TO → c ≠ i1 → c ≠ i2 → s.heap.get? c = some o → g.get? c = some o) → (∃ o, g.get? e = some o ∧ o.cls = .type "StopIteration") → E (.ref e) { s with heap := g }) :
    wpAny (model prog w) A (Builtin.«zip.__next__» ⟨[.ref zz], []⟩) Q E s := by
  show wpAny _ _ (field (.ref zz) 2 >>= _) _ _ _
  refine wpAny_bind (wpAny_field hz rfl (x := .bool false) rfl ?_)
  show wpAny _ _ (field (.ref zz) 3 >>= _) _ _ _
  refine wpAny_bind (wpAny_field hz rfl (x := .ref TI) rfl (wpAny_bind (wpAny_seqItems hTI rfl ?_)))
  show wpAny _ _ (Builtin.SmallTypes.ownedTupleIsFree (.ref zz) >>= _) _ _ _
  refine wpAny_bind ?_
  unfold Builtin.SmallTypes.ownedTupleIsFree
  refine wpAny_bind (wpAny_field hz rfl (x := .none) rfl (wpAny_pure ?_))
  simp only [if_true]
  refine wpAny_bind (wpAny_rule (wpAny_bind (wpAny_field hz rfl (x := .ref TO) rfl (wpAny_bind (wpAny_setField_rec hz (by simp) fun g1 z1 b1 => ?_)))))
  replace z1 : IsZip g1 zz TI TO .ellipsis := z1
  refine wpAny_bind ?_
  simp only [List.zipIdx_cons, List.zipIdx_nil, List.forIn_cons, List.forIn_nil]
  refine wpAny_bind (wpAny_bind (wpAny_onRaise ?_))
  show wpAny _ _ (Builtin.SmallTypes.nextOf (.ref i1) >>= _) _ _ _
  have q1 : I1 g1 i1 l1 k1 := N1.itAt h1 fun o e => b1.extBut _ o D.i1z e
  have r1 : S1 g1 l1 xs := N1.sqAt hl1 fun o e => b1.extBut _ o D.l1z e
  cases hx : xs[k1]? with
  | none =>
    refine wpAny_bind (N1.stop (s := { s with heap := g1 }) hh q1 r1 hx fun g2 e b2 he => ?_)
    obtain ⟨oe, hoe, hce⟩ := he
    have z2 : IsZip g2 zz TI TO .ellipsis := b2 _ _ D.i1z.symm z1
    have ne : e ≠ zz := fun q => by subst q; rw [z2] at hoe; cases hoe; simp at hce
    exact wpAny_setField_rec z2 (by simp) fun g3 _ b3 => hE g3 e (fun c o c1 _ c3 _ q => b3.extBut _ _ c1 (b2 _ _ c3 (b1.extBut _ _ c1 q))) ⟨oe, b3.extBut _ _ ne hoe, hce⟩
  | some x =>
    have hy : ys[k2]? = none := hend.resolve_left fun z => by rw [hx] at z; cases z
    refine wpAny_bind (N1.item (s := { s with heap := g1 }) q1 r1 hx fun g2 j1 b2 => wpAny_pure ?_)
    have p2 : IsPair g2 TO a b := b2.extBut _ _ D.TOi1 (b1.extBut _ _ D.TOz hTO)
    refine wpAny_bind (wpAny_seqItems p2 rfl (wpAny_bind (wpAny_updateSeq_pair p2 fun g3 p3 b3 => ?_)))
    refine wpAny_bind (wpAny_letGo (wpAny_pure (wpAny_bind (wpAny_bind (wpAny_onRaise ?_)))))
    show wpAny _ _ (Builtin.SmallTypes.nextOf (.ref i2) >>= _) _ _ _
    have up3 : ∀ c o, c ≠ zz → c ≠ TO → c ≠ i1 → s.heap.get? c = some o → g3.get? c = some o := fun c o c1 c2 c3 e => b3.extBut _ _ c2 (b2.extBut _ _ c3 (b1.extBut _ _ c1 e))
    refine wpAny_bind (N2.stop (s := { s with heap := g3 }) hh (N2.itAt h2 fun o e => up3 _ o D.i2z D.TOi2.symm D.i12.symm e) (N2.sqAt hl2 fun o e => up3 _ o D.l2z D.l2TO D.l2i1 e) hy fun g4 e b4 he => ?_)
    obtain ⟨oe, hoe, hce⟩ := he
    have z4 : IsZip g4 zz TI TO .ellipsis := b4 _ _ D.i2z.symm (b3.extBut _ _ D.TOz.symm (b2.extBut _ _ D.i1z.symm z1))
    have ne : e ≠ zz := fun q => by subst q; rw [z4] at hoe; cases hoe; simp at hce
    exact wpAny_setField_rec z4 (by simp) fun g5 _ b5 => hE g5 e (fun c o c1 c2 c3 c4 q => b5.extBut _ _ c1 (b4 _ _ c4 (up3 c o c1 c2 c3 q))) ⟨oe, b5.extBut _ _ ne hoe, hce⟩
/-- the same while the tuple given out before is still there -/
theorem zm_itemH (N1 : Nx prog w I1 S1) (N2 : Nx prog w I2 S2) {T : Addr} {f : Bool} {oT : Obj} {Q : Value → Shared → Prop} (D : ZipApart zz TI TO i1 i2 l1 l2)
    (hz : IsZipHeld s.heap zz TI TO T f) (hT : s.heap.get? T = some oT) (hTI : IsPair s.heap TI (.ref i1) (.ref i2)) (h1 : I1 s.heap i1 l1 k1) (h2 : I2 s.heap i2 l2 k2) (hl1 : S1 s.heap l1 xs) (hl2 : S2 s.heap l2 ys) (hx : xs[k1]? = some x) (hy : ys[k2]? = some y)
    (hQ : ∀ g, IsZipHeld g zz TI TO T true → I1 g i1 l1 (k1 + 1) → I2 g i2 l2 (k2 + 1) → IsPair g s.heap.objs.size x y → (∀ c o, c ≠ zz → c ≠ i1 → c ≠ i2 → s.heap.get? c = some o → g.get? c = some o) → Q (.ref s.heap.objs.size) { s with heap := g }) :
    wpAny (model prog w) A (Builtin.«zip.__next__» ⟨[.ref zz], []⟩) (fun fin s' => ∃ v, fin = .done (.ret v) ∧ Q v s') E s := by
  show wpAny _ _ (field (.ref zz) 2 >>= _) _ _ _
  refine wpAny_bind (wpAny_field hz rfl (x := .bool false) rfl ?_)
  show wpAny _ _ (field (.ref zz) 3 >>= _) _ _ _
  refine wpAny_bind (wpAny_field hz rfl (x := .ref TI) rfl (wpAny_bind (wpAny_seqItems hTI rfl ?_)))
  show wpAny _ _ (Builtin.SmallTypes.ownedTupleIsFree (.ref zz) >>= _) _ _ _
  refine wpAny_bind (wpAny_tupleHeld_zip hz hT fun g1 z1 b1 => ?_)
  simp only [Bool.false_eq_true, if_false]
  refine wpAny_bind ?_
  rw [← Array.forIn_toList]
  simp only [List.forIn_cons, List.forIn_nil]
  refine wpAny_bind (wpAny_bind (wpAny_holding ?_))
  show wpAny _ _ (Builtin.SmallTypes.nextOf (.ref i1) >>= _) _ _ _
  refine wpAny_bind (N1.item (s := { s with heap := g1 }) (N1.itAt h1 fun o e => b1.extBut _ o D.i1z e) (N1.sqAt hl1 fun o e => b1.extBut _ o D.l1z e) hx fun g2 j1 b2 => wpAny_pure (wpAny_pure ?_))
  refine wpAny_bind (wpAny_bind (wpAny_holding ?_))
  show wpAny _ _ (Builtin.SmallTypes.nextOf (.ref i2) >>= _) _ _ _
  have up2 : ∀ c o, c ≠ zz → c ≠ i1 → s.heap.get? c = some o → g2.get? c = some o := fun c o c1 c3 e => b2.extBut _ _ c3 (b1.extBut _ _ c1 e)
  refine wpAny_bind (N2.item (s := { s with heap := g2 }) (N2.itAt h2 fun o e => up2 _ o D.i2z D.i12.symm e) (N2.sqAt hl2 fun o e => up2 _ o D.l2z D.l2i1 e) hy fun g3 j2 b3 => wpAny_pure (wpAny_pure (wpAny_pure ?_)))
  show wpAny _ _ (newTuple [x, y] >>= _) _ _ _
  refine wpAny_bind (wpAny_newTuple ?_)
  have sz3 : g3.objs.size = s.heap.objs.size := by rw [b3.1, b2.1, b1.1]
  have z3 : IsZipHeld g3 zz TI TO T true := b3.extBut _ _ D.i2z.symm (b2.extBut _ _ D.i1z.symm z1)
  have j13 : I1 g3 i1 l1 (k1 + 1) := N1.itAt j1 fun o e => b3.extBut _ _ D.i12 e
  refine wpAny_pure ⟨_, rfl, ?_⟩
  show Q (.ref g3.objs.size) _
  have hp : IsPair (g3.push { cls := .type "tuple", data := .seq #[x, y] }) g3.objs.size x y := Heap.get?_push_size _ rfl
  rw [sz3] at hp ⊢
  exact hQ _ (Heap.get?_push_of_some _ z3) (N1.itAt j13 fun o e => Heap.get?_push_of_some _ e) (N2.itAt j2 fun o e => Heap.get?_push_of_some _ e) hp fun c o c1 c3 c4 e => Heap.get?_push_of_some _ (b3.extBut _ _ c4 (up2 c o c1 c3 e))
theorem zm_endH (N1 : Nx prog w I1 S1) (N2 : Nx prog w I2 S2) {T : Addr} {f : Bool} {oT : Obj} {Q : PySem.Fin → Shared → Prop} (hh : A.handled = none) (D : ZipApart zz TI TO i1 i2 l1 l2)
    (hz : IsZipHeld s.heap zz TI TO T f) (hT : s.heap.get? T = some oT) (hTI : IsPair s.heap TI (.ref i1) (.ref i2)) (h1 : I1 s.heap i1 l1 k1) (h2 : I2 s.heap i2 l2 k2) (hl1 : S1 s.heap l1 xs) (hl2 : S2 s.heap l2 ys) (hend : xs[k1]? = none ∨ ys[k2]? = none)
    (hE : ∀ g e, (∀ c o, c ≠ zz → c ≠ i1 → c ≠ i2 → s.heap.get? c = some o → g.get? c = some o) → (∃ o, g.get? e = some o ∧ o.cls = .type "StopIteration") → E (.ref e) { s with heap := g }) :
    wpAny (model prog w) A (Builtin.«zip.__next__» ⟨[.ref zz], []⟩) Q E s := by
  show wpAny _ _ (field (.ref zz) 2 >>= _) _ _ _
  refine wpAny_bind (wpAny_field hz rfl (x := .bool false) rfl ?_)
  show wpAny _ _ (field (.ref zz) 3 >>= _) _ _ _
  refine wpAny_bind (wpAny_field hz rfl (x := .ref TI) rfl (wpAny_bind (wpAny_seqItems hTI rfl ?_)))
  show wpAny _ _ (Builtin.SmallTypes.ownedTupleIsFree (.ref zz) >>= _) _ _ _
  refine wpAny_bind (wpAny_tupleHeld_zip hz hT fun g1 z1 b1 => ?_)
  simp only [Bool.false_eq_true, if_false]
  refine wpAny_bind ?_
  rw [← Array.forIn_toList]
  simp only [List.forIn_cons, List.forIn_nil]
  refine wpAny_bind (wpAny_bind (wpAny_holding ?_))
  show wpAny _ _ (Builtin.SmallTypes.nextOf (.ref i1) >>= _) _ _ _
  have q1 : I1 g1 i1 l1 k1 := N1.itAt h1 fun o e => b1.extBut _ o D.i1z e
  have r1 : S1 g1 l1 xs := N1.sqAt hl1 fun o e => b1.extBut _ o D.l1z e
  cases hx : xs[k1]? with
  | none => exact wpAny_bind (N1.stop (s := { s with heap := g1 }) hh q1 r1 hx fun g2 e b2 he => hE g2 e (fun c o c1 c2 _ q => b2 _ _ c2 (b1.extBut _ _ c1 q)) he)
  | some x =>
    have hy : ys[k2]? = none := hend.resolve_left fun z => by rw [hx] at z; cases z
    refine wpAny_bind (N1.item (s := { s with heap := g1 }) q1 r1 hx fun g2 j1 b2 => wpAny_pure (wpAny_pure ?_))
    refine wpAny_bind (wpAny_bind (wpAny_holding ?_))
    show wpAny _ _ (Builtin.SmallTypes.nextOf (.ref i2) >>= _) _ _ _
    have up2 : ∀ c o, c ≠ zz → c ≠ i1 → s.heap.get? c = some o → g2.get? c = some o := fun c o c1 c3 e => b2.extBut _ _ c3 (b1.extBut _ _ c1 e)
    exact wpAny_bind (N2.stop (s := { s with heap := g2 }) hh (N2.itAt h2 fun o e => up2 _ o D.i2z D.i12.symm e) (N2.sqAt hl2 fun o e => up2 _ o D.l2z D.l2i1 e) hy fun g3 e b3 he => hE g3 e (fun c o c1 c2 c3 q => b3 _ _ c3 (up2 c o c1 c2 q)) he)
end
end Pi
set_option maxRecDepth 100000
set_option maxHeartbeats 2000000
/-! Pi19b: dict(zip(a, b)), a a list, b a tuple. -/
namespace Pi
open PySem
section
variable {prog : Program} {w : World} {A : Around} {E : Value → Shared → Prop} {s : Shared} {I1 I2 : Heap → Addr → Addr → Nat → Prop} {S1 S2 : Heap → Addr → Array Value → Prop}
variable {zz TI TO i1 i2 l1 l2 : Addr} {k1 k2 : Nat} {xs ys : Array Value} {x y a b : Value}
theorem pn_item (N1 : Nx prog w I1 S1) (N2 : Nx prog w I2 S2) {Q : Option Value → Shared → Prop} (D : ZipApart zz TI TO i1 i2 l1 l2)
    (hz : IsZip s.heap zz TI TO .none) (hTI : IsPair s.heap TI (.ref i1) (.ref i2)) (hTO : IsPair s.heap TO a b) (h1 : I1 s.heap i1 l1 k1) (h2 : I2 s.heap i2 l2 k2) (hl1 : S1 s.heap l1 xs) (hl2 : S2 s.heap l2 ys) (hx : xs[k1]? = some x) (hy : ys[k2]? = some y)
    (hQ : ∀ g, IsZip g zz TI TO (rawInt s.heap.objs.size) → I1 g i1 l1 (k1 + 1) → I2 g i2 l2 (k2 + 1) → IsPair g s.heap.objs.size x y → (∀ c o, c ≠ zz → c ≠ TO → c ≠ i1 → c ≠ i2 → s.heap.get? c = some o → g.get? c = some o) → Q (some (.ref s.heap.objs.size)) { s with heap := g }) :
    wpAny (model prog w) A (pyNext (.ref zz)) Q E s := by
  have hT : s.TypeIs (.ref zz) "zip" := ⟨_, hz, rfl⟩
  unfold pyNext
  exact wpAny_bind (wpAny_attempt (wpAny_callSpecial?_slot (name := Str.ofString "__next__") hT F.slot_zip_next (wpAny_call_entry F.slot_zip_next hT F.entry_zip_next
    (zm_item N1 N2 D hz hTI hTO h1 h2 hl1 hl2 hx hy fun g a1 a3 a4 a5 a6 => wpAny_pure (hQ g a1 a3 a4 a5 a6)) (F.args_zip_next_1 _))))
theorem pn_itemH (N1 : Nx prog w I1 S1) (N2 : Nx prog w I2 S2) {T : Addr} {f : Bool} {oT : Obj} {Q : Option Value → Shared → Prop} (D : ZipApart zz TI TO i1 i2 l1 l2)
    (hz : IsZipHeld s.heap zz TI TO T f) (hT : s.heap.get? T = some oT) (hTI : IsPair s.heap TI (.ref i1) (.ref i2)) (h1 : I1 s.heap i1 l1 k1) (h2 : I2 s.heap i2 l2 k2) (hl1 : S1 s.heap l1 xs) (hl2 : S2 s.heap l2 ys) (hx : xs[k1]? = some x) (hy : ys[k2]? = some y)
    (hQ : ∀ g, IsZipHeld g zz TI TO T true → I1 g i1 l1 (k1 + 1) → I2 g i2 l2 (k2 + 1) → IsPair g s.heap.objs.size x y → (∀ c o, c ≠ zz → c ≠ i1 → c ≠ i2 → s.heap.get? c = some o → g.get? c = some o) → Q (some (.ref s.heap.objs.size)) { s with heap := g }) :
    wpAny (model prog w) A (pyNext (.ref zz)) Q E s := by
  have hy' : s.TypeIs (.ref zz) "zip" := ⟨_, hz, rfl⟩
  unfold pyNext
  exact wpAny_bind (wpAny_attempt (wpAny_callSpecial?_slot (name := Str.ofString "__next__") hy' F.slot_zip_next (wpAny_call_entry F.slot_zip_next hy' F.entry_zip_next
    (zm_itemH N1 N2 D hz hT hTI h1 h2 hl1 hl2 hx hy fun g a1 a3 a4 a5 a6 => wpAny_pure (hQ g a1 a3 a4 a5 a6)) (F.args_zip_next_1 _))))
theorem pn_end (N1 : Nx prog w I1 S1) (N2 : Nx prog w I2 S2) {Q : Option Value → Shared → Prop} (hh : A.handled = none) (D : ZipApart zz TI TO i1 i2 l1 l2)
    (hz : IsZip s.heap zz TI TO .none) (hTI : IsPair s.heap TI (.ref i1) (.ref i2)) (hTO : IsPair s.heap TO a b) (h1 : I1 s.heap i1 l1 k1) (h2 : I2 s.heap i2 l2 k2) (hl1 : S1 s.heap l1 xs) (hl2 : S2 s.heap l2 ys) (hend : xs[k1]? = none ∨ ys[k2]? = none)
    (hQ : ∀ g, (∀ c o, c ≠ zz → c ≠ TO → c ≠ i1 → c ≠ i2 → s.heap.get? c = some o → g.get? c = some o) → Q none { s with heap := g }) : wpAny (model prog w) A (pyNext (.ref zz)) Q E s := by
  have hT : s.TypeIs (.ref zz) "zip" := ⟨_, hz, rfl⟩
  unfold pyNext
  refine wpAny_bind (wpAny_attempt (wpAny_callSpecial?_slot (name := Str.ofString "__next__") hT F.slot_zip_next (wpAny_call_entry F.slot_zip_next hT F.entry_zip_next
    (zm_end N1 N2 hh D hz hTI hTO h1 h2 hl1 hl2 hend fun g e hk ⟨o, ho, hc⟩ => ?_) (F.args_zip_next_1 _))))
  exact wpAny_bind (wpAny_isInstance (T := "StopIteration") (b := true) ⟨o, ho, hc⟩ isSubtype_stop (wpAny_pure (hQ _ hk)))
theorem pn_endH (N1 : Nx prog w I1 S1) (N2 : Nx prog w I2 S2) {T : Addr} {f : Bool} {oT : Obj} {Q : Option Value → Shared → Prop} (hh : A.handled = none) (D : ZipApart zz TI TO i1 i2 l1 l2)
    (hz : IsZipHeld s.heap zz TI TO T f) (hT : s.heap.get? T = some oT) (hTI : IsPair s.heap TI (.ref i1) (.ref i2)) (h1 : I1 s.heap i1 l1 k1) (h2 : I2 s.heap i2 l2 k2) (hl1 : S1 s.heap l1 xs) (hl2 : S2 s.heap l2 ys) (hend : xs[k1]? = none ∨ ys[k2]? = none)
    (hQ : ∀ g, (∀ c o, c ≠ zz → c ≠ i1 → c ≠ i2 → s.heap.get? c = some o → g.get? c = some o) → Q none { s with heap := g }) : wpAny (model prog w) A (pyNext (.ref zz)) Q E s := by
  have hy' : s.TypeIs (.ref zz) "zip" := ⟨_, hz, rfl⟩
  unfold pyNext
  refine wpAny_bind (wpAny_attempt (wpAny_callSpecial?_slot (name := Str.ofString "__next__") hy' F.slot_zip_next (wpAny_call_entry F.slot_zip_next hy' F.entry_zip_next
    (zm_endH N1 N2 hh D hz hT hTI h1 h2 hl1 hl2 hend fun g e hk ⟨o, ho, hc⟩ => ?_) (F.args_zip_next_1 _))))
  exact wpAny_bind (wpAny_isInstance (T := "StopIteration") (b := true) ⟨o, ho, hc⟩ isSubtype_stop (wpAny_pure (hQ _ hk)))
end
section
variable {prog : Program} {w : World} {I1 I2 : Heap → Addr → Addr → Nat → Prop} {S1 S2 : Heap → Addr → Array Value → Prop}
theorem pairZ (N1 : Nx prog w I1 S1) (N2 : Nx prog w I2 S2) (zz TI TO i1 i2 l1 l2 : Addr) (D : ZipApart zz TI TO i1 i2 l1 l2) (xs ys : Array Value) :
    PairArg prog w "zip" zz [zz, TI, TO, i1, i2, l1, l2] [zz, TO, i1, i2] (min xs.size ys.size) (fun i k v => xs[i]? = some k ∧ ys[i]? = some v)
      (fun h => IsZip h zz TI TO .none ∧ IsPair h TI (.ref i1) (.ref i2) ∧ (∃ a b, IsPair h TO a b) ∧ I1 h i1 l1 0 ∧ I2 h i2 l2 0 ∧ S1 h l1 xs ∧ S2 h l2 ys) where
  type := fun s ok => ⟨_, ok.1, rfl⟩
  notDict := by decide
  keep := fun h g ok hk => by
    obtain ⟨hz, hTI, ⟨a, b, hTO⟩, h1, h2, hl1, hl2⟩ := ok
    exact ⟨hk _ _ hz, hk _ _ hTI, ⟨a, b, hk _ _ hTO⟩, N1.itAt h1 fun o e => hk _ o e, N2.itAt h2 fun o e => hk _ o e, N1.sqAt hl1 fun o e => hk _ o e, N2.sqAt hl2 fun o e => hk _ o e⟩
  there := fun h ok b hb => by
    obtain ⟨hz, hTI, ⟨a, c, hTO⟩, h1, h2, hl1, hl2⟩ := ok
    obtain ⟨o1, e1⟩ := N1.itO h1
    obtain ⟨o2, e2⟩ := N2.itO h2
    obtain ⟨o3, e3⟩ := N1.sqO hl1
    obtain ⟨o4, e4⟩ := N2.sqO hl2
    simp only [List.mem_cons, List.not_mem_nil, or_false] at hb
    rcases hb with rfl | rfl | rfl | rfl | rfl | rfl | rfl
    all_goals first | exact ⟨_, hz⟩ | exact ⟨_, hTI⟩ | exact ⟨_, hTO⟩ | exact ⟨_, e1⟩ | exact ⟨_, e2⟩ | exact ⟨_, e3⟩ | exact ⟨_, e4⟩
  sub := fun b hb => by simp at hb ⊢; rcases hb with rfl | rfl | rfl | rfl <;> simp
  noKeys := fun A s Q E hA ok h => getAttrOr_miss_zip ok.1 rfl rfl rfl zip_no_keys (by decide +kernel) hA h
  iter := fun A s d Q E hA ok hd hdf h => by
    obtain ⟨hz, hTI, ⟨a, b, hTO⟩, h1, h2, hl1, hl2⟩ := ok
    simp only [List.mem_cons, List.not_mem_nil, or_false, not_or] at hdf
    obtain ⟨dz, dTI, dTO, di1, di2, dl1, dl2⟩ := hdf
    refine wpAny_pyIter_zip hz (h zz [zz, TO, i1, i2] (fun i h => IsPair h TI (.ref i1) (.ref i2) ∧ I1 h i1 l1 i ∧ I2 h i2 l2 i ∧ S1 h l1 xs ∧ S2 h l2 ys ∧
      ((IsZip h zz TI TO .none ∧ ∃ a b, IsPair h TO a b) ∨ ∃ T f oT, IsZipHeld h zz TI TO T f ∧ h.get? T = some oT ∧ T ≠ zz ∧ T ≠ i1 ∧ T ≠ i2 ∧ T ≠ d)) s.heap s.toks ?_
      ⟨hTI, h1, h2, hl1, hl2, .inl ⟨hz, a, b, hTO⟩⟩ (fun _ _ e => e) fun b hb => .inl hb)
    exact {
      off := fun hm => by
        simp only [List.mem_cons, List.not_mem_nil, or_false] at hm
        exact hm.elim dz fun z => z.elim dTO fun z => z.elim di1 di2
      frame := fun i g₁ g₂ st hk => by
        obtain ⟨hTI, h1, h2, hl1, hl2, hz⟩ := st
        refine ⟨hk _ _ (Ne.symm dTI) hTI, N1.itAt h1 fun o e => hk _ o (Ne.symm di1) e, N2.itAt h2 fun o e => hk _ o (Ne.symm di2) e, N1.sqAt hl1 fun o e => hk _ o (Ne.symm dl1) e, N2.sqAt hl2 fun o e => hk _ o (Ne.symm dl2) e, ?_⟩
        exact hz.imp (fun ⟨hz, a, b, hTO⟩ => ⟨hk _ _ (Ne.symm dz) hz, a, b, hk _ _ (Ne.symm dTO) hTO⟩) fun ⟨T, f, oT, hz, hT, r1, r2, r3, r4⟩ => ⟨T, f, oT, hk _ _ (Ne.symm dz) hz, hk _ _ r4 hT, r1, r2, r3, r4⟩
      item := fun i s1 Q1 E1 hi st hds hQ => by
        obtain ⟨hTI, h1, h2, hl1, hl2, hz⟩ := st
        have ex := Array.getElem?_eq_getElem (Nat.lt_of_lt_of_le hi (Nat.min_le_left xs.size ys.size))
        have ey := Array.getElem?_eq_getElem (Nat.lt_of_lt_of_le hi (Nat.min_le_right xs.size ys.size))
        have lt : ∀ {c o}, s1.heap.get? c = some o → s1.heap.objs.size ≠ c := fun e => Nat.ne_of_gt (Heap.lt_size e)
        have n1 : s1.heap.objs.size ≠ i1 := let ⟨_, e⟩ := N1.itO h1; lt e
        have n2 : s1.heap.objs.size ≠ i2 := let ⟨_, e⟩ := N2.itO h2; lt e
        rcases hz with ⟨hz, a, b, hTO⟩ | ⟨T, f, oT, hz, hT, r1, r2, r3, r4⟩
        · refine pn_item N1 N2 D hz hTI hTO h1 h2 hl1 hl2 ex ey fun g a1 a3 a4 a5 hk => ?_
          exact hQ s1.heap.objs.size _ _ g s1.toks ⟨ex, ey⟩ (.inl ⟨_, a5, rfl, _, rfl⟩)
            ⟨hk _ _ D.TIz D.TITO D.TIi1 D.TIi2 hTI, a3, a4, N1.sqAt hl1 fun o e => hk _ o D.l1z D.l1TO D.l1i1 D.l1i2 e, N2.sqAt hl2 fun o e => hk _ o D.l2z D.l2TO D.l2i1 D.l2i2 e, .inr ⟨s1.heap.objs.size, false, _, a1, a5, lt hz, n1, n2, Nat.ne_of_gt hds⟩⟩
            fun c o hc e => hk c o (fun q => hc (by simp [q])) (fun q => hc (by simp [q])) (fun q => hc (by simp [q])) (fun q => hc (by simp [q])) e
        · refine pn_itemH N1 N2 D hz hT hTI h1 h2 hl1 hl2 ex ey fun g a1 a3 a4 a5 hk => ?_
          exact hQ s1.heap.objs.size _ _ g s1.toks ⟨ex, ey⟩ (.inl ⟨_, a5, rfl, _, rfl⟩)
            ⟨hk _ _ D.TIz D.TIi1 D.TIi2 hTI, a3, a4, N1.sqAt hl1 fun o e => hk _ o D.l1z D.l1i1 D.l1i2 e, N2.sqAt hl2 fun o e => hk _ o D.l2z D.l2i1 D.l2i2 e, .inr ⟨T, true, oT, a1, hk _ _ r1 r2 r3 hT, r1, r2, r3, r4⟩⟩
            fun c o hc e => hk c o (fun q => hc (by simp [q])) (fun q => hc (by simp [q])) (fun q => hc (by simp [q])) e
      done := fun s1 Q1 E1 st hQ => by
        obtain ⟨hTI, h1, h2, hl1, hl2, hz⟩ := st
        have hend : xs[min xs.size ys.size]? = none ∨ ys[min xs.size ys.size]? = none := by
          rcases Nat.le_total xs.size ys.size with h | h
          · exact .inl (Array.getElem?_eq_none (by omega))
          · exact .inr (Array.getElem?_eq_none (by omega))
        rcases hz with ⟨hz, a, b, hTO⟩ | ⟨T, f, oT, hz, hT, r1, r2, r3, r4⟩
        · exact pn_end N1 N2 hA D hz hTI hTO h1 h2 hl1 hl2 hend fun g hk => hQ g s1.toks fun c o hc e => hk c o (fun q => hc (by simp [q])) (fun q => hc (by simp [q])) (fun q => hc (by simp [q])) (fun q => hc (by simp [q])) e
        · exact pn_endH N1 N2 hA D hz hT hTI h1 h2 hl1 hl2 hend fun g hk => hQ g s1.toks fun c o hc e => hk c o (fun q => hc (by simp [q])) (fun q => hc (by simp [q])) (fun q => hc (by simp [q])) e }
end
/-! ### zip(list, tuple) -/
abbrev zg1 (h : Heap) (l1 : Addr) : Heap := h.push { cls := .type "list_iterator", data := .fields #[.ref l1, .int 0 0] }
abbrev zg2 (h : Heap) (l1 l2 : Addr) : Heap := (zg1 h l1).push { cls := .type "tuple_iterator", data := .fields #[.ref l2, .int 0 0] }
abbrev zg3 (h : Heap) (l1 l2 : Addr) : Heap := (zg2 h l1 l2).push { cls := .type "tuple", data := .seq #[.ref h.objs.size, .ref (zg1 h l1).objs.size] }
abbrev zg4 (h : Heap) (l1 l2 : Addr) : Heap := (zg3 h l1 l2).push { cls := .type "tuple", data := .seq #[.none, .none] }
abbrev zg5 (h : Heap) (l1 l2 : Addr) : Heap := (zg4 h l1 l2).push { cls := .type "zip", data := .fields #[.none, .bool false, .bool false, .ref (zg2 h l1 l2).objs.size, .ref (zg3 h l1 l2).objs.size] }
theorem zg_new (l1 l2 : Addr) (xs ys : Array Value) :
    Meets (Builtin.«zip.__new__» ⟨[.type "zip", .ref l1, .ref l2], []⟩) (fun _ R s => s.heap.IsList l1 xs ∧ s.heap.IsTuple l2 ys ∧ R (.ok (.ret (.ref (zg4 s.heap l1 l2).objs.size))) { s with heap := zg5 s.heap l1 l2 }) :=
  .of_wp fun prog w A R s h => by
    obtain ⟨hp, g, d, tk, os⟩ := s; obtain ⟨hl1, hl2, h⟩ := h
    have hsub := sub_zip
    have hL1 : Heap.IsList (Shared.heap ⟨hp, g, d, tk, os⟩) l1 xs := hl1
    have hL2 : Heap.IsTuple (Shared.heap ⟨hp.push { cls := .type "list_iterator", data := .fields #[.ref l1, .int 0 0] }, g, d, tk, os⟩) l2 ys := Heap.IsTuple.push hl2 _
    wp_walk using wpAny_pyIter_list hL1, wpAny_pyIter_tuple hL2
    exact ⟨_, rfl, h⟩
section
variable {prog : Program} {w : World} {A : Around} {E : Value → Shared → Prop} {s : Shared}
theorem call_zipLT {l1 l2 : Addr} {xs ys : Array Value} {Q : Value → Shared → Prop} (hl1 : s.heap.IsList l1 xs) (hl2 : s.heap.IsTuple l2 ys)
    (h : ∀ g, IsZip g (s.heap.objs.size + 4) (s.heap.objs.size + 2) (s.heap.objs.size + 3) .none → IsPair g (s.heap.objs.size + 2) (.ref s.heap.objs.size) (.ref (s.heap.objs.size + 1)) → IsPair g (s.heap.objs.size + 3) .none .none →
      g.IsListIter s.heap.objs.size l1 0 → g.IsTupleIter (s.heap.objs.size + 1) l2 0 → (∀ c o, s.heap.get? c = some o → g.get? c = some o) → Q (.ref (s.heap.objs.size + 4)) { s with heap := g }) :
    wpAny (model prog w) A (PySem.call (.type "zip") [.ref l1, .ref l2]) Q E s := by
  refine callType_new F.called_zip (by decide) (F.typeCall_zip_2 _ _) (F.newCall_zip_2 _ _) (fun obj => F.args_object_init_3 obj _ _) F.entry_zip_new (zg_new l1 l2 xs ys) ⟨hl1, hl2, ?_⟩
  have z1 : (zg1 s.heap l1).objs.size = s.heap.objs.size + 1 := Heap.size_push ..
  have z2 : (zg2 s.heap l1 l2).objs.size = s.heap.objs.size + 2 := by rw [Heap.size_push, z1]
  have z3 : (zg3 s.heap l1 l2).objs.size = s.heap.objs.size + 3 := by rw [Heap.size_push, z2]
  have z4 : (zg4 s.heap l1 l2).objs.size = s.heap.objs.size + 4 := by rw [Heap.size_push, z3]
  have g5 : (zg5 s.heap l1 l2).get? (zg4 s.heap l1 l2).objs.size = some _ := Heap.get?_push_size _ rfl
  have g4 : (zg5 s.heap l1 l2).get? (zg3 s.heap l1 l2).objs.size = some _ := Heap.get?_push_of_some _ (Heap.get?_push_size _ rfl)
  have g3 : (zg5 s.heap l1 l2).get? (zg2 s.heap l1 l2).objs.size = some _ := Heap.get?_push_of_some _ (Heap.get?_push_of_some _ (Heap.get?_push_size _ rfl))
  have g2 : (zg5 s.heap l1 l2).get? (zg1 s.heap l1).objs.size = some _ := Heap.get?_push_of_some _ (Heap.get?_push_of_some _ (Heap.get?_push_of_some _ (Heap.get?_push_size _ rfl)))
  have g1 : (zg5 s.heap l1 l2).get? s.heap.objs.size = some _ := Heap.get?_push_of_some _ (Heap.get?_push_of_some _ (Heap.get?_push_of_some _ (Heap.get?_push_of_some _ (Heap.get?_push_size _ rfl))))
  show _ ∧ _
  rw [z2, z3, z4] at g5
  rw [z1, z2] at g3
  rw [z3] at g4
  rw [z1] at g2
  rw [z4]
  exact ⟨⟨_, g5, rfl⟩, h _ g5 g3 g4 ⟨_, g1, rfl, rfl⟩ ⟨_, g2, rfl, rfl⟩ fun c o e => Heap.get?_push_of_some _ (Heap.get?_push_of_some _ (Heap.get?_push_of_some _ (Heap.get?_push_of_some _ (Heap.get?_push_of_some _ e))))⟩
end
end Pi
set_option maxRecDepth 100000
set_option maxHeartbeats 2000000
/-! Pi19c: dict(zip(a, b)) as an expression. -/
namespace Pi
open PySem L2 PySem.Spec PyProof.Rows
theorem strs_rep {K : PySem.W.Frag} {H : Hp} {μ : Mu} : ∀ {xs : List PV} {vs : List V} {ks : List Str}, RepAll K H μ xs vs → strsOf xs = some ks → vs = ks.map V.str ∧ xs.length = ks.length
  | [], _, _, .nil, h => by cases h; exact ⟨rfl, rfl⟩
  | _ :: _, _, ks, .cons r t, h => by
    cases r <;> first | (cases h; done) | skip
    rename_i x
    obtain ⟨ks', h1, rfl⟩ := Option.map_eq_some_iff.mp (show (strsOf _).map (x :: ·) = some ks from h)
    obtain ⟨e1, e2⟩ := strs_rep t h1
    exact ⟨by rw [e1]; rfl, by simp [e2]⟩
theorem noDupS_ok : ∀ {ks : List Str}, noDupS ks = true → ks.Nodup
  | [], _ => List.nodup_nil
  | x :: r, h => by
    unfold noDupS at h
    simp only [Bool.and_eq_true, List.all_eq_true, Bool.not_eq_true'] at h
    refine List.nodup_cons.mpr ⟨fun hm => ?_, noDupS_ok h.2⟩
    have q := h.1 x hm
    rw [eqS_iff, decide_eq_true rfl] at q
    cases q
theorem merged_new {κ : Type} [DecidableEq κ] : ∀ {more acc : List (κ × Value)}, (acc.map (·.1) ++ more.map (·.1)).Nodup → merged acc more = acc ++ more
  | [], acc, _ => by simp [merged]
  | (k, v) :: more, acc, h => by
    have hk : (acc.any fun kv => decide (kv.1 = k)) = false := by
      rw [List.any_eq_false]
      intro q hq
      simp only [decide_eq_true_eq]
      intro e
      rw [List.nodup_append] at h
      exact h.2.2 q.1 (List.mem_map.mpr ⟨q, hq, rfl⟩) k (by simp) e
    have e : PySem.stored acc k v = acc ++ [(k, v)] := by
      unfold PySem.stored
      rw [hk]
      rfl
    show merged (PySem.stored acc k v) more = _
    rw [e, merged_new (by simpa [List.append_assoc] using h)]
    simp
theorem kv_zip {κ : Type} : ∀ (ks : List κ) {vs : List V} {us : List Value}, Vals vs us → KV (ks.zip vs) (ks.zip us)
  | [], _, _, _ => .nil
  | _ :: _, _, _, .nil => .nil
  | k :: ks, _, _, .cons r t => .cons ⟨rfl, r⟩ (kv_zip ks t)
section
variable {X : Cx} {a b : Expr} {p p2 p3 pos : Pos} {ml : ML}
theorem e_dictZip (hc : X.calm = true) (hu : X.A.units + 65 < cLine) (hg : Gl X "dict") (hm : X.mg "dict" = none) (hg2 : Gl X "zip") (hm2 : X.mg "zip" = none) (hs : noStar a = true) (hs2 : noStar b = true) (ha : PA X [a, b] (RTL X.K WF ml)) :
    PE X (.Call (.Name "dict" p) [.Call (.Name "zip" p2) [a, b] [] p3] [] pos) (RT X.K WF fun ρ S => (ml ρ S).bind fun vs S1 => bltOf .dictZip S1 vs) := by
  refine ⟨fun pins s σ H Q I ⟨μ, ρ, S, sr, er, g⟩ => ?_⟩
  refine Call_ (ld_blt I hg hm boot_dict (callWith_type1 (Calls.spliced_cons ?_)))
  refine Call_ (ld_blt I hg2 hm2 PyProof.Rows.boot_zip (callWith_type1 (thn (ha.run p3 pins s σ H (fun us H1 => ∃ (μ1 : Mu) (S1 : Store) (vs : List PV), SR X.K H1 μ1 S1 ∧ RepAll X.K H1 μ1 vs us ∧ Fin X.K WF (Rep X.K) (bltOf .dictZip S1 vs) H1 μ1 fun _ u _ H' _ => Q u H') I (RX.part sr er g fun vs us S1 H1 μ1 a1 sr1 er1 r1 g => ⟨μ1, S1, vs, sr1, r1, g⟩)) fun us s1 ⟨vs, H1, I1, rv, μ1, S1, zs, sr1, rz, g⟩ => ?_) (star_no hs) (star_any (by simp [hs2]))))
  match zs, vs, rz, g with
  | [], _, _, g => exact (show False from g).elim
  | [_], _, _, g => exact (show False from g).elim
  | _ :: _ :: _ :: _, _, _, g => exact (show False from g).elim
  | [v, w'], _, .cons r1 (.cons r2 .nil), g =>
    obtain ⟨z, e, g⟩ := fin_o (show Fin X.K WF (Rep X.K) (ofO S1 (blt2 .dictZip S1 v w')) H1 μ1 (fun _ u _ H' _ => Q u H') from g)
    have d1 := rep_dr sr1 r1
    unfold blt2 at e
    simp only at e
    split at e
    · rename_i xs ys e1
      rw [e1] at d1
      split at e
      · rename_i ks ek
        split at e
        · rename_i hb
          cases e
          simp only [Bool.and_eq_true] at hb
          have hl : ks.length = ys.length := Nat.eq_of_beq_eq_true hb.1.1
          have h15 : ks.length ≤ 15 := Nat.le_of_ble_eq_true hb.2
          have hnd := noDupS_ok hb.1.2
          cases d1 with
          | @lst l _ uvs hl1 hz1 rx =>
            cases r2 with
            | @tup t _ uws ht hz2 ry =>
              obtain ⟨ex, lx⟩ := strs_rep rx ek
              obtain ⟨its, rv1, pl, _⟩ := I1.list (.of hl1)
              obtain ⟨its2, rv2, p2, _⟩ := I1.tuple ht.sq
              obtain ⟨u1, u2, rfl, e1, e2⟩ := vals2 rv
              cases (show u1 = Value.ref l from e1)
              cases (show u2 = Value.ref t from e2)
              have tt : s1.heap.IsTuple t its2.toArray := p2
              obtain ⟨ot, hot, _⟩ := id tt
              subst ex
              have n1 : its.length = ks.length := by rw [← rv1.length, List.length_map]
              have n2 : its2.length = ks.length := by rw [← rv2.length, ← ry.length, hl]
              refine call_zipLT pl.isList tt fun g2 hz hTI hTO h1 h2 hk => Calls.spliced_nil ?_
              have sz2 : s1.heap.objs.size < g2.objs.size := Nat.lt_of_le_of_lt (Nat.le_add_right _ 4) (Heap.lt_size hz)
              refine call_dict_pairs (knd := mixKind X.prog X.w) (kvs := (ks.map (Sum.inr (α := Int))).zip its2) (pairZ nxL nxT _ _ _ _ _ l t (PySem.W.ktu_apart s1.heap.objs.size l t pl.lt (Heap.lt_size hot)) its.toArray its2.toArray) (I1.ok.hd hc)
                ⟨hz, hTI, ⟨_, _, hTO⟩, h1, h2, pl.isList.at fun o e => hk _ o e, tt.at fun o e => hk _ o e⟩ ⟨?_, fun i key v ⟨q1, q2⟩ => ?_⟩ ?_ fun h' tk hd hk2 => ?_
              · rw [List.length_zip, List.length_map, List.size_toArray, List.size_toArray, n1, n2]
              · have q1 : its[i]? = some key := by simpa using q1
                have q2 : its2[i]? = some v := by simpa using q2
                have hi : i < ks.length := by rw [← n1]; exact (List.getElem?_eq_some_iff.mp q1).1
                obtain ⟨u, hu, ru⟩ := rv1.get (i := i) (x := .str ks[i]) (by rw [List.getElem?_map, List.getElem?_eq_getElem hi]; rfl)
                rw [q1] at hu
                cases hu
                obtain ⟨tk, rfl⟩ := ru
                refine ⟨.inr ks[i], ?_, mixKind_str _ _ _ _⟩
                rw [List.getElem?_zip_eq_some]
                exact ⟨by rw [List.getElem?_map, List.getElem?_eq_getElem hi]; rfl, q2⟩
              · rw [List.size_toArray, List.size_toArray, n1, n2, sizeLine_eq]; omega
              · have hnd2 : ((ks.map (Sum.inr (α := Int))).zip its2 |>.map (·.1)).Nodup := by
                  rw [List.map_fst_zip (by rw [List.length_map]; omega)]
                  exact List.pairwise_map.mpr (List.Pairwise.imp (fun h e => h (Sum.inr.inj e)) hnd)
                rw [merged_new (by simpa using hnd2), List.nil_append] at hd
                have hn : H1 g2.objs.size = none := I1.hok.fresh (Nat.le_of_lt sz2)
                have kvr : KV ((ks.map (Sum.inr (α := Int))).zip uws) ((ks.map (Sum.inr (α := Int))).zip its2) := kv_zip _ rv2
                refine ⟨.ref g2.objs.size, upd H1 g2.objs.size (.dK ((ks.map (Sum.inr (α := Int))).zip uws)), ?_, rfl, ?_⟩
                · refine I1.laid (h' := h') (t' := tk) (fun b u e => hk2 b u (fun hm => ?_) (hk b u e)) (Nat.le_of_lt sz2) ⟨?_, ?_, _, kvr, hd⟩
                  · have hb := Heap.lt_size e
                    simp only [List.mem_cons, List.not_mem_nil, or_false] at hm
                    rcases hm with z | z | z | z <;> (rw [z] at hb; first | exact absurd hb (Nat.not_lt.mpr (Nat.le_add_right _ _)) | exact absurd hb (Nat.lt_irrefl _))
                  · rw [List.length_zip, List.length_map, sizeLine_eq]; omega
                  · refine beq_eq_false_iff_ne.mpr fun z => ?_
                    rw [z] at sz2
                    exact absurd (Nat.lt_trans sz2 I1.big) (Nat.lt_irrefl _)
                · exact g _ μ1 (.ref g2.objs.size) (After.new hn) (sr1.new hn) (.dic upd_same (sr1.off hn) hl (ry.keep (After.new hn)))
          | _ => simp at e1
        · cases e
      · cases e
    · cases e
end
end Pi
set_option maxRecDepth 100000
set_option maxHeartbeats 2000000
/-! Pi19d: sorted(set(tuples of ints)). -/
namespace Pi
open PySem L2 PySem.Spec PyProof.Rows
/-! ### the order of lists of ints -/
theorem lex_irr : ∀ a : List Int, lexLt a a = false
  | [] => rfl
  | x :: a => by
    show (if decide (x = x) = true then lexLt a a else decide (x < x)) = false
    rw [decide_eq_true rfl, if_pos rfl]
    exact lex_irr a
theorem lex_cons {x y : Int} {a b : List Int} : lexLt (x :: a) (y :: b) = true ↔ x < y ∨ (x = y ∧ lexLt a b = true) := by
  show (if decide (x = y) = true then lexLt a b else decide (x < y)) = true ↔ _
  by_cases e : x = y
  · rw [decide_eq_true e, if_pos rfl]
    exact ⟨fun h => .inr ⟨e, h⟩, fun h => h.elim (fun z => absurd e (by omega)) fun z => z.2⟩
  · rw [decide_eq_false e, if_neg Bool.false_ne_true, decide_eq_true_eq]
    exact ⟨.inl, fun h => h.elim id fun z => absurd z.1 e⟩
theorem lex_trans : ∀ {a b c : List Int}, lexLt a b = true → lexLt b c = true → lexLt a c = true
  | [], [], _, h, _ => by cases h
  | [], _ :: _, [], _, h => by cases h
  | [], _ :: _, _ :: _, _, _ => rfl
  | _ :: _, [], _, h, _ => by cases h
  | _ :: _, _ :: _, [], _, h => by cases h
  | x :: a, y :: b, z :: c, h1, h2 => by
    rw [lex_cons] at h1 h2 ⊢
    rcases h1 with h1 | ⟨h1, h3⟩ <;> rcases h2 with h2 | ⟨h2, h4⟩
    · exact .inl (by omega)
    · exact .inl (by omega)
    · exact .inl (by omega)
    · exact .inr ⟨by omega, lex_trans h3 h4⟩
theorem lex_tri : ∀ a b : List Int, lexLt a b = true ∨ a = b ∨ lexLt b a = true
  | [], [] => .inr (.inl rfl)
  | [], _ :: _ => .inl rfl
  | _ :: _, [] => .inr (.inr rfl)
  | x :: a, y :: b => by
    rw [lex_cons, lex_cons]
    rcases lex_tri a b with h | h | h
    · by_cases e : x = y
      · exact .inl (.inr ⟨e, h⟩)
      · by_cases l : x < y
        · exact .inl (.inl l)
        · exact .inr (.inr (.inl (by omega)))
    · by_cases e : x = y
      · exact .inr (.inl (by rw [e, h]))
      · by_cases l : x < y
        · exact .inl (.inl l)
        · exact .inr (.inr (.inl (by omega)))
    · by_cases e : x = y
      · exact .inr (.inr (.inr ⟨e.symm, h⟩))
      · by_cases l : x < y
        · exact .inl (.inl l)
        · exact .inr (.inr (.inl (by omega)))
theorem lex_asym {a b : List Int} (h : lexLt a b = true) : lexLt b a = false := by
  cases e : lexLt b a with
  | false => rfl
  | true =>
    have := lex_trans h e
    rw [lex_irr] at this
    cases this
theorem swo_lexLt (k : Value → List Int) : SrtO.Swo fun v u => lexLt (k v) (k u) where
  asym := fun x y h => lex_asym h
  tr := fun x y z h1 h2 => by
    cases e : lexLt (k z) (k x) with
    | false => rfl
    | true =>
      have h1 : lexLt (k y) (k x) = false := h1
      have h2 : lexLt (k z) (k y) = false := h2
      rcases lex_tri (k y) (k z) with h | h | h
      · rw [lex_trans h e] at h1; cases h1
      · rw [h, e] at h1; cases h1
      · rw [h] at h2; cases h2
/-! ### the one strictly sorted list of given members -/
abbrev Strict (l : List (List Int)) : Prop := l.Pairwise fun a b => lexLt a b = true
theorem ins_has {r q : List Int} : ∀ {l : List (List Int)}, q = r ∨ q ∈ l → q ∈ insRow r l
  | [], h => by
    rw [show insRow r [] = [r] from rfl]
    exact h.elim (fun z => by rw [z]; exact List.mem_cons_self) fun z => by cases z
  | p :: l, h => by
    unfold insRow
    split
    · exact h.elim (fun z => by rw [z]; exact List.mem_cons_self) fun z => List.mem_cons_of_mem _ z
    · rename_i h1
      split
      · rcases h with h | h
        · exact List.mem_cons_of_mem _ (ins_has (.inl h))
        · rcases List.mem_cons.mp h with h | h
          · rw [h]; exact List.mem_cons_self
          · exact List.mem_cons_of_mem _ (ins_has (.inr h))
      · rename_i h2
        rcases h with h | h
        · rcases lex_tri r p with t | t | t
          · exact absurd t h1
          · rw [h, t]; exact List.mem_cons_self
          · exact absurd t h2
        · exact h
theorem ins_in {r q : List Int} : ∀ {l : List (List Int)}, q ∈ insRow r l → q = r ∨ q ∈ l
  | [], h => by
    rw [show insRow r [] = [r] from rfl] at h
    exact .inl (List.mem_singleton.mp h)
  | p :: l, h => by
    unfold insRow at h
    split at h
    · exact (List.mem_cons.mp h).imp id id
    · split at h
      · exact (List.mem_cons.mp h).elim (fun z => .inr (z ▸ List.mem_cons_self)) fun z => (ins_in z).imp id (List.mem_cons_of_mem _)
      · exact .inr h
theorem ins_strict {r : List Int} : ∀ {l : List (List Int)}, Strict l → Strict (insRow r l)
  | [], _ => List.pairwise_singleton _ _
  | p :: l, h => by
    obtain ⟨h1, h2⟩ := List.pairwise_cons.mp h
    unfold insRow
    split
    · rename_i hr
      refine List.pairwise_cons.mpr ⟨fun q hq => ?_, h⟩
      rcases List.mem_cons.mp hq with e | hq
      · rw [e]; exact hr
      · exact lex_trans hr (h1 q hq)
    · split
      · rename_i hr
        refine List.pairwise_cons.mpr ⟨fun q hq => ?_, ins_strict h2⟩
        rcases ins_in hq with e | hq
        · rw [e]; exact hr
        · exact h1 q hq
      · exact h
theorem sort_strict : ∀ l : List (List Int), Strict (sortRows l)
  | [] => List.Pairwise.nil
  | r :: l => ins_strict (sort_strict l)
theorem sort_iff {q : List Int} : ∀ {l : List (List Int)}, q ∈ sortRows l ↔ q ∈ l
  | [] => Iff.rfl
  | r :: l => by
    have ih := sort_iff (q := q) (l := l)
    refine ⟨fun h => ?_, fun h => ?_⟩
    · exact (ins_in (show q ∈ insRow r (sortRows l) from h)).elim (fun e => e ▸ List.mem_cons_self) fun z => List.mem_cons_of_mem _ (ih.mp z)
    · exact ins_has ((List.mem_cons.mp h).imp id ih.mpr)
theorem strict_eq : ∀ {a b : List (List Int)}, Strict a → Strict b → (∀ q, q ∈ a ↔ q ∈ b) → a = b
  | [], [], _, _, _ => rfl
  | [], y :: b, _, _, h => by have := (h y).mpr List.mem_cons_self; cases this
  | x :: a, [], _, _, h => by have := (h x).mp List.mem_cons_self; cases this
  | x :: a, y :: b, h1, h2, h => by
    obtain ⟨a1, a2⟩ := List.pairwise_cons.mp h1
    obtain ⟨b1, b2⟩ := List.pairwise_cons.mp h2
    have e : x = y := by
      rcases List.mem_cons.mp ((h x).mp List.mem_cons_self) with e | m
      · exact e
      · rcases List.mem_cons.mp ((h y).mpr List.mem_cons_self) with e | m2
        · exact e.symm
        · have := lex_trans (b1 x m) (a1 y m2)
          rw [lex_irr] at this
          cases this
    subst e
    have ne : ∀ {q : List Int} {l : List (List Int)}, (∀ p ∈ l, lexLt x p = true) → q ∈ l → q ≠ x := fun h hq e => by
      have := h _ hq
      rw [e, lex_irr] at this
      cases this
    refine congrArg (x :: ·) (strict_eq a2 b2 fun q => ⟨fun hq => ?_, fun hq => ?_⟩)
    · exact (List.mem_cons.mp ((h q).mp (List.mem_cons_of_mem _ hq))).resolve_left (ne a1 hq)
    · exact (List.mem_cons.mp ((h q).mpr (List.mem_cons_of_mem _ hq))).resolve_left (ne b1 hq)
/-! ### comparing tuples of ints -/
section
variable {prog : Program} {w : World} {A : Around} {E : Value → Shared → Prop} {s : Shared}
theorem kat_ints {Q : Bool → Shared → Prop} : ∀ {ns ms : List Int} {us ws : List Value} (i : Nat), IntsAre us ns → IntsAre ws ms → ns.length = ms.length → Q (lexLt ns ms) s → PySem.W.KatLex prog w A true false Q (us.zip ws) i s
  | [], [], _, _, _, .nil, .nil, _, h => PySem.W.kat_nil h
  | [], _ :: _, _, _, _, _, _, hl, _ => by simp at hl
  | _ :: _, [], _, _, _, _, _, hl, _ => by simp at hl
  | n :: ns, m :: ms, _, _, i, .cons _ t r1, .cons _ u r2, hl, h => by
    show PySem.W.KatLex prog w A true false Q ((Value.int n t, Value.int m u) :: _) i s
    refine PySem.W.kat_cons (SeqAt.EqAt.int_int n t m u prog w _ _ (PySem.W.kat_go (fun e => ?_) (fun e => ?_)))
    · have en : n = m := by simpa using e
      refine PySem.W.kat_yes (kat_ints (i + 1) r1 r2 (by simpa using hl) ?_)
      have h : Q (if decide (n = m) = true then lexLt ns ms else decide (n < m)) s := h
      rw [decide_eq_true en, if_pos rfl] at h
      exact h
    · have en : ¬ n = m := by simpa using e
      refine PySem.W.kat_no (TS.oneLt_ints _ ?_)
      have h : Q (if decide (n = m) = true then lexLt ns ms else decide (n < m)) s := h
      rw [decide_eq_false en, if_neg Bool.false_ne_true] at h
      exact h
theorem tup_firsts {h : Heap} {d : Nat} (hd : 1 ≤ d) : ∀ vs : List Value, (∀ v ∈ vs, ∃ ns, TS.TupInts h v ns ∧ ns.length = d) → ∃ fs, PySem.W.KatTups h vs fs ∧ fs.length = vs.length ∧ ∀ f ∈ fs, ∃ n t, f = Value.int n t
  | [], _ => ⟨[], PySem.W.KatTups.nil, rfl, fun f hf => by cases hf⟩
  | v :: vs, x => by
    obtain ⟨fs, k, hl, hi⟩ := tup_firsts hd vs fun u hu => x u (List.mem_cons_of_mem _ hu)
    obtain ⟨ns, ⟨a, xs, rfl, ⟨o, ho, hc, n, hd2⟩, it⟩, l⟩ := x v List.mem_cons_self
    cases ns with
    | nil => simp at l; omega
    | cons m ns =>
      obtain ⟨us, e1⟩ : ∃ us, us = xs.toList := ⟨_, rfl⟩
      rw [← e1] at it
      cases it with
      | cons _ t it =>
        rename_i us'
        refine ⟨.int m t :: fs, PySem.W.KatTups.cons ho hc hd2 ?_ k, by simp [hl], fun f hf => ?_⟩
        · rw [← Array.getElem?_toList, ← e1]
          rfl
        · rcases List.mem_cons.mp hf with e | hf
          · exact ⟨m, t, e⟩
          · exact hi f hf
theorem tups_sortable {a : Addr} {vs : List Value} {d : Nat} (hd : 1 ≤ d) (h2 : 2 ≤ vs.length) (hp : ∀ v ∈ vs, ∃ ns, TS.TupInts s.heap v ns ∧ ns.length = d) (ha : ∀ o, s.heap.get? a = some o → o.cls ≠ .type "tuple") :
    SrtO.SortableO prog w A s a vs fun v u => lexLt (TS.intsOf s.heap v) (TS.intsOf s.heap u) := by
  intro g keep
  have kp : ∀ b o, s.heap.get? b = some o → o.cls = .type "tuple" → g.get? b = some o := fun b o e c => keep b o (fun z => ha o (z ▸ e) c) e
  have hp2 : ∀ v ∈ vs, ∃ ns, TS.TupInts g v ns ∧ ns.length = d ∧ TS.intsOf s.heap v = ns := fun v hv => by
    obtain ⟨ns, t, l⟩ := hp v hv
    exact ⟨ns, t.keeps kp, l, t.ints⟩
  obtain ⟨fs, k, hl, hi⟩ := tup_firsts (h := g) hd vs fun v hv => let ⟨ns, t, l, _⟩ := hp2 v hv; ⟨ns, t, l⟩
  refine ⟨_, fun Q E hq => PySem.W.kat_kind (s := { s with heap := g }) (T := Value.type "int") k (by omega) (fun f hf => ?_) rfl hq, fun p q hm hm' => ?_⟩
  · obtain ⟨n, t, rfl⟩ := hi f hf
    exact PySem.W.Looks.of_pure rfl
  · obtain ⟨ns, ⟨b, xs, eb, ⟨o, ho, _, n, hd1⟩, r1⟩, l1, i1⟩ := hp2 _ hm
    obtain ⟨ms, ⟨c, ys, ec, ⟨o', ho', _, n', hd2⟩, r2⟩, l2, i2⟩ := hp2 _ hm'
    rw [eb, ec]
    have el : decide (xs.size < ys.size) = false := by
      have q1 := r1.length
      have q2 := r2.length
      rw [Array.length_toList] at q1 q2
      exact decide_eq_false (by omega)
    refine PySem.W.kat_lt (s := { s with heap := g }) ho hd1 ho' hd2 ?_
    rw [el]
    refine kat_ints 0 r1 r2 (by omega) ⟨rfl, ?_⟩
    show lexLt ns ms = lexLt (TS.intsOf s.heap p.1) (TS.intsOf s.heap q.1)
    rw [i1, i2]
end
end Pi
set_option maxRecDepth 100000
set_option maxHeartbeats 2000000
/-! Pi19e: sorted(set(..)) as an expression. -/
namespace Pi
open PySem L2 PySem.Spec PyProof.Rows
section
variable {P : Program} {w : World} {A : Around} {E : Value → Shared → Prop} {s : Shared}
/-- addresses with their tuples, from values that are some of them -/
theorem refs_of {L : List (Addr × List Int)} : ∀ vs : List Value, (∀ v ∈ vs, ∃ q ∈ L, v = Value.ref q.1) → ∃ M : List (Addr × List Int), vs = M.map (fun q => Value.ref q.1) ∧ ∀ q ∈ M, q ∈ L
  | [], _ => ⟨[], rfl, fun q hq => by cases hq⟩
  | v :: vs, h => by
    obtain ⟨q, hq, e⟩ := h v List.mem_cons_self
    obtain ⟨M, e1, hs⟩ := refs_of vs fun u hu => h u (List.mem_cons_of_mem _ hu)
    refine ⟨q :: M, by rw [List.map_cons, e, e1], fun r hr => ?_⟩
    exact (List.mem_cons.mp hr).elim (fun z => z ▸ hq) (hs r)
theorem sorted_setN {a : Addr} {L : List (Addr × List Int)} {es : Array (Int × Value)} {ep : Nat} {t : SetTable} {d : Nat} {Q : Value → Shared → Prop} (R : SetTR P w s.heap a L es ep t) (hh : A.handled = none) (hd : 2 ≤ L.length → 1 ≤ d) (hL : ∀ p ∈ L, p.2.length = d)
    (hQ : ∀ s' p (out : Array Value) (c : Nat) (M : List (Addr × List Int)), (∀ b o, s.heap.get? b = some o → s'.heap.get? b = some o) → s'.gens = s.gens → s'.os = s.os → s.heap.objs.size ≤ p → s'.heap.get? p = some (seqObj "list" out c) →
      out.toList = M.map (fun q => Value.ref q.1) → M.Perm L → M.Pairwise (fun q r => lexLt r.2 q.2 = false) → Q (.ref p) s') :
    wpAny (model P w) A (PySem.call (.builtin "sorted") [.ref a]) Q E s := by
  obtain ⟨o, ho, hex, hdat⟩ := R.ob
  have hsz := R.size
  have hfew := R.few
  refine Calls.call_function_entry kind_sorted plain_sorted entry_sorted (args_sorted1 _) ?_
  unfold Builtin.«sorted»
  refine wpAny_bind (m := checkCount "sorted" 1 1 _) (wpAny_pure (wpAny_bind (collect_set (A := A.in1) hh ⟨o, ho, hex.1, hdat⟩ R.fits (by unfold scanBound; omega) R.tab.ris R.led fun s1 vs kp hz g1 o1 pm => ?_)))
  have vals : es.toList.map (·.2) = L.map fun q => Value.ref q.1 := by
    rw [R.rows]
    unfold L2.rowsOf
    rw [List.map_map] <;> rfl
  rw [vals] at pm
  have one : ∀ q ∈ L, ∀ r ∈ L, q.1 = r.1 → q = r := fun q hq r hr e => by
    have a1 := R.tup q hq
    rw [e] at a1
    exact Prod.ext e (a1.inj (R.tup r hr))
  have nL : L.Nodup := nodup_of_map R.nd
  have nref : (L.map fun q => Value.ref q.1).Nodup := List.pairwise_map.mpr (List.Pairwise.imp_of_mem (fun {q r} hq hr hne e => hne (one q hq r hr (by injection e))) nL)
  have hvl : vs.length = L.length := by rw [pm.length_eq, List.length_map]
  have hz1 : vs.length ≤ sizeLine := by rw [sizeLine_eq]; omega
  refine wpAny_bind (wpAny_newList ?_ hz1)
  have hoL : (s1.heap.push (seqObj "list" vs.toArray 0)).get? s1.heap.objs.size = some (seqObj "list" vs.toArray 0) := Heap.get?_push_size _ rfl
  have tup : ∀ q ∈ L, TS.TupInts (s1.heap.push (seqObj "list" vs.toArray 0)) (.ref q.1) q.2 := fun q hq => tupInts_of (P := P) (w := w) (isT_keep (R.tup q hq) fun b u e => Heap.get?_push_of_some _ (kp b u e))
  have mem : ∀ v ∈ vs, ∃ q ∈ L, v = Value.ref q.1 := fun v hv => by
    obtain ⟨q, hq, e⟩ := List.mem_map.mp (pm.mem_iff.mp hv)
    exact ⟨q, hq, e.symm⟩
  refine wpAny_bind (wpAny_holding (wpAny_call_entry slot_list_sort ⟨_, hoL, rfl⟩ entry_list_sort (SrtO.list_sort_ord (s := { s1 with heap := s1.heap.push (seqObj "list" vs.toArray 0) }) (swo_lexLt fun v => TS.intsOf (s1.heap.push (seqObj "list" vs.toArray 0)) v) hoL hz1 (fun h2 => ?_) fun out q1 q2 => ⟨_, rfl, ?_⟩) (args_list_sort _)))
  · refine tups_sortable (hd (by omega)) h2 (fun v hv => ?_) fun o e => ?_
    · obtain ⟨q, hq, rfl⟩ := mem v hv
      exact ⟨q.2, tup q hq, hL q hq⟩
    · have e2 : some o = some (seqObj "list" vs.toArray 0) := e.symm.trans hoL
      cases e2
      exact fun z => absurd (Value.type.inj z) (by decide)
  · obtain ⟨c, hc⟩ := sortedHeap_at (vs := vs) (out := out.toArray) hoL
    obtain ⟨M, e, hs⟩ := refs_of out fun v hv => mem v (q2.perm.mem_iff.mp hv)
    have pM : (M.map (fun q => Value.ref q.1)).Perm (L.map fun q => Value.ref q.1) := by rw [← e]; exact q2.perm.trans pm
    have nM : M.Nodup := nodup_of_map (pM.nodup_iff.mpr nref)
    have perm : M.Perm L := (List.perm_ext_iff_of_nodup nM nL).mpr fun q => ⟨hs q, fun hq => by
      obtain ⟨r, hr, e⟩ := List.mem_map.mp (pM.mem_iff.mpr (List.mem_map.mpr ⟨q, hq, rfl⟩))
      injection e with e
      rw [← one r (hs r hr) q hq e]
      exact hr⟩
    have srt : M.Pairwise (fun q r => lexLt r.2 q.2 = false) := by
      rw [e] at q1
      refine List.Pairwise.imp_of_mem (fun {q r} hq hr h => ?_) (List.pairwise_map.mp q1)
      rw [← (tup q (hs q hq)).ints, ← (tup r (hs r hr)).ints]
      exact h
    refine wpAny_pure ⟨_, rfl, hQ _ s1.heap.objs.size out.toArray c M (fun b u e => ?_) g1 o1 hz hc (by simpa using e) perm srt⟩
    have lt := Heap.lt_size (kp b u e)
    show (sortedHeap (s1.heap.push (seqObj "list" vs.toArray 0)) s1.heap.objs.size vs out.toArray).get? b = some u
    rw [sortedHeap_old (Nat.ne_of_lt lt) (by rw [size_push']; exact Nat.lt_succ_of_lt lt)]
    exact Heap.get?_push_of_some _ (kp b u e)
end
section
variable {X : Cx}
/-- sorted(set) of tuples of d ints -/
def rSortN (K : PySem.W.Frag) (P : Program) (w : World) : List V → Hp → VK → Prop := fun vs H Q => ∃ (a : Addr) (L : List (Addr × List Int)) (d : Nat), vs = [V.ref a] ∧ H a = some (SetTO P w a L) ∧ (∀ p ∈ L, SqT K H p.1 (p.2.map V.int)) ∧ (2 ≤ L.length → 1 ≤ d) ∧ (∀ p ∈ L, p.2.length = d) ∧
  ∀ (M : List (Addr × List Int)) (p : Addr), M.Perm L → (M.map (·.2)).Nodup → M.length < 64 → M.Pairwise (fun q r => lexLt r.2 q.2 = false) → H p = none → Q (.ref p) (upd H p (.lst (M.map fun q => V.ref q.1)))
theorem cr_sortN (hc : X.calm = true) : CallR X (.builtin "sorted") (rSortN X.K X.prog X.w) := by
  intro pins s σ H vs us Q I r h
  obtain ⟨a, L, d, rfl, ha, hk, hd, hL, q⟩ := h
  obtain ⟨es, ep, t, R⟩ := (show SetT0 X.prog X.w s.heap a L from (I.hok a _ ha).1).full fun p hp => I.isT (hk p hp)
  rw [Vals.ref1 r]
  refine sorted_setN R (I.ok.hd hc) hd hL fun s' p out c M k g o hp hg hout pm pw => ?_
  have few : M.length < 64 := by rw [pm.length_eq]; exact R.few
  have len : (M.map fun q => V.ref q.1).length ≤ sizeLine := by rw [List.length_map, sizeLine_eq]; omega
  have hn : H p = none := I.hok.fresh hp
  have hv : Vals (M.map fun q => V.ref q.1) out.toList := by rw [hout]; exact vals_of_refs M
  have J : Inv X pins σ (upd H p (.lst (M.map fun q => V.ref q.1))) { s with heap := s'.heap, gens := s'.gens, drawn := s'.drawn, toks := s'.toks } := I.call (ch := []) (Un.laid k hp hn) (I.hok.laid k hp ⟨len, out.toList, c, hv, hg⟩) (by rw [g]; exact I.bare) (fun _ z => nomatch z)
  obtain ⟨h1, h2, h3, h4, h5⟩ := s'
  cases o
  exact ⟨.ref p, _, J, rfl, q M p pm ((pm.map (·.2)).nodup_iff.mpr R.nd) few pw hn⟩
/-- tuples of ints by their addresses -/
theorem rows_rep {K : PySem.W.Frag} {H : Hp} {μ : Mu} {d : Nat} : ∀ {xs : List PV} {us : List V} {rs : List (List Int)}, RepAll K H μ xs us → Pi.rowsOf d xs = some rs →
    ∃ ks : List (Addr × List Int), us = ks.map (fun p => V.ref p.1) ∧ rs = ks.map (·.2) ∧ ∀ p ∈ ks, TupAt K H μ p.1 (p.2.map V.int) ∧ p.2.length ≤ szl ∧ p.2.length = d
  | [], _, rs, .nil, h => by cases h; exact ⟨[], rfl, rfl, fun p hp => by cases hp⟩
  | x :: xs, u :: us, rs, .cons r t, h => by
    cases r <;> first | (cases h; done) | skip
    rename_i a ys vs h1 h2 h3
    have h : (match intsOf ys, Pi.rowsOf d xs with
      | some ns, some rs => if Nat.beq ns.length d then some (ns :: rs) else none
      | _, _ => none) = some rs := h
    split at h
    · rename_i ns rs' e1 e2
      split at h
      · rename_i hb
        cases h
        obtain ⟨ks, q1, q2, q3⟩ := rows_rep t e2
        have ev := rep_ints h3 e1
        have el : ys.length = ns.length := by rw [h3.length, ev, List.length_map]
        refine ⟨(a, ns) :: ks, by rw [q1]; rfl, by rw [q2]; rfl, fun p hp => ?_⟩
        rcases List.mem_cons.mp hp with rfl | hp
        · exact ⟨ev ▸ h1, by rw [← el]; exact h2, Nat.eq_of_beq_eq_true hb⟩
        · exact q3 p hp
      · cases h
    · cases h
theorem rep_rows {K : PySem.W.Frag} {H : Hp} {μ : Mu} : ∀ {M : List (Addr × List Int)}, (∀ p ∈ M, TupAt K H μ p.1 (p.2.map V.int) ∧ p.2.length ≤ szl) → RepAll K H μ ((M.map (·.2)).map fun r => .tup (r.map .int)) (M.map fun q => V.ref q.1)
  | [], _ => .nil
  | p :: M, h => by
    obtain ⟨h1, h2⟩ := h p List.mem_cons_self
    exact .cons (.tup h1 (by rw [List.length_map]; exact h2) (RepAll.ints _)) (rep_rows fun q hq => h q (List.mem_cons_of_mem _ hq))
variable {a : Expr} {p p2 p3 pos : Pos} {ml : ML}
theorem e_sortedSet (hc : X.calm = true) (hu : X.A.units + 65 < cLine) (hg : Gl X "sorted") (hm : X.mg "sorted" = none) (hg2 : Gl X "set") (hm2 : X.mg "set" = none) (hs : noStar a = true) (ha : PA X [a] (RTL X.K WF ml)) :
    PE X (.Call (.Name "sorted" p) [.Call (.Name "set" p2) [a] [] p3] [] pos) (RT X.K WF fun ρ S => (ml ρ S).bind fun vs S1 => bltOf .sortedSet S1 vs) := by
  refine pe_imp (pe_callB (cr_sortN hc) hg hm boot_sorted (pa_cons (pe_callTy (cr_setOfT hc (by omega)) hg2 hm2 boot_set ha (by decide) (by decide) (star_no hs) rfl) pa_nil) (by decide) (by decide) rfl rfl) fun σ H Q ⟨μ, ρ, S, sr, er, g⟩ => ?_
  refine RX.part sr er g fun vs us S1 H1 μ1 a1 sr1 er1 r1 g => ?_
  match vs, us, r1, g with
  | [], _, _, g => exact (show False from g).elim
  | [_, _], _, _, g => exact (show False from g).elim
  | _ :: _ :: _ :: _, _, _, g => exact (show False from g).elim
  | [v], [u1], .cons r .nil, g =>
    obtain ⟨z, e, g⟩ := fin_o (show Fin X.K WF (Rep X.K) (ofO S1 (blt1 .sortedSet S1 v)) H1 μ1 (fun _ u _ H' _ => Q u H') from g)
    have d1 := rep_dr sr1 r
    unfold blt1 at e
    simp only at e
    have fin : ∀ (d : Nat) (xs : List PV) (rs : List (List Int)) (uv : V), DRep X.K H1 μ1 (.lst xs) uv → Pi.rowsOf d xs = some rs → rs.length < 64 → (rs ≠ [] → 1 ≤ d) → z = .lst ((sortRows rs).map fun r => .tup (r.map .int)) →
        rSetOfT X.K X.prog X.w [uv] H1 fun x H' => tNil σ H' fun ys H'' => rSortN X.K X.prog X.w (x :: ys) H'' Q := by
      intro d xs rs uv dr' er' hl hd ez
      subst ez
      cases dr' with
      | @lst l _ uvs hl1 hz1 rx =>
      obtain ⟨ks, q1, q2, q3⟩ := rows_rep rx er'
      subst q1 q2
      rw [List.length_map] at hl
      refine ⟨l, ks, rfl, .of hl1, fun q hq => (q3 q hq).1.sq, hl, fun c L hc1 hL1 hL2 => ?_⟩
      have A1 : After H1 μ1 (upd H1 c (SetTO X.prog X.w c L)) μ1 := After.new hc1
      have s2 := sr1.new (o := SetTO X.prog X.w c L) hc1
      show rSortN X.K X.prog X.w [.ref c] (upd H1 c (SetTO X.prog X.w c L)) Q
      refine ⟨c, L, d, rfl, upd_same, fun q hq => ((q3 q (hL1 q hq)).1.keep A1).sq, fun h2 => ?_, fun q hq => (q3 q (hL1 q hq)).2.2, fun M q pm nd few pw hq0 => ?_⟩
      · cases L with
        | nil => simp at h2
        | cons q L =>
          refine hd fun z => ?_
          have := hL1 q List.mem_cons_self
          rw [List.map_eq_nil_iff.mp z] at this
          cases this
      · have A2 : After (upd H1 c (SetTO X.prog X.w c L)) μ1 (upd (upd H1 c (SetTO X.prog X.w c L)) q (.lst (M.map fun q => V.ref q.1))) μ1 := After.new hq0
        have s3 := s2.new (o := .lst (M.map fun q => V.ref q.1)) hq0
        have eM : sortRows (ks.map (·.2)) = M.map (·.2) := by
          refine strict_eq (sort_strict _) ?_ fun r => ?_
          · refine List.pairwise_map.mpr ?_
            have nd2 := List.pairwise_map.mp nd
            refine (List.Pairwise.and nd2 pw).imp fun {x y} ⟨h1, h2⟩ => ?_
            rcases lex_tri x.2 y.2 with t | t | t
            · exact t
            · exact absurd t h1
            · rw [t] at h2; cases h2
          · rw [sort_iff]
            constructor
            · intro hr
              obtain ⟨q, hq, e⟩ := List.mem_map.mp hr
              obtain ⟨q', hq', e'⟩ := List.mem_map.mp (hL2 q hq)
              exact List.mem_map.mpr ⟨q', pm.mem_iff.mpr hq', e'.trans e⟩
            · intro hr
              obtain ⟨q, hq, e⟩ := List.mem_map.mp hr
              exact List.mem_map.mpr ⟨q, hL1 q (pm.mem_iff.mp hq), e⟩
        rw [eM] at g
        refine g _ μ1 (.ref q) (A1.trans s2.trk A2) s3 (.lst upd_same (s2.off hq0) ?_ ?_)
        · rw [List.length_map, List.length_map]; unfold szl; omega
        · exact (rep_rows fun q hq => ⟨((q3 q (hL1 q (pm.mem_iff.mp hq))).1.keep A1), (q3 q (hL1 q (pm.mem_iff.mp hq))).2.1⟩).keep A2
    split at e
    · rename_i xs e1
      rw [e1] at d1
      split at e
      · cases e
        exact fin 0 [] [] u1 d1 rfl (by decide) (fun z => absurd rfl z) rfl
      · rename_i y ys
        split at e
        · rename_i rs er'
          split at e
          · rename_i hb
            cases e
            simp only [Bool.and_eq_true] at hb
            exact fin y.length _ rs u1 d1 er' (Nat.le_of_ble_eq_true hb.1.2) (fun _ => Nat.le_of_ble_eq_true hb.1.1) rfl
          · cases e
        · cases e
      · cases e
    · cases e
end
end Pi
set_option maxRecDepth 100000
set_option maxHeartbeats 4000000
/-! Pi20: the translation is sound: expressions. -/
namespace Pi
open PySem L2 PySem.Spec PyProof.Rows

/-- a context in which the translation's words hold -/
structure Good (G : Gt) (cf : CF) (C : Ct) (X : Cx) : Prop where
  N : X.N = C.N
  nd : C.N.Nodup
  sc : X.env.scope = C.sc
  fn : ∀ x, C.fn x = true → X.fn x = true
  calm : X.calm = true
  un : X.A.units + 65 < cLine
  gd : X.A.guards = some []
  xe : X.xe = fun _ _ => False
  free : ∀ x, (G.free.any fun y => eqN y x) = true → X.mg x = none
  fns : ∀ x i, fnOfN x G.fns = some i → ∃ (f : Addr) (fd : FuncData) (ps : List Str) (k : Nat), X.mg x = some (.ref f) ∧ PySem.W.keepIn X.K (.ref f) = true ∧ Binds X.K fd ps [] ∧ FnG X.prog X.w X.K X.mg X.base k f fd ps (fun vs S => cf i vs S) ∧ Room k X.A ∧ ∀ vs S, vs.length ≠ ps.length → cf i vs S = .no
theorem Good.blk {G : Gt} {cf : CF} {C : Ct} {X : Cx} (g : Good G cf C X) (s : Shared) (H : Hp) (scope : Scope) (A : Addr) (cl : List (Str × Addr)) (fp : List Addr) : Good G cf (blkCt C scope) (X.blk s H scope (compEnvC scope cl A X.env) fp) where
  N := g.N
  nd := g.nd
  sc := by
    show relabel scope X.env = relS scope C.sc
    rw [← g.sc]
    rfl
  fn := fun x h => by
    have h : decide (scope.names.lookup x = some .cell) = true := h
    show (scope.names.lookup x == some .cell) = true
    rw [of_decide_eq_true h]
    rfl
  calm := g.calm
  un := g.un
  gd := g.gd
  xe := rfl
  free := g.free
  fns := g.fns
theorem Good.own {G : Gt} {cf : CF} {C : Ct} {X : Cx} (g : Good G cf C X) : PassesOwn (model X.prog X.w) X.A X.env X.xe := by
  rw [g.xe]
  exact PassesOwn.never

section
variable {G : Gt} {cf : CF} {C : Ct} {X : Cx} {x : Str} {i : Nat}
theorem eqN_iff {x y : Str} : eqN x y = true ↔ x = y := by
  unfold eqN
  rw [decide_eq_true_eq]
theorem slot_ok : ∀ {N : List Str} {i : Nat}, slotOf x N = some i → N[i]? = some x
  | [], _, h => by cases h
  | y :: r, i, h => by
    unfold slotOf at h
    split at h
    · rename_i e
      cases h
      rw [eqN_iff.mp e]
      rfl
    · cases e : slotOf x r with
      | none => rw [e] at h; cases h
      | some j =>
        rw [e] at h
        cases h
        exact (show r[j]? = some x from slot_ok e)
theorem isK_iff {k : NameKind} {o : Option NameKind} : isK k o = true ↔ o = some k := by
  unfold isK
  rw [decide_eq_true_eq]
theorem okName_iff (h : okName x = true) : (x == ("__debug__" : Str)) = false ∧ (x == ("__classdict__" : Str)) = false ∧ x ≠ "__name__" := by
  unfold okName at h
  simp only [Bool.and_eq_true, Bool.not_eq_true'] at h
  obtain ⟨⟨h1, h2⟩, h3⟩ := h
  refine ⟨?_, ?_, fun e => ?_⟩
  · rw [beq_eq_false_iff_ne]; intro e; rw [eqN_iff.mpr e] at h1; cases h1
  · rw [beq_eq_false_iff_ne]; intro e; rw [eqN_iff.mpr e] at h2; cases h2
  · rw [eqN_iff.mpr e] at h3; cases h3
theorem gl_ok (g : Good G cf C X) (h : glB C x = true) : Gl X x := by
  show X.env.scope.names.lookup x = _
  rw [g.sc]
  exact isK_iff.mp h
theorem bltn_ok (g : Good G cf C X) (h : bltn G C x = true) : Gl X x ∧ X.mg x = none ∧ okName x = true := by
  unfold bltn at h
  simp only [Bool.and_eq_true] at h
  exact ⟨gl_ok g h.1.1, g.free x h.1.2, h.2⟩
theorem vis_ok (g : Good G cf C X) (h : visB C x = true) : Vis X.env.scope x := by
  unfold visB at h
  simp only [Bool.or_eq_true] at h
  rw [g.sc]
  rcases h with (h | h) | h
  · exact .inl (isK_iff.mp h)
  · exact .inr (.inl (isK_iff.mp h))
  · exact .inr (.inr (isK_iff.mp h))
end
/-! ### what is claimed -/
structure Snd (G : Gt) (cf : CF) (C : Ct) (e : Expr) (ir : E) : Prop where
  ns : noStar e = true
  nw : isW ir = false
  pe : ∀ X, Good G cf C X → ∀ m, PE X e (RT X.K WF ((ev cf m).e ir))
  pt : ∀ X, Good G cf C X → ∀ m, PT X e (RTB X.K WF ((ev cf m).t ir))
def SND (G : Gt) (cf : CF) (f : TrE) : Prop := ∀ C e ir, f C e = some ir → Snd G cf C e ir
section
variable {G : Gt} {cf : CF} {C : Ct} {f : TrE} {e a b c : Expr} {ir xa xb xc : E} {pos p p2 p3 : Pos}
theorem evt_val {M : Ev} (h : valT ir = true) : (evStep cf M).t ir = fun ρ S => (M.e ir ρ S).bind fun v S1 => ofB S1 (tru S1 v) := by
  cases ir <;> first | rfl | cases h
theorem isTrue_val {env : Env} (h : byVal e = true) : ∀ whole, isTrue e env whole = (do let v ← whole; standAt e.pos; holding [v] (truthy v)) := by
  intro whole
  cases e <;> first | rfl | (cases h) | skip
  rename_i op a p
  cases op <;> first | rfl | cases h
theorem pe_all {X : Cx} (h : ∀ m, PE X e (RT X.K WF ((evStep cf (ev cf m)).e ir))) : ∀ m, PE X e (RT X.K WF ((ev cf m).e ir))
  | 0 => pe_false (RX.none fun _ _ => rfl)
  | m + 1 => h m
theorem pt_all {X : Cx} (h : ∀ m, PT X e (RTB X.K WF ((evStep cf (ev cf m)).t ir))) : ∀ m, PT X e (RTB X.K WF ((ev cf m).t ir))
  | 0 => pt_false (RX.none fun _ _ => rfl)
  | m + 1 => h m
theorem Snd.val (ns : noStar e = true) (nw : isW ir = false) (hb : byVal e = true) (hv : valT ir = true) (h : ∀ X, Good G cf C X → ∀ m, PE X e (RT X.K WF ((evStep cf (ev cf m)).e ir))) : Snd G cf C e ir where
  ns := ns
  nw := nw
  pe := fun X g => pe_all (h X g)
  pt := fun X g => pt_all fun m => by
    rw [evt_val hv]
    exact t_val (pe_all (h X g) m) (isTrue_val hb)
theorem star_of (h : isW ir = false) : isStar ir = false := by
  cases ir <;> first | rfl | cases h
/-! ### lists of expressions -/
theorem args_ok (hf : SND G cf f) : ∀ {es : List Expr} {xs : List E}, args f C es = some xs → ∀ X, Good G cf C X → ∀ m, PA X es (RTL X.K WF (evs (ev cf m).e xs))
  | [], xs, h, X, g, m => by cases h; exact a_nil
  | e :: es, xs, h, X, g, m => by
    by_cases hs : ∃ y q, e = .Starred y q
    · obtain ⟨y, q, rfl⟩ := hs
      unfold args at h
      split at h
      · rename_i z zs h1 h2
        split at h
        · cases h
          exact a_star ((hf C y z h1).pe X g m) (args_ok hf h2 X g m)
        · cases h
      · cases h
    · have h : (match f C e, args f C es with
        | some x, some xs => some (x :: xs)
        | _, _ => none) = some xs := by
        rw [← h]
        cases e <;> first | rfl | exact absurd ⟨_, _, rfl⟩ hs
      split at h
      · rename_i z zs h1 h2
        cases h
        have s := hf C e z h1
        rw [evs_cons (star_of s.nw)]
        exact a_cons s.ns (s.pe X g m) (args_ok hf h2 X g m)
      · cases h
end
/-! ### targets -/
section
variable {G : Gt} {cf : CF} {C : Ct} {X : Cx}
theorem mapP_ok {n : Nat} (ih : ∀ e p, trP C n e = some p → PG X e (gA X.K p) ∧ noStar e = true) : ∀ {es : List Expr} {ps : List Pt}, mapO (trP C n) es = some ps → PGs X es (gAs X.K ps) ∧ ps.length = es.length ∧ es.all noStar = true
  | [], ps, h => by cases h; exact ⟨pgs_nl, rfl, rfl⟩
  | e :: es, ps, h => by
    unfold mapO at h
    split at h
    · rename_i y ys h1 h2
      cases h
      obtain ⟨q1, q2, q3⟩ := mapP_ok ih h2
      obtain ⟨r1, r2⟩ := ih e y h1
      exact ⟨pgs_cn r2 r1 q1, by simp [q2], by simp [r2, q3]⟩
    · cases h
theorem mapO_app {α β : Type} {f : α → Option β} : ∀ {xs : List α} {ys : List β} {x : α} {y : β}, mapO f xs = some ys → f x = some y → mapO f (xs ++ [x]) = some (ys ++ [y])
  | [], ys, x, y, h, h2 => by cases h; show mapO f [x] = _; simp [mapO, h2]
  | z :: zs, ys, x, y, h, h2 => by
    unfold mapO at h
    split at h
    · rename_i w ws h3 h4
      cases h
      show mapO f (z :: (zs ++ [x])) = _
      unfold mapO
      rw [h3, mapO_app h4 h2]
      rfl
    · cases h
theorem trP_ok (g : Good G cf C X) : ∀ (n : Nat), (∀ e p, trP C n e = some p → PG X e (gA X.K p) ∧ noStar e = true) ∧ (∀ es p, trPs C n es = some p → ∀ k pos, PG X (.Tuple es k pos) (gA X.K p))
  | 0 => ⟨fun e p h => (by simp [trP] at h), fun es p h => (by simp [trPs] at h)⟩
  | n + 1 => by
    obtain ⟨ih1, ih2⟩ := trP_ok g n
    refine ⟨fun e p h => ?_, fun es p h k pos => ?_⟩
    · cases e with
      | Tuple es k pos =>
        simp only [trP] at h
        exact ⟨ih2 es p h k pos, rfl⟩
      | Name x pos =>
        simp only [trP] at h
        split at h
        · rename_i i hi
          split at h
          · rename_i hb
            cases h
            have hN : X.N[i]? = some x := by rw [g.N]; exact slot_ok hi
            have nd : X.N.Nodup := by rw [g.N]; exact g.nd
            simp only [Bool.or_eq_true, Bool.and_eq_true] at hb
            refine ⟨?_, rfl⟩
            rcases hb with hb | ⟨hb, hb2⟩
            · have l : X.env.scope.names.lookup x = some .local := by rw [g.sc]; exact isK_iff.mp hb
              exact pg_nm nd hN (.inl l) (.inr l)
            · have l : X.env.scope.names.lookup x = some .cell := by rw [g.sc]; exact isK_iff.mp hb
              exact pg_nm nd hN (.inr l) (.inl (g.fn x hb2))
          · cases h
        · cases h
      | _ => simp [trP] at h
    · unfold trPs at h
      split at h
      · rename_i ps h1
        obtain ⟨q1, q2, q3⟩ := mapP_ok ih1 h1
        rw [if_pos q3] at h
        cases h
        exact pg_tu g.calm q3 q2 q1
      · split at h
        · rename_i t q rs hr
          split at h
          · rename_i ps r h1 h2
            split at h
            · rename_i hb
              cases h
              simp only [Bool.and_eq_true] at hb
              obtain ⟨q1, q2, q3⟩ := mapP_ok ih1 (mapO_app h1 h2)
              obtain ⟨_, l2, _⟩ := mapP_ok ih1 h1
              have e : es = rs.reverse ++ [.Starred t q] := by
                have := congrArg List.reverse hr
                simpa using this
              rw [e]
              exact pg_st g.calm hb.1 hb.2 l2 q1
            · cases h
          · cases h
        · cases h
end
end Pi
set_option maxRecDepth 100000
set_option maxHeartbeats 4000000
/-! Pi21: the translation is sound: expressions, each form. -/
namespace Pi
open PySem L2 PySem.Spec PyProof.Rows

section
variable {G : Gt} {cf : CF} {C : Ct} {f : TrE} {e a b c : Expr} {ir xa xb xc : E} {pos p p2 p3 : Pos}
theorem plainIx_of (h : isSlice b = false) : PlainIx b := by
  intro o i
  cases b <;> first | rfl | cases h
theorem base_of {o : Expr} {name : Str} {env : Env} (h : isCall o = false) : attributeBase o name env (eval o env) = eval o env := by
  cases o <;> first | rfl | cases h
theorem fold_of {env : Env} (h : isSet e = false) : ∀ x, foldedSetIterable e env x = pure x := by
  intro x
  cases e <;> first | rfl | cases h
theorem bopT_ok {op : Operator} {o : Bop} (h : bopT op = some o) : bopC o = op := by
  cases op <;> first | (cases h; done) | (cases h; rfl)
theorem copT_ok {op : CmpOp} {o : Cop} (h : copT op = some o) : copC o = op := by
  cases op <;> first | (cases h; done) | (cases h; rfl)
/-! ### what is walked -/
/-- a walked thing's reading -/
def ISnd (G : Gt) (cf : CF) (C : Ct) (tg it : Expr) (ir : E) : Prop := ∀ X, Good G cf C X → ∀ m, PI X tg it (RI X.K (src (ev cf m).e ir))
theorem src_val {g : E → PEnv → Store → Res PV} (h : isW ir = false) : src g ir = fun ρ S => (g ir ρ S).bind srcV := by
  cases ir <;> first | rfl | cases h
theorem isnd_val {tg it : Expr} (s : Snd G cf C it ir) : ISnd G cf C tg it ir := fun X g m => by
  rw [src_val s.nw]
  exact pi_val (s.pe X g m)
theorem iter_ok (hf : SND G cf f) {tg it : Expr} (h : iterT G f C tg it = some ir) : ISnd G cf C tg it ir := by
  unfold iterT at h
  split at h
  · rename_i g q a q2
    split at h
    · rename_i hb
      simp only [Bool.and_eq_true] at hb
      obtain ⟨y, hy, rfl⟩ := Option.map_eq_some_iff.mp h
      have s := hf C a y hy
      intro X gd m
      obtain ⟨b1, b2, _⟩ := bltn_ok gd hb.2
      rw [eqN_iff.mp hb.1] at b1 b2 ⊢
      exact pi_r1 b1 b2 (s.pe X gd m) s.ns
    · exact isnd_val (hf C _ _ h)
  · rename_i g q a b q2
    split at h
    · rename_i hb
      simp only [Bool.and_eq_true] at hb
      split at h
      · rename_i y z hy hz
        cases h
        have s := hf C a y hy
        have t := hf C b z hz
        intro X gd m
        obtain ⟨b1, b2, _⟩ := bltn_ok gd hb.2
        rw [eqN_iff.mp hb.1] at b1 b2 ⊢
        exact pi_r2 b1 b2 (s.pe X gd m) (t.pe X gd m) s.ns t.ns
      · cases h
    · split at h
      · rename_i hb
        simp only [Bool.and_eq_true] at hb
        split at h
        · rename_i y z hy hz
          cases h
          have s := hf C a y hy
          have t := hf C b z hz
          intro X gd m
          obtain ⟨b1, b2, _⟩ := bltn_ok gd hb.1.2
          rw [eqN_iff.mp hb.1.1] at b1 b2 ⊢
          obtain ⟨es, kk, q3, rfl⟩ : ∃ es kk q3, tg = .Tuple es kk q3 := by
            cases tg <;> first | exact ⟨_, _, _, rfl⟩ | exact absurd hb.2 Bool.false_ne_true
          exact pi_z b1 b2 (s.pe X gd m) (t.pe X gd m) s.ns t.ns
        · cases h
      · exact isnd_val (hf C _ _ h)
  · split at h
    · cases h
    · exact isnd_val (hf C _ _ h)
/-! ### comprehensions -/
theorem own_ok {N : List Str} : ∀ {l : List (Str × NameKind)} (p : Str × Nat), p ∈ ownOf N l → N[p.2]? = some p.1
  | [], p, h => by cases h
  | (x, k) :: r, p, h => by
    unfold ownOf at h
    split at h
    · rename_i i h1 h2
      rcases List.mem_cons.mp h with e | h
      · rw [e]; exact slot_ok h2
      · exact own_ok p h
    · exact own_ok p h
theorem comp_snd {elt tg iter : Expr} {ifs : List Expr} {scope : Scope} (hf : SND G cf f) (h : compT G f C elt tg iter ifs scope pos = some ir) : ∃ b vs t it ifs' el, ir = .comp b vs t it ifs' el ∧
    ∀ X, Good G cf C X → ∀ m, ∃ tt te, CompOk X scope vs t elt tg iter ifs (src (ev cf m).e it) (turnF (ev cf m) ifs' el) tt te := by
  unfold compT at h
  simp only at h
  split at h
  · rename_i hb
    simp only [Bool.and_eq_true, Bool.not_eq_true'] at hb
    split at h
    · rename_i it t el h1 h2 h3
      split at h
      · rename_i hs
        have hs2 : ∀ i ∈ slots t, i ∈ (ownOf C.N scope.names).map (·.2) := fun i hi => by
          have q := (List.all_eq_true.mp hs) i hi
          obtain ⟨j, hj, e⟩ := List.any_eq_true.mp q
          rw [Nat.eq_of_beq_eq_true e]
          exact hj
        have sel := hf _ _ _ h3
        have si := iter_ok (tg := tg) hf h1
        split at h
        · cases h
          refine ⟨_, _, _, _, _, _, rfl, fun X g m => ⟨tYes, RT X.K WF ((ev cf m).e el), ?_⟩⟩
          refine ⟨g.calm, by rw [g.N]; exact g.nd, si X g m, ⟨_, blkOk_by (by rw [g.N, g.sc]; exact hb.1), rfl⟩, fun s H A cl fp => ?_, fun s H A cl fp => pts_nil, fun s H A cl fp => sel.pe _ (g.blk s H scope A cl fp) m, fold_of hb.2, hs2, fun σ2 H2 Y N q => hf_no σ2 H2 Y N q⟩
          exact ((trP_ok (g.blk s H scope A cl fp) 8).1 tg t h2).1
        · rename_i c
          obtain ⟨ci, hc, e⟩ := Option.map_eq_some_iff.mp h
          subst e
          have sc := hf _ _ _ hc
          refine ⟨_, _, _, _, _, _, rfl, fun X g m => ⟨RTB X.K WF ((ev cf m).t ci), RT X.K WF ((ev cf m).e el), ?_⟩⟩
          refine ⟨g.calm, by rw [g.N]; exact g.nd, si X g m, ⟨_, blkOk_by (by rw [g.N, g.sc]; exact hb.1), rfl⟩, fun s H A cl fp => ?_, fun s H A cl fp => pts_one (sc.pt _ (g.blk s H scope A cl fp) m), fun s H A cl fp => sel.pe _ (g.blk s H scope A cl fp) m, fold_of hb.2, hs2, fun σ2 H2 Y N q => hf_if σ2 H2 Y N q⟩
          exact ((trP_ok (g.blk s H scope A cl fp) 8).1 tg t h2).1
        · cases h
      · cases h
    · cases h
  · cases h
/-! ### calls -/
theorem args_map {es : List Expr} {k : List E → E} (h : (args f C es).map k = some ir) : ∃ xs, args f C es = some xs ∧ ir = k xs := by
  obtain ⟨xs, h1, h2⟩ := Option.map_eq_some_iff.mp h
  exact ⟨xs, h1, h2.symm⟩
theorem ne_cons {es : List Expr} (h : es.isEmpty = false) : ∃ e r, es = e :: r := by
  cases es with
  | nil => cases h
  | cons e r => exact ⟨e, r, rfl⟩
theorem snd_blt1 (hf : SND G cf f) {x : Str} {as : List Expr} {bt : Bt} {xs : List E} (hx : bltn G C x = true) (hb : bt1 x = some bt) (hs : as.all noStar = true) (hn : as.isEmpty = false) (ha : args f C as = some xs) : Snd G cf C (.Call (.Name x p) as [] pos) (.blt bt xs) := by
  obtain ⟨e, es, rfl⟩ := ne_cons hn
  refine .val rfl rfl rfl rfl fun X g m => ?_
  have hA := args_ok hf ha X g m
  obtain ⟨b1, b2, b3⟩ := bltn_ok g hx
  obtain ⟨d1, _, d2⟩ := okName_iff b3
  unfold bt1 at hb
  split at hb
  · rename_i he; cases hb; cases eqN_iff.mp he
    exact e_callB c_len b1 b2 boot_len d2 d1 hs hA
  split at hb
  · rename_i he; cases hb; cases eqN_iff.mp he
    exact e_callB (c_sum g.calm) b1 b2 boot_sum d2 d1 hs hA
  split at hb
  · rename_i he; cases hb; cases eqN_iff.mp he
    exact e_callB (c_all g.calm) b1 b2 boot_all d2 d1 hs hA
  split at hb
  · rename_i he; cases hb; cases eqN_iff.mp he
    exact e_callB (c_any g.calm) b1 b2 boot_any d2 d1 hs hA
  split at hb
  · rename_i he; cases hb; cases eqN_iff.mp he
    exact e_callB (c_min g.calm) b1 b2 boot_min d2 d1 hs hA
  split at hb
  · rename_i he; cases hb; cases eqN_iff.mp he
    exact e_callB (c_max g.calm) b1 b2 boot_max d2 d1 hs hA
  split at hb
  · rename_i he; cases hb; cases eqN_iff.mp he
    exact e_callB (c_repr g.gd g.un) b1 b2 boot_repr d2 d1 hs hA
  cases hb
theorem snd_blt2 (hf : SND G cf f) {x : Str} {as : List Expr} {bt : Bt} {xs : List E} {bc : Bool} (hx : bltn G C x = true) (hb : bt2 bc x = some bt) (hs : as.all noStar = true) (hn : as.isEmpty = false) (ha : args f C as = some xs) : Snd G cf C (.Call (.Name x p) as [] pos) (.blt bt xs) := by
  obtain ⟨e, es, rfl⟩ := ne_cons hn
  refine .val rfl rfl rfl rfl fun X g m => ?_
  have hA := args_ok hf ha X g m
  obtain ⟨b1, b2, b3⟩ := bltn_ok g hx
  obtain ⟨d1, _, d2⟩ := okName_iff b3
  unfold bt2 at hb
  split at hb
  · rename_i he; cases hb; cases eqN_iff.mp he
    exact e_callTy c_tuple b1 b2 boot_tuple d2 d1 hs hA
  split at hb
  · rename_i he; cases hb; cases eqN_iff.mp he
    exact e_callTy (c_list bc) b1 b2 boot_list d2 d1 hs hA
  split at hb
  · rename_i he; cases hb; cases eqN_iff.mp he
    exact e_callTy c_int b1 b2 boot_int d2 d1 hs hA
  cases hb
theorem cls_ok {X : Cx} (g : Good G cf C X) {n : String} (h : clsT G C e = some n) : ∃ x q, e = .Name x q ∧ IsTy X x n ∧ n ∈ clss := by
  unfold clsT at h
  split at h
  · rename_i x q
    split at h
    · rename_i hb
      obtain ⟨b1, b2, b3⟩ := bltn_ok g hb
      obtain ⟨d1, _, d2⟩ := okName_iff b3
      refine ⟨x, q, rfl, ?_⟩
      unfold clsN at h
      split at h
      · rename_i he; cases h; cases eqN_iff.mp he; exact ⟨⟨b1, b2, by decide +kernel, d2, d1⟩, by simp [clss]⟩
      split at h
      · rename_i he; cases h; cases eqN_iff.mp he; exact ⟨⟨b1, b2, by decide +kernel, d2, d1⟩, by simp [clss]⟩
      split at h
      · rename_i he; cases h; cases eqN_iff.mp he; exact ⟨⟨b1, b2, by decide +kernel, d2, d1⟩, by simp [clss]⟩
      split at h
      · rename_i he; cases h; cases eqN_iff.mp he; exact ⟨⟨b1, b2, by decide +kernel, d2, d1⟩, by simp [clss]⟩
      split at h
      · rename_i he; cases h; cases eqN_iff.mp he; exact ⟨⟨b1, b2, by decide +kernel, d2, d1⟩, by simp [clss]⟩
      split at h
      · rename_i he; cases h; cases eqN_iff.mp he; exact ⟨⟨b1, b2, by decide +kernel, d2, d1⟩, by simp [clss]⟩
      cases h
    · cases h
  · cases h
theorem clss_ok {X : Cx} (g : Good G cf C X) : ∀ {es : List Expr} {ns : List String}, mapO (clsT G C) es = some ns → TyNames X es ns ∧ ∀ n ∈ ns, n ∈ clss
  | [], ns, h => by cases h; exact ⟨.nil, fun n hn => by cases hn⟩
  | e :: es, ns, h => by
    unfold mapO at h
    split at h
    · rename_i n ns h1 h2
      cases h
      obtain ⟨x, q, rfl, t, hn⟩ := cls_ok g h1
      obtain ⟨t2, h3⟩ := clss_ok g h2
      exact ⟨.cons t t2, fun k hk => (List.mem_cons.mp hk).elim (fun e => e ▸ hn) (h3 k)⟩
    · cases h
theorem fn_ok {x : Str} {i : Nat} (hf : SND G cf f) {as : List Expr} {xs : List E} (hg : glB C x = true) (ho : okName x = true) (hi : fnOfN x G.fns = some i) (hs : as.all noStar = true) (ha : args f C as = some xs) : Snd G cf C (.Call (.Name x p) as [] pos) (.call i xs) :=
  .val rfl rfl rfl rfl fun X g m => by
    obtain ⟨fa, fd, ps, k, h1, h2, h3, h4, h5, h6⟩ := g.fns x i hi
    exact e_call hs h4 h6 h5 g.gd h3 (gl_ok g hg) h1 h2 (okName_iff ho).1 (args_ok hf ha X g m)
theorem call_ok (hf : SND G cf f) {x : Str} {as : List Expr} (h : callT G f C x as pos = some ir) : Snd G cf C (.Call (.Name x p) as [] pos) ir := by
  unfold callT at h
  split at h
  · rename_i i h1 h2
    simp only [Bool.and_eq_true] at h1
    split at h
    · rename_i hs
      obtain ⟨xs, ha, rfl⟩ := args_map h
      exact fn_ok hf h1.1 h1.2 h2 hs ha
    · cases h
  · split at h
    · rename_i hx
      split at h
      · rename_i bt _ hb
        split at h
        · rename_i hs
          simp only [Bool.and_eq_true, Bool.not_eq_true'] at hs
          obtain ⟨xs, ha, rfl⟩ := args_map h
          exact snd_blt1 hf hx hb hs.1 hs.2 ha
        · cases h
      · rename_i bt _ hb
        split at h
        · rename_i hs
          simp only [Bool.and_eq_true, Bool.not_eq_true'] at hs
          obtain ⟨xs, ha, rfl⟩ := args_map h
          exact snd_blt2 hf hx hb hs.1 hs.2 ha
        · cases h
      · split at h
        · rename_i he
          cases eqN_iff.mp he
          split at h
          · rename_i a es k q
            split at h
            · rename_i v cs h1 h2
              split at h
              · rename_i hl
                cases h
                have s := hf C a v h1
                refine .val rfl rfl rfl rfl fun X g m => ?_
                obtain ⟨b1, b2, b3⟩ := bltn_ok g hx
                obtain ⟨t1, t2⟩ := clss_ok g h2
                exact e_isiT b1 b2 s.ns (s.pe X g m) t1 t2 (Nat.le_of_ble_eq_true hl)
              · cases h
            · cases h
          · rename_i a c hno
            split at h
            · rename_i v n h1 h2
              cases h
              have s := hf C a v h1
              refine .val rfl rfl rfl rfl fun X g m => ?_
              obtain ⟨b1, b2, b3⟩ := bltn_ok g hx
              obtain ⟨y, q, rfl, t1, t2⟩ := cls_ok g h2
              exact e_isi b1 b2 s.ns (s.pe X g m) t1 t2
            · cases h
          · cases h
        · split at h
          · rename_i he
            cases eqN_iff.mp he
            split at h
            · rename_i y q a q2
              split at h
              · rename_i hb
                simp only [Bool.and_eq_true] at hb
                obtain ⟨v, h1, rfl⟩ := Option.map_eq_some_iff.mp h
                have s := hf C a v h1
                refine .val rfl rfl rfl rfl fun X g m => ?_
                obtain ⟨b1, b2, b3⟩ := bltn_ok g hx
                obtain ⟨d1, d2, d3⟩ := bltn_ok g hb.2
                rw [eqN_iff.mp hb.1] at d1 d2 ⊢
                have hA : PA X [a] (RTL X.K WF (evs (ev cf m).e [v])) := by
                  rw [evs_cons (star_of s.nw)]
                  exact a_cons s.ns (s.pe X g m) a_nil
                exact e_sortedSet g.calm g.un b1 b2 d1 d2 s.ns hA
              · cases h
            · cases h
          · split at h
            · rename_i he
              cases eqN_iff.mp he
              split at h
              · rename_i y q a b q2
                split at h
                · rename_i hb
                  simp only [Bool.and_eq_true] at hb
                  split at h
                  · rename_i v w h1 h2
                    cases h
                    have s := hf C a v h1
                    have t := hf C b w h2
                    refine .val rfl rfl rfl rfl fun X g m => ?_
                    obtain ⟨b1, b2, b3⟩ := bltn_ok g hx
                    obtain ⟨d1, d2, d3⟩ := bltn_ok g hb.2
                    rw [eqN_iff.mp hb.1] at d1 d2 ⊢
                    have hA : PA X [a, b] (RTL X.K WF (evs (ev cf m).e [v, w])) := by
                      rw [evs_cons (star_of s.nw), evs_cons (star_of t.nw)]
                      exact a_cons s.ns (s.pe X g m) (a_cons t.ns (t.pe X g m) a_nil)
                    exact e_dictZip g.calm g.un b1 b2 d1 d2 s.ns t.ns hA
                  · cases h
                · cases h
              · cases h
            · cases h
    · cases h
end
end Pi
set_option maxRecDepth 100000
set_option maxHeartbeats 4000000
/-! Pi22: the translation is sound: all expressions. -/
namespace Pi
open PySem L2 PySem.Spec PyProof.Rows

section
variable {G : Gt} {cf : CF} {C : Ct} {f : TrE} {e a b c : Expr} {ir xa xb xc : E} {pos p p2 p3 : Pos}
theorem part_ok (hf : SND G cf f) {o : Option Expr} {x : Option E} (h : partT f C o = some x) {X : Cx} (g : Good G cf C X) (m : Nat) : PO X o (RTO X.K (evo (ev cf m).e x)) := by
  cases o with
  | none => cases h; exact o_none
  | some e =>
    obtain ⟨y, hy, rfl⟩ := Option.map_eq_some_iff.mp h
    exact o_some ((hf C e y hy).pe X g m)
theorem noDup_ok : ∀ {ks : List Str}, noDupN ks = true → ks.Nodup
  | [], _ => List.nodup_nil
  | x :: r, h => by
    unfold noDupN at h
    simp only [Bool.and_eq_true, List.all_eq_true, Bool.not_eq_true'] at h
    refine List.nodup_cons.mpr ⟨fun hm => ?_, noDup_ok h.2⟩
    have q := h.1 x hm
    rw [eqN_iff.mpr rfl] at q
    cases q
theorem keys_ok : ∀ {keys : List (Option Expr)} {ks : List Str}, mapO keyT keys = some ks → KeysE keys ks
  | [], ks, h => by cases h; exact .nil
  | k :: keys, ks, h => by
    unfold mapO at h
    split at h
    · rename_i y ys h1 h2
      cases h
      unfold keyT at h1
      split at h1
      · cases h1; exact .cons (keys_ok h2)
      · cases h1
    · cases h
theorem alle_ok (hf : SND G cf f) {X : Cx} (g : Good G cf C X) (m : Nat) : ∀ {es : List Expr} {xs : List E}, args f C es = some xs → es.all noStar = true → AllE X (ev cf m).e es xs
  | [], xs, h, _ => by cases h; exact .nil
  | e :: es, xs, h, hs => by
    simp only [List.all_cons, Bool.and_eq_true] at hs
    have h : (match f C e, args f C es with
      | some x, some xs => some (x :: xs)
      | _, _ => none) = some xs := by
      rw [← h]
      cases e <;> first | rfl | exact absurd hs.1 Bool.false_ne_true
    split at h
    · rename_i z zs h1 h2
      cases h
      have s := hf C e z h1
      exact .cons (s.pe X g m) (star_of s.nw) (alle_ok hf g m h2 hs.2)
    · cases h
theorem pw_of {X : Cx} {op : BoolOp} {es : List Expr} {t : TT} (h : PT X (.BoolOp op es pos) t) : PW X (.BoolOp op es pos) t := ⟨fun wh pins s σ H Q I q => h.run pins s σ H Q I q⟩
theorem snd_one {op : BoolOp} (s : Snd G cf C a ir) : Snd G cf C (.BoolOp op [a] pos) ir where
  ns := rfl
  nw := s.nw
  pe := fun X g m => pe_one (s.pe X g m)
  pt := fun X g m => by
    cases op with
    | And => exact (pw_and1 (s.pt X g m)).pt
    | Or => exact (pw_or1 (s.pt X g m)).pt
theorem snd_and {r : List Expr} (s : Snd G cf C a xa) (t : Snd G cf C (.BoolOp .And (b :: r) pos) xb) : Snd G cf C (.BoolOp .And (a :: b :: r) pos) (.andd xa xb) where
  ns := rfl
  nw := rfl
  pe := fun X g => pe_all fun m => e_and (s.pe X g m) (t.pe X g m)
  pt := fun X g => pt_all fun m => (w_and (s.pt X g m) (pw_of (t.pt X g m))).pt
theorem snd_or {r : List Expr} (s : Snd G cf C a xa) (t : Snd G cf C (.BoolOp .Or (b :: r) pos) xb) : Snd G cf C (.BoolOp .Or (a :: b :: r) pos) (.orr xa xb) where
  ns := rfl
  nw := rfl
  pe := fun X g => pe_all fun m => e_or (s.pe X g m) (t.pe X g m)
  pt := fun X g => pt_all fun m => (w_or (s.pt X g m) (pw_of (t.pt X g m))).pt
theorem snd_not (s : Snd G cf C a xa) : Snd G cf C (.UnaryOp .Not a pos) (.nott xa) where
  ns := rfl
  nw := rfl
  pe := fun X g => pe_all fun m => e_nott (s.pe X g m)
  pt := fun X g => pt_all fun m => t_not (s.pt X g m)
theorem snd_if (u : Snd G cf C c xc) (s : Snd G cf C a xa) (t : Snd G cf C b xb) : Snd G cf C (.IfExp c a b pos) (.ifx xc xa xb) where
  ns := rfl
  nw := rfl
  pe := fun X g => pe_all fun m => e_if (u.pt X g m) (s.pe X g m) (t.pe X g m)
  pt := fun X g => pt_all fun m => t_if (u.pt X g m) (s.pt X g m) (t.pt X g m)
theorem snd_cmp {o : Cop} (hm : behindInMarks (copC o) b = false) (s : Snd G cf C a xa) (t : Snd G cf C b xb) : Snd G cf C (.Compare a [copC o] [b] pos) (.cmp o xa xb) where
  ns := rfl
  nw := rfl
  pe := fun X g => pe_all fun m => e_cmp g.un o hm (s.pe X g m) (t.pe X g m)
  pt := fun X g => pt_all fun m => t_cmp g.un o hm (s.pe X g m) (t.pe X g m)
theorem snd_chain {o o' : Cop} (hm : lastMarks [copC o, copC o'] [b, c] = false) (s : Snd G cf C a xa) (t : Snd G cf C b xb) (u : Snd G cf C c xc) : Snd G cf C (.Compare a [copC o, copC o'] [b, c] pos) (.chain o o' xa xb xc) where
  ns := rfl
  nw := rfl
  pe := fun X g => pe_all fun m => e_chain g.un o o' hm (s.pe X g m) (t.pe X g m) (u.pe X g m)
  pt := fun X g => pt_all fun m => t_chain g.un o o' hm (s.pe X g m) (t.pe X g m) (u.pe X g m)
theorem snd_step (hf : SND G cf f) : SND G cf (trStep G f) := by
  intro C e ir h
  unfold trStep at h
  split at h
  · rename_i x pos
    split at h
    · rename_i i hi
      split at h
      · rename_i hb
        simp only [Bool.and_eq_true] at hb
        cases h
        obtain ⟨d1, d2, _⟩ := okName_iff hb.2
        exact .val rfl rfl rfl rfl fun X g m => e_var (by rw [g.N]; exact slot_ok hi) (vis_ok g hb.1) d1 d2
      · cases h
    · cases h
  · cases h; exact .val rfl rfl rfl rfl fun X g m => e_c pe_int fun _ _ => .int _
  · cases h; exact .val rfl rfl rfl rfl fun X g m => e_c pe_bl fun _ _ => .bl _
  · cases h; exact .val rfl rfl rfl rfl fun X g m => e_c pe_str fun _ _ => .str _
  · cases h; exact .val rfl rfl rfl rfl fun X g m => e_c pe_non fun _ _ => .non
  · obtain ⟨xs, ha, rfl⟩ := args_map h
    exact .val rfl rfl rfl rfl fun X g m => e_tup (args_ok hf ha X g m)
  · obtain ⟨xs, ha, rfl⟩ := args_map h
    exact .val rfl rfl rfl rfl fun X g m => e_lst _ (args_ok hf ha X g m)
  · split at h
    · rename_i o x y h1 h2 h3
      cases h
      have s := hf C _ _ h2
      have t := hf C _ _ h3
      cases bopT_ok h1
      exact .val rfl rfl rfl rfl fun X g m => e_bin o (s.pe X g m) (t.pe X g m)
    · cases h
  · obtain ⟨x, h1, rfl⟩ := Option.map_eq_some_iff.mp h
    have s := hf C _ _ h1
    exact .val rfl rfl rfl rfl fun X g m => e_neg (s.pe X g m)
  · obtain ⟨x, h1, rfl⟩ := Option.map_eq_some_iff.mp h
    exact snd_not (hf C _ _ h1)
  · exact snd_one (hf C _ _ h)
  · split at h
    · rename_i x y h1 h2
      cases h
      exact snd_and (hf C _ _ h1) (hf C _ _ h2)
    · cases h
  · split at h
    · rename_i x y h1 h2
      cases h
      exact snd_or (hf C _ _ h1) (hf C _ _ h2)
    · cases h
  · split at h
    · rename_i o x y h1 h2 h3
      split at h
      · cases h
      · rename_i hb
        cases h
        cases copT_ok h1
        exact snd_cmp (by simpa using hb) (hf C _ _ h2) (hf C _ _ h3)
    · cases h
  · split at h
    · rename_i o o' x y z h1 h1' h2 h3 h4
      split at h
      · cases h
      · rename_i hb
        cases h
        cases copT_ok h1
        cases copT_ok h1'
        exact snd_chain (by simpa using hb) (hf C _ _ h2) (hf C _ _ h3) (hf C _ _ h4)
    · cases h
  · split at h
    · rename_i z x y h1 h2 h3
      cases h
      exact snd_if (hf C _ _ h1) (hf C _ _ h2) (hf C _ _ h3)
    · cases h
  · split at h
    · rename_i x l hh h1 h2 h3
      cases h
      have s := hf C _ _ h1
      exact .val rfl rfl rfl rfl fun X g m => e_slc (s.pe X g m) (part_ok hf h2 g m) (part_ok hf h3 g m)
    · cases h
  · split at h
    · rename_i x y h1 h2
      split at h
      · cases h
      · rename_i hb
        cases h
        have s := hf C _ _ h1
        have t := hf C _ _ h2
        exact .val rfl rfl rfl rfl fun X g m => e_ix g.un (plainIx_of (by simpa using hb)) (s.pe X g m) (t.pe X g m)
    · cases h
  · exact call_ok hf h
  · rename_i o name apos a cpos
    split at h
    · rename_i hb
      simp only [Bool.and_eq_true, Bool.not_eq_true', decide_eq_true_eq] at hb
      split at h
      · rename_i x y h1 h2
        have s := hf C _ _ h1
        have t := hf C _ _ h2
        have hA : ∀ X, Good G cf C X → ∀ m, PA X [a] (RTL X.K WF (evs (ev cf m).e [y])) := fun X g m => by
          rw [evs_cons (star_of t.nw)]
          exact a_cons t.ns (t.pe X g m) a_nil
        have hl : (apos.endLine == cpos.line) = true := by rw [hb.1.2]; exact beq_self_eq_true _
        split at h
        · rename_i he
          cases h
          cases eqN_iff.mp he
          exact .val rfl rfl rfl rfl fun X g m => e_meth PySem.F.slot_list_append PySem.F.type_list_append m_append (base_of hb.1.1) hl hb.2 (s.pe X g m) (hA X g m)
        · split at h
          · rename_i he
            cases h
            cases eqN_iff.mp he
            exact .val rfl rfl rfl rfl fun X g m => e_meth PySem.F.slot_list_index PySem.F.type_list_index (m_index g.un) (base_of hb.1.1) hl hb.2 (s.pe X g m) (hA X g m)
          · cases h
      · cases h
    · cases h
  · obtain ⟨bx, vs, t, it, ifs', el, rfl, hc⟩ := comp_snd hf h
    exact .val rfl rfl rfl rfl fun X g m => by
      obtain ⟨tt, te, ok⟩ := hc X g m
      exact e_comp bx ok
  · split at h
    · rename_i ks xs h1 h2
      split at h
      · rename_i hb
        simp only [Bool.and_eq_true, decide_eq_true_eq, Bool.not_eq_true'] at hb
        obtain ⟨⟨⟨⟨⟨⟨b1, b2⟩, b3⟩, b4⟩, b5⟩, b6⟩, b7⟩ := hb
        cases h
        exact .val rfl rfl rfl rfl fun X g m => e_dis (keys_ok h1) (alle_ok hf g m h2 b1) b2 b3 b4 b5 (noDup_ok b6)
      · cases h
    · cases h
  · cases h
/-- THE RULE: an expression's translation is what it does -/
theorem trE_ok (G : Gt) (cf : CF) : ∀ n, SND G cf (trE G n)
  | 0 => fun C e ir h => (by cases h)
  | n + 1 => snd_step (trE_ok G cf n)
end
end Pi
set_option maxRecDepth 100000
set_option maxHeartbeats 4000000
/-! Pi23: the translation is sound: statements. -/
namespace Pi
open PySem L2 PySem.Spec PyProof.Rows

section
variable {G : Gt} {cf : CF} {C : Ct} {f : TrS} {n w me : Nat}
/-- a statement's translation is what it does (w: the turns that a while may take) -/
def SSnd (G : Gt) (cf : CF) (w me : Nat) (C : Ct) (st : Stmt) (x : Sm) : Prop := ∀ X, Good G cf C X → ∀ k, PS X st (RTS X.K (xe (ev cf me) w k x))
def SSND (G : Gt) (cf : CF) (w me : Nat) (f : TrS) : Prop := ∀ C st x, f C st = some x → SSnd G cf w me C st x
theorem ps_zero {X : Cx} {st : Stmt} {m : PEnv → Store → Res Out} (h : ∀ ρ S, m ρ S = .no) : PS X st (RTS X.K m) := ⟨fun pins s σ H D I q => (RX.none (R := RO X.K) h σ H (dOut D) q).elim⟩
theorem ssnd_all {st : Stmt} {x : Sm} (h : ∀ X, Good G cf C X → ∀ k, PS X st (RTS X.K (xStep (ev cf me) w (xe (ev cf me) w k) x))) : SSnd G cf w me C st x := fun X g k => match k with
  | 0 => ps_zero fun _ _ => rfl
  | k + 1 => h X g k
theorem stmts_ok (hf : SSND G cf w me f) : ∀ {b : List Stmt} {xs : List Sm}, stmts f C b = some xs → ∀ X, Good G cf C X → ∀ k, PSs X b (RTS X.K (xss (xe (ev cf me) w k) xs))
  | [], xs, h, X, g, k => by cases h; exact s_nil
  | st :: b, xs, h, X, g, k => by
    unfold stmts at h
    split at h
    · rename_i y ys h1 h2
      cases h
      exact s_cons (hf C st y h1 X g k) (stmts_ok hf h2 X g k)
    · cases h
theorem cases_ok (hf : SSND G cf w me f) {X : Cx} (g : Good G cf C X) (k : Nat) : ∀ {cs : List MatchCase} {ss : List (Option PV × List Sm)}, casesT f C cs = some ss → Cases X (fun b => xss (xe (ev cf me) w k) b) cs ss
  | [], ss, h => by simp only [casesT] at h; cases h; exact .nil
  | c :: r, ss, h => by
    unfold casesT at h
    split at h
    · rename_i e; cases e
    · rename_i e
      cases e
      obtain ⟨x, h1, rfl⟩ := Option.map_eq_some_iff.mp h
      exact .any (stmts_ok hf h1 X g k)
    · rename_i e
      cases e
      split at h
      · rename_i sb ss h1 h2
        cases h
        exact .str (stmts_ok hf h1 X g k) (cases_ok hf g k h2)
      · cases h
    · cases h
/-! ### stores -/
theorem sw_other {e tg : Expr} {line : Nat} {env : Env} (h : isCompE e = true → isNameE tg = false) : swapsWithSole [tg] e line env = pure false := by
  show swapsWith e (some tg) line env = pure false
  cases e <;> first | rfl | skip
  all_goals (cases tg <;> first | rfl | exact absurd (h rfl) (by simp [isNameE]))
theorem sws_other {e tg : Expr} {env : Env} (h : isTupE tg = false ∧ isListE tg = false ∨ isTupE e = false) : swappedStores [tg] e env = pure none := by
  cases tg <;> first | rfl | skip
  all_goals (cases e <;> first | rfl | skip)
  all_goals (simp [isTupE, isListE] at h)
theorem starB : ∀ {es : List Expr}, es.all noStar = true → (es.any fun | .Starred .. => true | _ => false) = false
  | [], _ => rfl
  | e :: es, h => by
    simp only [List.all_cons, Bool.and_eq_true] at h
    rw [List.any_cons, starB h.2, Bool.or_false]
    cases e <;> first | rfl | exact absurd h.1 Bool.false_ne_true
theorem sws_none {ts vs : List Expr} {k k2 : Nat} {q q2 : Pos} {env : Env} (h : noSwap ts vs = true) : swappedStores [.Tuple ts k q] (.Tuple vs k2 q2) env = pure none := by
  unfold noSwap at h
  unfold swappedStores
  simp only
  split
  · rfl
  · rename_i h1
    split
    · rfl
    · split
      · rfl
      · have hf : vs.all (foldedForSure 8) = true := by
          simp only [Bool.or_eq_true] at h h1
          rcases h with (h | h) | h
          · exact absurd (.inl (.inl h)) h1
          · exact absurd (.inl (.inr h)) h1
          · exact h
        rw [if_pos hf]
theorem sws_par2 {x y : Str} {px py : Pos} {a b : Expr} {k k2 : Nat} {q q2 : Pos} {env : Env} (hk : env.scope.kind = .function) (hx : env.scope.names.lookup x = some .local) (hy : env.scope.names.lookup y = some .local) (hl : py.line = px.line) (hn : x ≠ y)
    (hs : [a, b].all noStar = true) (hf : [a, b].all (foldedForSure 8) = false) (hc : [a, b].all (constantsAlone 8) = false) : swappedStores [.Tuple [.Name x px, .Name y py] k q] (.Tuple [a, b] k2 q2) env = pure (some [x, y]) := by
  have hb : env.blockKind = .function := by
    unfold Env.blockKind
    rw [hk]
    rfl
  have ha := starB hs
  have hbx : env.kindOf x = some .local := hx
  have hby : env.kindOf y = some .local := hy
  have hyx : (y == x) = false := beq_eq_false_iff_ne.mpr fun e => hn e.symm
  unfold swappedStores
  simp only
  refine (if_neg (by simp [hb])).trans ?_
  refine (if_neg (Bool.eq_false_iff.mp ha)).trans ?_
  refine (if_neg (by simp [hb, hbx, hby, hl, List.eraseDups, List.eraseDupsBy, List.eraseDupsBy.loop, Expr.pos, hyx])).trans ?_
  rw [hf, hc]
  simp [hb, hbx, hby, hl, List.eraseDups, List.eraseDupsBy, List.eraseDupsBy.loop, Expr.pos, hyx]
theorem sws_par3 {x y z : Str} {px py pz : Pos} {a b c : Expr} {k k2 : Nat} {q q2 : Pos} {env : Env} (hk : env.scope.kind = .function) (hx : env.scope.names.lookup x = some .local) (hy : env.scope.names.lookup y = some .local) (hz : env.scope.names.lookup z = some .local) (hl : py.line = px.line) (hl2 : pz.line = px.line)
    (hn : x ≠ y) (hn2 : x ≠ z) (hn3 : y ≠ z)
    (hs : [a, b, c].all noStar = true) (hf : [a, b, c].all (foldedForSure 8) = false) (hc : [a, b, c].all (constantsAlone 8) = false) : swappedStores [.Tuple [.Name x px, .Name y py, .Name z pz] k q] (.Tuple [a, b, c] k2 q2) env = pure (some [x, y, z]) := by
  have hb : env.blockKind = .function := by
    unfold Env.blockKind
    rw [hk]
    rfl
  have ha := starB hs
  have hbx : env.kindOf x = some .local := hx
  have hby : env.kindOf y = some .local := hy
  have hbz : env.kindOf z = some .local := hz
  have hyx : (y == x) = false := beq_eq_false_iff_ne.mpr fun e => hn e.symm
  have hzx : (z == x) = false := beq_eq_false_iff_ne.mpr fun e => hn2 e.symm
  have hzy : (z == y) = false := beq_eq_false_iff_ne.mpr fun e => hn3 e.symm
  unfold swappedStores
  simp only
  refine (if_neg (by simp [hb])).trans ?_
  refine (if_neg (Bool.eq_false_iff.mp ha)).trans ?_
  refine (if_neg (by simp [hb, hbx, hby, hbz, hl, hl2, List.eraseDups, List.eraseDupsBy, List.eraseDupsBy.loop, Expr.pos, hyx, hzx, hzy])).trans ?_
  rw [hf, hc]
  simp [hb, hbx, hby, hbz, hl, hl2, List.eraseDups, List.eraseDupsBy, List.eraseDupsBy.loop, Expr.pos, hyx, hzx, hzy]
theorem slot_inj {N : List Str} {x y : Str} {i j : Nat} (h1 : slotOf x N = some i) (h2 : slotOf y N = some j) (h : Nat.beq i j = false) : i ≠ j ∧ x ≠ y := by
  have hij : i ≠ j := fun e => by rw [e, Nat.beq_refl] at h; cases h
  refine ⟨hij, fun e => ?_⟩
  subst e
  rw [h1] at h2
  exact hij (Option.some.inj h2)
theorem sw_comp {elt : Expr} {gs : List Comprehension} {scope : Scope} {p tp : Pos} {t : Str} {line : Nat} {env : Env} (he : env.scope = C.sc) (hk : C.sc.kind = .function) : swapsWith (.ListComp elt gs scope p) (some (.Name t tp)) line env = pure (swC C t tp scope p) := by
  have hb : (env.blockKind == .function) = true := by
    unfold Env.blockKind
    rw [he, hk]
    rfl
  have e2 : (env.kindOf t == some .local) = locB C t := by
    show (env.scope.names.lookup t == some .local) = decide (C.sc.names.lookup t = some .local)
    rw [he]
    exact Bool.beq_eq_decide_eq _ _
  show (pure (env.blockKind == .function && env.kindOf t == some .local && tp.line == p.line && !(scope.names.any fun (n, k) => n == t && (k == .local || k == .cell))) : Sem Bool) = _
  rw [hb, e2, Bool.beq_eq_decide_eq]
  unfold swC
  rw [hk]
  simp
end
/-! ### statements -/
section
variable {G : Gt} {cf : CF} {C : Ct} {f : TrS} {n w me : Nat}
theorem set_ok' {tg e : Expr} {x : Sm} {pos : Pos} (h : setT G n C tg e = some x) (h1 : ∀ X, Good G cf C X → (assignEach [tg] X.env).map (·.2) = [assign tg X.env]) (hw : ∀ X, Good G cf C X → swappedStores [tg] e X.env = pure none) (hs : isCompE e = true → isNameE tg = false) : SSnd G cf w me C (.Assign [tg] e pos) x := by
  unfold setT at h
  split at h
  · rename_i p y h2 h3
    split at h
    · cases h
    · cases h
      have s := trE_ok G cf n C e y h3
      exact ssnd_all fun X g k => s_set (s.pe X g me) ((trP_ok g 8).1 tg p h2).1 (sw_other hs) (hw X g) (h1 X g)
  · cases h
theorem par_ok {ts vs : List Expr} {is : List Nat} {xs : List E} {k k2 : Nat} {q q2 pos : Pos} (h : parT C ts vs = some is) (ha : args (trE G n) C vs = some xs) : SSnd G cf w me C (.Assign [.Tuple ts k q] (.Tuple vs k2 q2) pos) (.par is xs) := by
  unfold parT at h
  split at h
  · cases h
  · rename_i hb
    simp only [Bool.or_eq_true, not_or, Bool.not_eq_true, Bool.not_eq_true', Bool.not_eq_false, decide_eq_true_eq, decide_eq_false_iff_not, Decidable.not_not] at hb
    obtain ⟨⟨⟨b1, b2⟩, b3⟩, b4⟩ := hb
    split at h
    · rename_i x px y py a b
      split at h
      · rename_i i j h1 h2
        split at h
        · rename_i hc
          simp only [Bool.and_eq_true, decide_eq_true_eq, Bool.not_eq_true'] at hc
          obtain ⟨⟨⟨c1, c2⟩, c3⟩, c4⟩ := hc
          cases h
          obtain ⟨d1, d2⟩ := slot_inj h1 h2 c4
          refine ssnd_all fun X g k => ?_
          have lx : X.env.scope.names.lookup x = some .local := by rw [g.sc]; exact isK_iff.mp c1
          have ly : X.env.scope.names.lookup y = some .local := by rw [g.sc]; exact isK_iff.mp c2
          have nd : X.N.Nodup := by rw [g.N]; exact g.nd
          exact s_par2 g.calm nd (by rw [g.N]; exact slot_ok h1) (by rw [g.N]; exact slot_ok h2) d1 lx ly (args_ok (trE_ok G cf n) ha X g me) (sws_par2 (by rw [g.sc]; exact b4) lx ly c3 d2 b3 b1 b2)
        · cases h
      · cases h
    · rename_i x px y py z pz a b c
      split at h
      · rename_i i j l h1 h2 h3
        split at h
        · rename_i hc
          simp only [Bool.and_eq_true, decide_eq_true_eq, Bool.not_eq_true'] at hc
          obtain ⟨⟨⟨⟨⟨⟨⟨c1, c2⟩, c3⟩, c4⟩, c5⟩, c6⟩, c7⟩, c8⟩ := hc
          cases h
          obtain ⟨d1, e1⟩ := slot_inj h1 h2 c6
          obtain ⟨d2, e2⟩ := slot_inj h1 h3 c7
          obtain ⟨d3, e3⟩ := slot_inj h2 h3 c8
          refine ssnd_all fun X g k => ?_
          have lx : X.env.scope.names.lookup x = some .local := by rw [g.sc]; exact isK_iff.mp c1
          have ly : X.env.scope.names.lookup y = some .local := by rw [g.sc]; exact isK_iff.mp c2
          have lz : X.env.scope.names.lookup z = some .local := by rw [g.sc]; exact isK_iff.mp c3
          have nd : X.N.Nodup := by rw [g.N]; exact g.nd
          exact s_par3 g.calm nd (by rw [g.N]; exact slot_ok h1) (by rw [g.N]; exact slot_ok h2) (by rw [g.N]; exact slot_ok h3) d1 d2 d3 lx ly lz (args_ok (trE_ok G cf n) ha X g me) (sws_par3 (by rw [g.sc]; exact b4) lx ly lz c4 c5 e1 e2 e3 b3 b1 b2)
        · cases h
      · cases h
    · cases h
end
end Pi
set_option maxRecDepth 100000
set_option maxHeartbeats 4000000
/-! Pi24: the translation is sound: all statements. -/
namespace Pi
open PySem L2 PySem.Spec PyProof.Rows

section
variable {G : Gt} {cf : CF} {C : Ct} {f : TrS} {n w me : Nat}
theorem ps_kind {X : Cx} {st : Stmt} {t : TS} (h : X.env.scope.kind = .function → PS X st t) : PS X st t := ⟨fun pins s σ H D I q => (h I.ok.kind).run pins s σ H D I q⟩
theorem step_comp {elt : Expr} {gs : List Comprehension} {scope : Scope} {pos : Pos} {fe : TrE} {y : E} (h : trStep G fe C (.ListComp elt gs scope pos) = some y) : ∃ tg iter ifs, gs = [⟨tg, iter, ifs, 0⟩] ∧ compT G fe C elt tg iter ifs scope pos = some y := by
  unfold trStep at h
  split at h
  all_goals first | (rename_i e; cases e; done) | skip
  · rename_i e
    cases e
    exact ⟨_, _, _, rfl, h⟩
  · cases h
theorem setc_ok {t : Str} {tp : Pos} {e : Expr} {x : Sm} {pos : Pos} (hc : isCompE e = true) (h : setT G n C (.Name t tp) e = some x) : SSnd G cf w me C (.Assign [.Name t tp] e pos) x := by
  unfold setT at h
  split at h
  · rename_i p y h2 h3
    split at h
    · cases h
    · cases h
      refine ssnd_all fun X g k => ps_kind fun hk => ?_
      have hk : C.sc.kind = .function := by rw [← g.sc]; exact hk
      cases n with
      | zero => cases h3
      | succ n =>
        cases e <;> first | (cases hc; done) | skip
        · rename_i elt gs scope q
          obtain ⟨tg, iter, ifs, rfl, h4⟩ := step_comp (show trStep G (trE G n) C _ = some y from h3)
          have sw := sw_comp (C := C) (elt := elt) (gs := [⟨tg, iter, ifs, 0⟩]) (scope := scope) (p := q) (tp := tp) (t := t) (line := pos.line) g.sc hk
          cases hsw : swC C t tp scope q with
          | false =>
            rw [hsw] at sw
            have s := trE_ok G cf (n + 1) C _ y h3
            exact s_set (s.pe X g me) ((trP_ok g 8).1 _ p h2).1 sw rfl rfl
          | true =>
            rw [hsw] at sw
            cases me with
            | zero => exact ps_zero fun _ _ => rfl
            | succ me =>
              obtain ⟨b, vs, tt, it, ifs', el, rfl, hcc⟩ := comp_snd (trE_ok G cf n) h4
              obtain ⟨t1, t2, ok⟩ := hcc X g me
              simp only [swC, Bool.and_eq_true] at hsw
              have hl : X.env.scope.names.lookup t = some .local := by rw [g.sc]; exact isK_iff.mp hsw.1.1.2
              simp only [trP] at h2
              split at h2
              · rename_i i hi
                split at h2
                · cases h2
                  exact s_setComp b ok (by rw [g.N]; exact slot_ok hi) hl sw
                · cases h2
              · cases h2
        · exact absurd h3 (by intro z; cases z)
        · exact absurd h3 (by intro z; cases z)
  · cases h
theorem asg_ok {tg e : Expr} {x : Sm} {pos : Pos} (h : asgT G n C tg e = some x) : SSnd G cf w me C (.Assign [tg] e pos) x := by
  unfold asgT at h
  split at h
  · rename_i ts k q vs k2 q2
    split at h
    · rename_i is h1
      split at h
      · rename_i xs h2
        cases h
        exact par_ok h1 h2
      · cases h
    · split at h
      · rename_i hb
        exact set_ok' h (fun X g => rfl) (fun X g => sws_none hb) fun z => by cases z
      · cases h
  · rename_i o i q
    split at h
    · cases h
    · rename_i hb
      simp only [Bool.or_eq_true, not_or, Bool.not_eq_true] at hb
      split at h
      · rename_i y ya yb h1 h2 h3
        cases h
        have s := trE_ok G cf n C e y h1
        have so := trE_ok G cf n C o ya h2
        have si := trE_ok G cf n C i yb h3
        exact ssnd_all fun X g k => s_sub (s.pe X g me) (so.pe X g me) (si.pe X g me) (fun v => by
          have hi := hb.1
          cases i <;> first | rfl | cases hi) (sw_other fun z => by rw [hb.2] at z; cases z) (sws_other (.inl ⟨rfl, rfl⟩))
      · cases h
  · rename_i n1 n2
    split at h
    · cases h
    · rename_i hb
      simp only [Bool.or_eq_true, not_or, Bool.not_eq_true, Bool.and_eq_true, not_and, Bool.not_eq_true', Bool.not_eq_false'] at hb
      cases hc : isCompE e with
      | true =>
        have hn := hb.2 hc
        obtain ⟨t, tp, rfl⟩ : ∃ t tp, tg = .Name t tp := by
          cases tg <;> first | exact ⟨_, _, rfl⟩ | exact absurd rfl hn
        exact setc_ok hc h
      | false =>
        refine set_ok' h (fun X g => ?_) (fun X g => sws_other ?_) fun z => by rw [hc] at z; cases z
        · cases tg <;> first | rfl | skip
          all_goals (simp [setT, trP] at h)
        · have : isTupE tg = false ∨ isTupE e = false := by
            cases tg <;> first | exact .inl rfl | skip
            cases e <;> first | exact .inr rfl | skip
            exact (n2 _ _ _ _ _ _ rfl rfl).elim
          exact this.imp (fun z => ⟨z, hb.1⟩) id
end
end Pi
set_option maxRecDepth 100000
set_option maxHeartbeats 4000000
/-! Pi25: a table of defs, each as its translation says. -/
namespace Pi
open PySem L2 PySem.Spec PyProof.Rows

section
variable {G : Gt} {cf : CF} {C : Ct} {f : TrS} {n w me : Nat}
theorem sw_exp {e : Expr} {line : Nat} {env : Env} (h : isCompE e = false) : swapsWith e none line env = pure false := by
  cases e <;> first | rfl | cases h
theorem sst_step (hf : SSND G cf w me f) : SSND G cf w me (trSt G n f) := by
  intro C st x h
  unfold trSt at h
  split at h
  · cases h
    exact ssnd_all fun X g k => ps_imp ps_doc fun D σ H ⟨μ, ρ, S, sr, er, q⟩ => oOk (D := D) (.nx σ) q sr er
  · split at h
    · cases h
    · rename_i hc
      obtain ⟨y, h1, rfl⟩ := Option.map_eq_some_iff.mp h
      have s := trE_ok G cf n C _ y h1
      exact ssnd_all fun X g k => s_exp (s.pe X g me) (sw_exp (by simpa using hc))
  · exact asg_ok h
  · split at h
    · rename_i y z u h1 h2 h3
      cases h
      have s := trE_ok G cf n C _ y h1
      exact ssnd_all fun X g k => s_iff (s.pt X g me) (stmts_ok hf h2 X g k) (stmts_ok hf h3 X g k)
    · cases h
  · split at h
    · rename_i y z h1 h2
      cases h
      have s := trE_ok G cf n C _ y h1
      exact ssnd_all fun X g k => s_whl w g.own (s.pt X g me) (stmts_ok hf h2 X g k)
    · cases h
  · split at h
    · rename_i y p z h1 h2 h3
      split at h
      · cases h
      · rename_i hb
        cases h
        have s := iter_ok (trE_ok G cf n) h1
        exact ssnd_all fun X g k => s_for g.own g.calm (s X g me) ((trP_ok g 8).1 _ p h2).1 (stmts_ok hf h3 X g k) (fold_of (by simpa using hb))
    · cases h
  · obtain ⟨y, h1, rfl⟩ := Option.map_eq_some_iff.mp h
    have s := trE_ok G cf n C _ y h1
    exact ssnd_all fun X g k => s_ret (s.pe X g me)
  · cases h; exact ssnd_all fun X g k => s_retN
  · cases h; exact ssnd_all fun X g k => s_pas
  · cases h; exact ssnd_all fun X g k => s_brk
  · cases h; exact ssnd_all fun X g k => s_cnt
  · split at h
    · rename_i y ss h1 h2
      cases h
      have s := trE_ok G cf n C _ y h1
      exact ssnd_all fun X g k => s_mat g.un (s.pe X g me) (cases_ok hf g k h2)
    · cases h
  · cases h
theorem trS_ok (G : Gt) (cf : CF) (w me n : Nat) : ∀ m, SSND G cf w me (trS G n m)
  | 0 => fun C st x h => (by cases h)
  | m + 1 => sst_step (trS_ok G cf w me n m)
end

/-! ### the table -/
/-- a def of the text as the table has it -/
structure Df where
  name : Str
  ps : List Str
  N : List Str
  st : Stmt
  ir : List Sm
def Df.fd (d : Df) : FD := ⟨d.ps.length, d.N.length, d.ir⟩
/-- what is checked of a def by computing -/
structure DfOk (G : Gt) (d : Df) : Prop where
  sc : FnScope d.N d.ps (defScope d.st)
  tr : stmts (trS G 60 30) ⟨d.N, defScope d.st, fun _ => true⟩ (defBody d.st) = some d.ir
  bi : ∀ (kV doc pm : Value) (an : Option Addr) (cdv ct : Value) (us : List Value), us.length = d.ps.length → bindArgs (PySem.W.fnOf d.name d.name (defArgs d.st) (defBody d.st) (defScope d.st) .none kV doc pm an cdv ct) ⟨us, []⟩ = pure (d.ps.zip us)
/-- the defs stand in the module -/
structure Mods (K : PySem.W.Frag) (mg : Str → Option Value) (G : Gt) (T : List Df) (fa : Nat → Addr) (fd : Nat → FuncData) : Prop where
  def_ : ∀ (i : Nat) (d : Df), T[i]? = some d → FunD K d.name d.name (defArgs d.st) (defBody d.st) (defScope d.st) [] [] (fa i) (fd i)
  ok : ∀ (i : Nat) (d : Df), T[i]? = some d → DfOk G d
  fns : ∀ (x : Str) (i : Nat), fnOfN x G.fns = some i → ∃ d : Df, T[i]? = some d ∧ mg x = some (.ref (fa i))
  free : ∀ x, (G.free.any fun y => eqN y x) = true → mg x = none
section
variable {P : Program} {w : World} {K : PySem.W.Frag} {mg : Str → Option Value} {base : Heap} {G : Gt} {T : List Df} {fa : Nat → Addr} {fd : Nat → FuncData} {wt : Nat}
theorem call_len {T : List FD} {w d i : Nat} {vs : List PV} {S : Store} {x : FD} (hx : T[i]? = some x) (h : vs.length ≠ x.np) : call T w d i vs S = .no := by
  cases d with
  | zero => rfl
  | succ d =>
    show callStep T w (call T w d) i vs S = .no
    unfold callStep
    rw [hx]
    simp only
    rw [if_neg]
    intro z
    exact h (Nat.eq_of_beq_eq_true z)
theorem tab_ok (M : Mods K mg G T fa fd) : ∀ (k i : Nat) (d : Df), T[i]? = some d → FnG P w K mg base k (fa i) (fd i) d.ps (fun vs S => call (T.map Df.fd) wt k i vs S)
  | 0, i, d, hd => FnG.none fun _ _ => rfl
  | k + 1, i, d, hd => by
    have F := M.def_ i d hd
    have O := M.ok i d hd
    have e : (fun vs S => call (T.map Df.fd) wt (k + 1) i vs S) = fun vs S => if Nat.beq vs.length d.ps.length then retOf (xss (xe (ev (call (T.map Df.fd) wt k) 60) wt 20) d.ir (vs.map some ++ List.replicate (d.N.length - vs.length) none) S) else .no := by
      funext vs S
      show callStep (T.map Df.fd) wt (call (T.map Df.fd) wt k) i vs S = _
      unfold callStep
      rw [List.getElem?_map, hd]
      rfl
    rw [e]
    refine fnG_of (mb := fun ρ S => xss (xe (ev (call (T.map Df.fd) wt k) 60) wt 20) d.ir ρ S) F O.sc fun cdv A outer s H hr hg => ?_
    refine stmts_ok (trS_ok G (call (T.map Df.fd) wt k) wt 60 60 30) O.tr _ ?_ 20
    exact {
      N := rfl
      nd := O.sc.nd
      sc := rfl
      fn := fun _ _ => rfl
      calm := rfl
      un := by
        have q := hr.un
        show (A.deeper _).units + 65 < cLine
        omega
      gd := hg
      xe := rfl
      free := M.free
      fns := fun x j hj => by
        obtain ⟨d', hd', hm⟩ := M.fns x j hj
        have F' := M.def_ j d' hd'
        have O' := M.ok j d' hd'
        exact ⟨fa j, fd j, d'.ps, k, hm, F'.kp, F'.bindsN O'.bi, tab_ok M k j d' hd', hr, fun vs S h => call_len (x := d'.fd) (by rw [List.getElem?_map, hd']; rfl) h⟩ }
end
end Pi
set_option maxRecDepth 100000
set_option maxHeartbeats 4000000
/-! Pi26: the law's own call, from the table's answer at a script. -/
namespace Pi
open PySem L2 PySem.Spec PyProof.Rows

/-- nothing of the store -/
def mu0 : Mu := ⟨[], []⟩
def S0 : Store := ⟨[]⟩
theorem not_mu0 (a : Addr) : a ∉ mu0 := fun z => z.elim (by simp [mu0]) (by simp [mu0])
theorem sr0 {K : PySem.W.Frag} {H : Hp} : SR K H mu0 S0 := ⟨List.nodup_nil, rfl, fun b hb => (by cases hb), fun n a h => (by simp [mu0] at h)⟩
section
variable {P : Program} {w : World} {K : PySem.W.Frag} {mg mb : Str → Option Value} {k : Nat} {fa a : Addr} {fd : FuncData} {x : Str} {m : List PV → Store → Res PV} {s : Shared} {vs : List Value} {ns : List Int}
/-- from an abstract heap that tracks the script at most -/
theorem lawG_at (KX : K.In s.heap) (hns : s.heap.Ns mainGlobals mg) (hb : s.heap.Ns builtinsNs mb) (hbb : ∀ x : Str, x ≠ "__name__" → mb x = bootBuiltins x) (hlim : s.heap.NoLimit) (hg : s.gens = #[])
    (ha : s.heap.get? a = some { cls := .type "list", data := .seq vs.toArray }) (hr : Room k callerA)
    (F : ∀ base : Heap, K.In base → base.Ns mainGlobals mg → FnG P w K mg base k fa fd [x] m) (hbind : ∀ (s : Shared) (u : Value), BindsTo s fd ⟨[u], []⟩ [(x, u)])
    {H : Hp} (hok : HOk P w H s.heap) (hA : ∀ b, H b ≠ none → b = a ∧ (∃ o xs, H b = some (.frz o (.lst xs))) ∧ K.lookup a = none) (rep : Rep K H mu0 (.scr ns) (.ref a)) {S' : Store} (hm : m [.scr ns] S0 = .ok (.bl true) S') :
    codeAny (model P w) callerA (.call (.ref fa) ⟨[.ref a], []⟩) (fun r s' => r = .ok (.ret (.bool true)) ∧ OldK s.heap s'.heap ∧ s'.os = s.os ∧ AllBare s'.gens) s := by
  -- what is not tracked stays in the base
  have stays : ∀ {b : Addr} {o : Obj}, s.heap.get? b = some o → (b = a → o ≠ { cls := .type "list", data := .seq vs.toArray } ∨ K.lookup a ≠ none) → (hidT s.heap H).get? b = some o := fun {b o} e h => by
    refine hidT_get e ?_
    cases q : H b with
    | none => rfl
    | some u =>
      obtain ⟨z, _, hk⟩ := hA b (by rw [q]; exact fun z => nomatch z)
      rcases h z with h | h
      · rw [z, ha] at e
        exact absurd (Option.some.inj e).symm h
      · exact absurd hk h
  have ns_ : ∀ {b : Addr} {m : Str → Option Value}, s.heap.Ns b m → (hidT s.heap H).Ns b m := fun {b m} ⟨o, es, ep, e, d, r⟩ =>
    ⟨o, es, ep, stays e fun _ => .inl fun z => (by rw [z] at d; cases d), d, r⟩
  have inb : K.In (hidT s.heap H) := fun b o e => stays (KX b o e) fun z => .inr (by rw [← z, e]; exact fun q => nomatch q)
  obtain ⟨mc, l1, l2⟩ := hlim
  have env : Env0 P w K mg (hidT s.heap H) callerA [] s H :=
    { frames := rfl, mod := ⟨inb, ns_ hns, ⟨mb, ns_ hb, hbb⟩, ⟨mc, ns_ l1, l2⟩⟩, bs := fun b o e => of_hidT e, bsz := Nat.le_of_eq (hidT_size _ _), funs := trivial, frf := (fun b z => nomatch z), hok := hok, bare := .of_eq hg }
  have run := (F _ inb (ns_ hns)).run callerA [] s H ⟨[.ref a], []⟩ [.ref a] [.ref a] (fun v _ => v = .bl true) hr rfl env (hbind s (.ref a)) (.cons rfl .nil) rfl
    ⟨mu0, S0, [.scr ns], sr0, .cons rep .nil, by
      show Fin K WF (Rep K) (m [.scr ns] S0) H mu0 _
      rw [hm]
      exact fun H' μ' u _ _ r => by cases r; rfl⟩
  refine codeAny_mono run fun r s' h => ?_
  match r, h with
  | .error e, h => exact (h : False).elim
  | .ok .next, h => exact (h : False).elim
  | .ok .brk, h => exact (h : False).elim
  | .ok .cont, h => exact (h : False).elim
  | .ok (.ret u), h =>
    obtain ⟨v, H', os, bare, un, hok', r', q⟩ := h
    cases q
    cases (show u = Value.bool true from r')
    refine ⟨rfl, OldK.of_keep fun b o e => ?_, os, bare⟩
    cases q : H b with
    | none => exact un.keep b o e q (fun z => nomatch z) (fun z => nomatch z)
    | some u =>
      obtain ⟨_, ⟨ob, xs, z⟩, _⟩ := hA b (by rw [q]; exact fun z => nomatch z)
      have e1 := (hok b _ z).1
      have e2 := (hok' b _ (un.frzs b ob _ z)).1
      rw [e2, ← e1, e]
theorem lawG (KX : K.In s.heap) (hns : s.heap.Ns mainGlobals mg) (hb : s.heap.Ns builtinsNs mb) (hbb : ∀ x : Str, x ≠ "__name__" → mb x = bootBuiltins x) (hlim : s.heap.NoLimit) (hg : s.gens = #[])
    (ha : s.heap.get? a = some { cls := .type "list", data := .seq vs.toArray }) (hi : IntsAre vs ns) (hl : ns.length ≤ sizeLine) (hr : Room k callerA)
    (F : ∀ base : Heap, K.In base → base.Ns mainGlobals mg → FnG P w K mg base k fa fd [x] m) (hbind : ∀ (s : Shared) (u : Value), BindsTo s fd ⟨[u], []⟩ [(x, u)]) {S' : Store} (hm : m [.scr ns] S0 = .ok (.bl true) S') :
    codeAny (model P w) callerA (.call (.ref fa) ⟨[.ref a], []⟩) (fun r s' => r = .ok (.ret (.bool true)) ∧ OldK s.heap s'.heap ∧ s'.os = s.os ∧ AllBare s'.gens) s := by
  have rv := vals_ints hi
  have lz : ns.length ≤ szl := szl_eq ▸ hl
  cases hk : K.lookup a with
  | some o =>
    have e : o = { cls := .type "list", data := .seq vs.toArray } := Option.some.inj ((KX a o hk).symm.trans ha)
    refine lawG_at (H := fun _ => none) KX hns hb hbb hlim hg ha hr F hbind (fun b u z => nomatch z) (fun b z => absurd rfl z) (.scr (.inr ⟨o, vs.toArray, 0, hk, by rw [e], by rw [e], by rw [e], ?_, by simpa using rv⟩) lz) hm
    rw [List.size_toArray, ← rv.length, List.length_map]
    exact hl
  | none =>
    have h1 : upd (fun _ => none) a (.frz { cls := .type "list", data := .seq vs.toArray } (.lst (ns.map V.int))) a = some (.frz { cls := .type "list", data := .seq vs.toArray } (.lst (ns.map V.int))) := upd_same
    refine lawG_at (H := upd (fun _ => none) a (.frz { cls := .type "list", data := .seq vs.toArray } (.lst (ns.map V.int)))) KX hns hb hbb hlim hg ha hr F hbind (fun b u z => ?_) (fun b z => ?_) (.scr (.inl ⟨.inr ⟨_, h1⟩, not_mu0 a⟩) lz) hm
    · by_cases e : b = a
      · subst e
        rw [h1] at z
        cases z
        exact ⟨ha, by rw [List.length_map]; exact hl, vs, 0, rv, ha⟩
      · rw [upd_ne e] at z; cases z
    · by_cases e : b = a
      · subst e
        exact ⟨rfl, ⟨_, _, h1⟩, hk⟩
      · rw [upd_ne e] at z; exact absurd rfl z
end
/-- a law: the written part, the function object, the table's answer -/
theorem walkG {l : PySem.W.OpenLaw} {n k : Nat} {q : Program} {loose : List Str} {XP : (Str → Option Value) → Heap → Prop} {YP : World → Heap → Prop} {d : DefRec} {x : Str} (hn : l.most = some n) (hn2 : n ≤ sizeLine) (hdf : d.params.defaults = []) (hr : Room k callerA) (m : List PV → Store → Res PV)
    (hm : ∀ ns : List Int, ns.length ≤ n → ∃ S', m [.scr ns] S0 = .ok (.bl true) S')
    (F : ∀ (w : World) (mg : Str → Option Value) (fa : Addr) (h : Heap), YP w h → h.Ns mainGlobals mg → mg d.name = some (.ref fa) →
      ∃ (K : PySem.W.Frag) (fd : FuncData), K.In h ∧ (∀ (s : Shared) (u : Value), BindsTo s fd ⟨[u], []⟩ [(x, u)]) ∧ ∀ base : Heap, K.In base → base.Ns mainGlobals mg → FnG l.prog w K mg base k fa fd [x] m) :
    PySem.W.WalkO q loose XP YP l.row.toRowW d [] (fun f vs => PySem.call f vs) := by
  refine Att.attach_call hn hdf fun w s₀ s₁ mg mb fa o pm cd doc a vs ns G Y ho hd hcd hmg hobj hints hlen hg => ?_
  obtain ⟨K, fd, KX, hb, hF⟩ := F w mg fa _ Y G.T.g hmg
  obtain ⟨S', e⟩ := hm ns hlen
  exact lawG KX G.T.g G.T.b G.T.builtins G.T.nolimit hg hobj hints (Nat.le_trans hlen hn2) hr hF hb e
end Pi
set_option maxRecDepth 1000000
set_option maxHeartbeats 0
/-! K1: the law of k04 in the small language. -/
namespace K04
open PySem Pi
/-- is_integer -/
def ir0 : List Sm := [(.ret (.andd (.isi (.var 0) ["int"]) (.nott (.isi (.var 0) ["bool"]))))]
/-- place_of -/
def ir1 : List Sm := [(.ret (.meth .index (.comp false [2] (.nm 2) (.var 0) none (.idx (.var 2) (.con (.int 0)))) [(.var 1)]))]
/-- value_in -/
def ir2 : List Sm := [(.iff (.call 0 [(.var 2)]) [(.ret (.var 2))] []), (.set (.star [(.nm 3), (.nm 4)] 5) (.var 2)), (.iff (.cmp .eq (.var 3) (.con (.str ⟨#[105, 116, 101, 109]⟩))) [(.ret (.idx (.var 1) (.call 1 [(.var 0), (.var 4)])))] []), (.par [6, 7] [(.call 2 [(.var 0), (.var 1), (.var 4)]), (.call 2 [(.var 0), (.var 1), (.idx (.var 5) (.con (.int 0)))])]), (.iff (.cmp .eq (.var 3) (.con (.str ⟨#[43]⟩))) [(.ret (.bin .add (.var 6) (.var 7)))] []), (.ret (.ifx (.cmp .eq (.var 3) (.con (.str ⟨#[45]⟩))) (.bin .sub (.var 6) (.var 7)) (.bin .mul (.var 6) (.var 7))))]
/-- holds_in -/
def ir3 : List Sm := [(.set (.star [(.nm 3), (.nm 4)] 5) (.var 2)), (.mat (.var 3) [(some (.str ⟨#[105, 110]⟩), [(.ret (.cmp .inn (.var 1) (.var 4)))]), (some (.str ⟨#[110, 111, 116]⟩), [(.ret (.nott (.call 3 [(.var 0), (.var 1), (.var 4)])))]), (some (.str ⟨#[97, 110, 100]⟩), [(.ret (.andd (.call 3 [(.var 0), (.var 1), (.var 4)]) (.call 3 [(.var 0), (.var 1), (.idx (.var 5) (.con (.int 0)))])))]), (some (.str ⟨#[111, 114]⟩), [(.ret (.orr (.call 3 [(.var 0), (.var 1), (.var 4)]) (.call 3 [(.var 0), (.var 1), (.idx (.var 5) (.con (.int 0)))])))])]), (.par [6, 7] [(.call 2 [(.var 0), (.var 1), (.var 4)]), (.call 2 [(.var 0), (.var 1), (.idx (.var 5) (.con (.int 0)))])]), (.ret (.ifx (.cmp .eq (.var 3) (.con (.str ⟨#[61]⟩))) (.cmp .eq (.var 6) (.var 7)) (.cmp .lt (.var 6) (.var 7))))]
/-- put_in -/
def ir4 : List Sm := [(.set (.nm 4) (.call 1 [(.var 0), (.var 2)])), (.set (.tup [(.nm 5), (.nm 6), (.nm 7)]) (.idx (.var 0) (.var 4))), (.set (.nm 8) (.blt .min2 [(.var 7), (.blt .max2 [(.var 6), (.call 2 [(.var 0), (.var 1), (.var 3)])])])), (.ret (.tup [(.star (.slc (.var 1) none (some (.var 4)))), (.var 8), (.star (.slc (.var 1) (some (.bin .add (.var 4) (.con (.int 1)))) none))]))]
/-- _law_reader -/
def ir5 : List Sm := [(.ret (.lst true [(.slc (.var 0) none (some (.con (.int 63)))), (.con (.int 0)), (.con (.int 0)), (.con (.int 0))]))]
/-- _law_draw -/
def ir6 : List Sm := [(.sub (.var 0) (.con (.int 3)) (.bin .add (.idx (.var 0) (.con (.int 3))) (.con (.int 1)))), (.iff (.cmp .gt (.idx (.var 0) (.con (.int 2))) (.con (.int 0))) [(.set (.nm 2) (.bin .mod (.blt .intOf [(.idx (.var 0) (.con (.int 2)))]) (.var 1))), (.sub (.var 0) (.con (.int 2)) (.bin .fdiv (.idx (.var 0) (.con (.int 2))) (.var 1))), (.ret (.var 2))] []), (.set (.nm 3) (.con (.int 53))), (.iff (.cmp .ne (.idx (.var 0) (.con (.int 0))) (.lst false [])) [(.set (.nm 3) (.idx (.idx (.var 0) (.con (.int 0))) (.bin .mod (.blt .intOf [(.idx (.var 0) (.con (.int 1)))]) (.blt .len [(.idx (.var 0) (.con (.int 0)))]))))] []), (.sub (.var 0) (.con (.int 1)) (.bin .add (.idx (.var 0) (.con (.int 1))) (.con (.int 1)))), (.iff (.andd (.cmp .ge (.var 3) (.bin .pow (.con (.int 10)) (.con (.int 18)))) (.cmp .le (.idx (.var 0) (.con (.int 1))) (.blt .len [(.idx (.var 0) (.con (.int 0)))]))) [(.sub (.var 0) (.con (.int 2)) (.bin .fdiv (.var 3) (.var 1))), (.ret (.bin .mod (.blt .intOf [(.var 3)]) (.var 1)))] []), (.set (.nm 4) (.bin .mod (.blt .intOf [(.bin .pow (.bin .add (.bin .add (.bin .mod (.blt .intOf [(.var 3)]) (.con (.int 2147483497))) (.bin .mul (.con (.int 7717)) (.idx (.var 0) (.con (.int 3))))) (.con (.int 13))) (.con (.int 5)))]) (.con (.int 2147483629)))), (.ret (.bin .mod (.blt .intOf [(.bin .fdiv (.bin .mod (.blt .intOf [(.bin .pow (.bin .add (.var 4) (.bin .mul (.con (.int 96001)) (.idx (.var 0) (.con (.int 3))))) (.con (.int 5)))]) (.con (.int 2147483647))) (.con (.int 64)))]) (.var 1)))]
/-- _law_leaf -/
def ir7 : List Sm := [(.iff (.cmp .eq (.call 6 [(.var 0), (.con (.int 3))]) (.con (.int 0))) [(.ret (.idx (.lst false [(.con (.int 0)), (.con (.int 1)), (.con (.int 2)), (.neg (.con (.int 1))), (.con (.int 3)), (.neg (.con (.int 7))), (.con (.int 20)), (.con (.int 1))]) (.call 6 [(.var 0), (.con (.int 8))])))] []), (.ret (.tup [(.con (.str ⟨#[105, 116, 101, 109]⟩)), (.idx (.idx (.var 1) (.call 6 [(.var 0), (.blt .len [(.var 1)])])) (.con (.int 0)))]))]
/-- _law_number -/
def ir8 : List Sm := [(.set (.nm 3) (.call 6 [(.var 0), (.con (.int 4))])), (.iff (.orr (.cmp .lt (.var 2) (.con (.int 1))) (.cmp .eq (.var 3) (.con (.int 0)))) [(.ret (.call 7 [(.var 0), (.var 1)]))] []), (.set (.nm 4) (.call 8 [(.var 0), (.var 1), (.bin .sub (.var 2) (.con (.int 1)))])), (.ret (.tup [(.idx (.lst false [(.con (.str ⟨#[43]⟩)), (.con (.str ⟨#[45]⟩)), (.con (.str ⟨#[42]⟩))]) (.bin .sub (.var 3) (.con (.int 1)))), (.var 4), (.call 8 [(.var 0), (.var 1), (.bin .sub (.var 2) (.con (.int 1)))])]))]
/-- _law_state -/
def ir9 : List Sm := [(.ret (.blt .tupleOf [(.comp false [2, 3, 4] (.tup [(.nm 2), (.nm 3), (.nm 4)]) (.var 1) none (.bin .add (.var 3) (.call 6 [(.var 0), (.bin .add (.bin .sub (.var 4) (.var 3)) (.con (.int 1)))])))]))]
/-- _law_condition -/
def ir10 : List Sm := [(.set (.nm 3) (.call 6 [(.var 0), (.con (.int 8))])), (.iff (.cmp .eq (.var 3) (.con (.int 7))) [(.ret (.tup [(.con (.str ⟨#[105, 110]⟩)), (.blt .tupleOf [(.blt .sortedSet [(.comp false [6] (.nm 6) (.rng1 (.call 6 [(.var 0), (.con (.int 4))])) none (.call 9 [(.var 0), (.var 1)]))])])]))] []), (.iff (.orr (.cmp .lt (.var 2) (.con (.int 1))) (.cmp .lt (.var 3) (.con (.int 3)))) [(.set (.nm 4) (.idx (.lst false [(.con (.str ⟨#[61]⟩)), (.con (.str ⟨#[60]⟩))]) (.call 6 [(.var 0), (.con (.int 2))]))), (.ret (.tup [(.var 4), (.call 7 [(.var 0), (.var 1)]), (.call 8 [(.var 0), (.var 1), (.bin .sub (.var 2) (.con (.int 1)))])]))] []), (.set (.nm 5) (.call 10 [(.var 0), (.var 1), (.bin .sub (.var 2) (.con (.int 1)))])), (.iff (.cmp .lt (.var 3) (.con (.int 5))) [(.ret (.tup [(.con (.str ⟨#[110, 111, 116]⟩)), (.var 5)]))] []), (.ret (.tup [(.idx (.lst false [(.con (.str ⟨#[97, 110, 100]⟩)), (.con (.str ⟨#[111, 114]⟩))]) (.bin .sub (.var 3) (.con (.int 5)))), (.var 5), (.call 10 [(.var 0), (.var 1), (.con (.int 0))])]))]
/-- _law_random_items -/
def ir11 : List Sm := [(.par [1, 2] [(.call 6 [(.var 0), (.con (.int 5))]), (.bin .sub (.call 6 [(.var 0), (.con (.int 4))]) (.con (.int 2)))]), (.iff (.cmp .lt (.var 1) (.con (.int 3))) [(.ret (.tup [(.tup [(.idx (.lst false [(.con (.str ⟨#[97]⟩)), (.con (.str ⟨#[99, 111, 105, 110, 115]⟩)), (.con (.str ⟨#[105, 116, 101, 109]⟩))]) (.var 1)), (.var 2), (.bin .add (.var 2) (.call 6 [(.var 0), (.con (.int 7))]))])]))] []), (.set (.nm 3) (.idx (.lst false [(.tup [(.con (.str ⟨#[99, 97, 114, 100, 115]⟩)), (.con (.str ⟨#[99, 111, 105, 110, 115]⟩))]), (.tup [(.con (.str ⟨#[109, 97, 105, 110]⟩)), (.con (.str ⟨#[122, 122, 122, 122, 122, 122, 122, 122]⟩))])]) (.bin .sub (.var 1) (.con (.int 3))))), (.ret (.tup [(.tup [(.idx (.var 3) (.con (.int 0))), (.var 2), (.bin .add (.var 2) (.call 6 [(.var 0), (.con (.int 4))]))]), (.tup [(.idx (.var 3) (.con (.int 1))), (.con (.int 0)), (.call 6 [(.var 0), (.con (.int 3))])])]))]
/-- _law_fixed_programs -/
def ir12 : List Sm := [(.set (.nm 0) (.tup [(.con (.str ⟨#[115, 101, 116]⟩)), (.con (.str ⟨#[99, 111, 105, 110, 115]⟩)), (.tup [(.con (.str ⟨#[45]⟩)), (.tup [(.con (.str ⟨#[105, 116, 101, 109]⟩)), (.con (.str ⟨#[99, 111, 105, 110, 115]⟩))]), (.con (.int 1))])])), (.set (.tup [(.nm 1), (.nm 2)]) (.tup [(.tup [(.con (.str ⟨#[99, 104, 101, 99, 107]⟩)), (.con (.str ⟨#[102, 117, 108, 108]⟩)), (.tup [(.con (.str ⟨#[60]⟩)), (.tup [(.con (.str ⟨#[105, 116, 101, 109]⟩)), (.con (.str ⟨#[99, 111, 105, 110, 115]⟩))]), (.con (.int 4))])]), (.tup [(.con (.str ⟨#[99, 104, 101, 99, 107]⟩)), (.con (.str ⟨#[110, 111, 110, 101]⟩)), (.tup [(.con (.str ⟨#[60]⟩)), (.con (.int 0)), (.tup [(.con (.str ⟨#[105, 116, 101, 109]⟩)), (.con (.str ⟨#[99, 111, 105, 110, 115]⟩))])])])])), (.set (.nm 3) (.tup [(.tup [(.con (.str ⟨#[99, 111, 105, 110, 115]⟩)), (.con (.int 0)), (.con (.int 4))])])), (.set (.nm 4) (.tup [(.var 3), (.tup []), (.tup [(.var 1), (.tup [(.con (.str ⟨#[114, 101, 112, 101, 97, 116]⟩)), (.con (.int 2)), (.tup [(.var 2), (.var 0)])]), (.tup [(.con (.str ⟨#[115, 97, 121]⟩)), (.tup [(.con (.str ⟨#[105, 116, 101, 109]⟩)), (.con (.str ⟨#[99, 111, 105, 110, 115]⟩))])])])])), (.set (.nm 5) (.tup [(.con (.str ⟨#[105, 102]⟩)), (.tup [(.con (.str ⟨#[105, 110]⟩)), (.tup [(.tup [(.con (.int 0))]), (.tup [(.con (.int 3))])])]), (.tup [(.tup [(.con (.str ⟨#[114, 101, 112, 101, 97, 116]⟩)), (.tup [(.con (.str ⟨#[105, 116, 101, 109]⟩)), (.con (.str ⟨#[99, 111, 105, 110, 115]⟩))]), (.tup [(.var 0), (.tup [(.con (.str ⟨#[99, 97, 108, 108]⟩)), (.con (.str ⟨#[111, 110, 101]⟩))])])])]), (.tup [(.var 1), (.tup [(.con (.str ⟨#[115, 97, 121]⟩)), (.con (.int 7))])])])), (.set (.nm 6) (.tup [(.tup [(.con (.str ⟨#[111, 110, 101]⟩)), (.tup [(.var 2), (.tup [(.con (.str ⟨#[115, 97, 121]⟩)), (.neg (.con (.int 1)))])])]), (.tup [(.con (.str ⟨#[116, 119, 111]⟩)), (.tup [(.tup [(.con (.str ⟨#[99, 97, 108, 108]⟩)), (.con (.str ⟨#[111, 110, 101]⟩))]), (.tup [(.con (.str ⟨#[105, 102]⟩)), (.idx (.var 2) (.con (.int 2))), (.tup []), (.tup [(.var 0)])])])])])), (.set (.nm 7) (.tup [(.var 5), (.tup [(.con (.str ⟨#[99, 97, 108, 108]⟩)), (.con (.str ⟨#[116, 119, 111]⟩))]), (.tup [(.con (.str ⟨#[105, 102]⟩)), (.tup [(.con (.str ⟨#[110, 111, 116]⟩)), (.idx (.var 1) (.con (.int 2)))]), (.tup []), (.tup [])]), (.tup [(.con (.str ⟨#[114, 101, 112, 101, 97, 116]⟩)), (.neg (.con (.int 1))), (.tup [])])])), (.set (.nm 8) (.tup [(.tup [(.tup [(.con (.str ⟨#[99, 104, 101, 99, 107]⟩)), (.neg (.con (.int 2))), (.con (.int 0))]), (.tup [(.con (.str ⟨#[105, 110]⟩)), (.con (.int 5)), (.con (.int 5))])]), (.tup [(.tup [(.con (.str ⟨#[109, 97, 105, 110]⟩)), (.tup [])])]), (.tup [(.tup [(.con (.str ⟨#[99, 104, 101, 99, 107]⟩)), (.con (.str ⟨#[115, 97, 121]⟩)), (.tup [(.con (.str ⟨#[105, 110]⟩)), (.tup [(.tup [(.neg (.con (.int 1))), (.con (.int 5))])])])]), (.tup [(.con (.str ⟨#[99, 97, 108, 108]⟩)), (.con (.str ⟨#[109, 97, 105, 110]⟩))])])])), (.ret (.lst false [(.var 4), (.tup [(.var 3), (.var 6), (.var 7)]), (.var 8), (.tup [(.tup [(.tup [(.con (.str ⟨#[97]⟩)), (.con (.int 0)), (.con (.int 0))])]), (.tup []), (.tup [])])]))]
/-- _law_told -/
def ir13 : List Sm := [(.iff (.nott (.isi (.var 2) ["tuple"])) [(.ret (.var 2))] []), (.iff (.cmp .eq (.idx (.var 2) (.con (.int 0))) (.con (.str ⟨#[105, 116, 101, 109]⟩))) [(.ret (.idx (.var 0) (.idx (.var 2) (.con (.int 1)))))] []), (.iff (.cmp .eq (.idx (.var 2) (.con (.int 0))) (.con (.str ⟨#[105, 110]⟩))) [(.ret (.cmp .ne (.comp false [4] (.nm 4) (.idx (.var 2) (.con (.int 1))) (some (.cmp .eq (.var 4) (.var 1))) (.var 4)) (.lst false [])))] []), (.set (.nm 3) (.comp false [6] (.nm 6) (.slc (.var 2) (some (.con (.int 1))) none) none (.call 13 [(.var 0), (.var 1), (.var 6)]))), (.iff (.cmp .eq (.idx (.var 2) (.con (.int 0))) (.con (.str ⟨#[110, 111, 116]⟩))) [(.ret (.nott (.idx (.var 3) (.con (.int 0)))))] []), (.set (.tup [(.nm 4), (.nm 5)]) (.var 3)), (.iff (.cmp .inn (.idx (.var 2) (.con (.int 0))) (.tup [(.con (.str ⟨#[97, 110, 100]⟩)), (.con (.str ⟨#[111, 114]⟩))])) [(.ret (.ifx (.cmp .eq (.idx (.var 2) (.con (.int 0))) (.con (.str ⟨#[97, 110, 100]⟩))) (.andd (.var 4) (.var 5)) (.orr (.var 4) (.var 5))))] []), (.iff (.cmp .inn (.idx (.var 2) (.con (.int 0))) (.tup [(.con (.str ⟨#[61]⟩)), (.con (.str ⟨#[60]⟩))])) [(.ret (.ifx (.cmp .eq (.idx (.var 2) (.con (.int 0))) (.con (.str ⟨#[61]⟩))) (.cmp .eq (.var 4) (.var 5)) (.cmp .lt (.var 4) (.var 5))))] []), (.ret (.idx (.dis [⟨#[43]⟩, ⟨#[45]⟩, ⟨#[42]⟩] [(.bin .add (.var 4) (.var 5)), (.bin .sub (.var 4) (.var 5)), (.bin .mul (.var 4) (.var 5))]) (.idx (.var 2) (.con (.int 0)))))]
/-- _law_value -/
def ir14 : List Sm := [(.ret (.call 13 [(.blt .dictZip [(.comp false [3] (.nm 3) (.var 0) none (.idx (.var 3) (.con (.int 0)))), (.var 1)]), (.var 1), (.var 2)]))]
/-- _law_put -/
def ir15 : List Sm := [(.set (.nm 4) (.call 14 [(.var 0), (.var 1), (.var 3)])), (.set (.nm 5) (.lst true [])), (.forr (.tup [(.nm 6), (.nm 7)]) (.zip (.var 0) (.var 1)) [(.exp (.meth .append (.var 5) [(.ifx (.cmp .ne (.idx (.var 6) (.con (.int 0))) (.var 2)) (.var 7) (.blt .min2 [(.blt .max2 [(.var 4), (.idx (.var 6) (.con (.int 1)))]), (.idx (.var 6) (.con (.int 2)))]))]))]), (.ret (.blt .tupleOf [(.var 5)]))]
/-- _law_hand_right -/
def ir16 : List Sm := [(.set (.tup [(.nm 0), (.nm 1), (.nm 2)]) (.tup [(.tup [(.tup [(.con (.str ⟨#[97]⟩)), (.neg (.con (.int 3))), (.con (.int 3))]), (.tup [(.con (.str ⟨#[98]⟩)), (.con (.int 0)), (.con (.int 4))])]), (.tup [(.con (.str ⟨#[105, 116, 101, 109]⟩)), (.con (.str ⟨#[97]⟩))]), (.tup [(.con (.str ⟨#[105, 116, 101, 109]⟩)), (.con (.str ⟨#[98]⟩))])])), (.set (.nm 3) (.tup [(.tup [(.con (.int 2)), (.con (.int 1))]), (.tup [(.neg (.con (.int 3))), (.con (.int 4))]), (.tup [(.con (.int 0)), (.con (.int 0))])])), (.set (.nm 4) (.lst false [(.tup [(.var 1), (.tup [(.con (.int 2)), (.neg (.con (.int 3))), (.con (.int 0))])]), (.tup [(.var 2), (.tup [(.con (.int 1)), (.con (.int 4)), (.con (.int 0))])]), (.tup [(.con (.int 7)), (.tup [(.con (.int 7)), (.con (.int 7)), (.con (.int 7))])]), (.tup [(.tup [(.con (.str ⟨#[43]⟩)), (.var 1), (.var 2)]), (.tup [(.con (.int 3)), (.con (.int 1)), (.con (.int 0))])])])), (.set (.nm 4) (.bin .add (.var 4) (.lst false [(.tup [(.tup [(.con (.str ⟨#[45]⟩)), (.var 1), (.var 2)]), (.tup [(.con (.int 1)), (.neg (.con (.int 7))), (.con (.int 0))])]), (.tup [(.tup [(.con (.str ⟨#[45]⟩)), (.var 2), (.var 1)]), (.tup [(.neg (.con (.int 1))), (.con (.int 7)), (.con (.int 0))])])]))), (.set (.nm 4) (.bin .add (.var 4) (.lst false [(.tup [(.tup [(.con (.str ⟨#[42]⟩)), (.var 1), (.var 2)]), (.tup [(.con (.int 2)), (.neg (.con (.int 12))), (.con (.int 0))])]), (.tup [(.tup [(.con (.str ⟨#[45]⟩)), (.con (.int 0)), (.tup [(.con (.str ⟨#[45]⟩)), (.var 1), (.con (.int 1))])]), (.tup [(.neg (.con (.int 1))), (.con (.int 4)), (.con (.int 1))])])]))), (.set (.nm 4) (.bin .add (.var 4) (.lst false [(.tup [(.tup [(.con (.str ⟨#[42]⟩)), (.tup [(.con (.str ⟨#[43]⟩)), (.var 1), (.con (.int 1))]), (.tup [(.con (.str ⟨#[45]⟩)), (.var 2), (.con (.int 2))])]), (.tup [(.neg (.con (.int 3))), (.neg (.con (.int 4))), (.neg (.con (.int 2)))])])]))), (.forr (.tup [(.nm 5), (.nm 6)]) (.var 4) [(.iff (.cmp .ne (.blt .repr [(.comp false [9] (.nm 9) (.var 3) none (.call 2 [(.var 0), (.var 9), (.var 5)]))]) (.blt .repr [(.blt (.listOf false) [(.var 6)])])) [(.ret (.con (.bl false)))] [])]), (.set (.nm 4) (.lst false [(.tup [(.tup [(.con (.str ⟨#[61]⟩)), (.var 1), (.var 2)]), (.tup [(.con (.bl false)), (.con (.bl false)), (.con (.bl true))])]), (.tup [(.tup [(.con (.str ⟨#[60]⟩)), (.var 1), (.var 2)]), (.tup [(.con (.bl false)), (.con (.bl true)), (.con (.bl false))])])])), (.set (.nm 4) (.bin .add (.var 4) (.lst false [(.tup [(.tup [(.con (.str ⟨#[110, 111, 116]⟩)), (.tup [(.con (.str ⟨#[60]⟩)), (.var 1), (.var 2)])]), (.tup [(.con (.bl true)), (.con (.bl false)), (.con (.bl true))])])]))), (.set (.nm 4) (.bin .add (.var 4) (.lst false [(.tup [(.tup [(.con (.str ⟨#[97, 110, 100]⟩)), (.tup [(.con (.str ⟨#[60]⟩)), (.con (.int 0)), (.var 2)]), (.tup [(.con (.str ⟨#[60]⟩)), (.var 1), (.con (.int 0))])]), (.tup [(.con (.bl false)), (.con (.bl true)), (.con (.bl false))])])]))), (.set (.nm 4) (.bin .add (.var 4) (.lst false [(.tup [(.tup [(.con (.str ⟨#[111, 114]⟩)), (.tup [(.con (.str ⟨#[61]⟩)), (.var 1), (.con (.int 2))]), (.tup [(.con (.str ⟨#[61]⟩)), (.var 2), (.con (.int 0))])]), (.tup [(.con (.bl true)), (.con (.bl false)), (.con (.bl true))])])]))), (.set (.nm 4) (.bin .add (.var 4) (.lst false [(.tup [(.tup [(.con (.str ⟨#[105, 110]⟩)), (.tup [])]), (.tup [(.con (.bl false)), (.con (.bl false)), (.con (.bl false))])]), (.tup [(.tup [(.con (.str ⟨#[105, 110]⟩)), (.tup [(.tup [(.neg (.con (.int 3))), (.con (.int 4))]), (.tup [(.con (.int 2)), (.con (.int 1))])])]), (.tup [(.con (.bl true)), (.con (.bl true)), (.con (.bl false))])])]))), (.set (.nm 4) (.bin .add (.var 4) (.lst false [(.tup [(.tup [(.con (.str ⟨#[105, 110]⟩)), (.slc (.tup [(.tup [(.con (.int 1)), (.con (.int 2))]), (.tup [(.con (.int 4)), (.neg (.con (.int 3)))])]) none (some (.con (.int 1))))]), (.tup [(.con (.bl false)), (.con (.bl false)), (.con (.bl false))])])]))), (.set (.nm 4) (.bin .add (.var 4) (.lst false [(.tup [(.tup [(.con (.str ⟨#[97, 110, 100]⟩)), (.tup [(.con (.str ⟨#[110, 111, 116]⟩)), (.tup [(.con (.str ⟨#[105, 110]⟩)), (.tup [(.tup [(.con (.int 0)), (.con (.int 0))])])])]), (.tup [(.con (.str ⟨#[60]⟩)), (.neg (.con (.int 4))), (.var 1)])]), (.tup [(.con (.bl true)), (.con (.bl true)), (.con (.bl false))])])]))), (.set (.nm 4) (.bin .add (.var 4) (.lst false [(.tup [(.tup [(.con (.str ⟨#[111, 114]⟩)), (.tup [(.con (.str ⟨#[105, 110]⟩)), (.tup [(.tup [(.con (.int 0)), (.con (.int 0))])])]), (.tup [(.con (.str ⟨#[60]⟩)), (.var 2), (.var 1)])]), (.tup [(.con (.bl true)), (.con (.bl false)), (.con (.bl true))])])]))), (.forr (.tup [(.nm 5), (.nm 6)]) (.var 4) [(.iff (.cmp .ne (.blt .repr [(.comp false [9] (.nm 9) (.var 3) none (.call 3 [(.var 0), (.var 9), (.var 5)]))]) (.blt .repr [(.blt (.listOf false) [(.var 6)])])) [(.ret (.con (.bl false)))] [])]), (.set (.nm 4) (.lst false [(.tup [(.con (.str ⟨#[97]⟩)), (.con (.int 1)), (.tup [(.con (.int 1)), (.con (.int 1)), (.con (.int 1))])]), (.tup [(.con (.str ⟨#[97]⟩)), (.con (.int 9)), (.tup [(.con (.int 3)), (.con (.int 3)), (.con (.int 3))])]), (.tup [(.con (.str ⟨#[97]⟩)), (.neg (.con (.int 9))), (.tup [(.neg (.con (.int 3))), (.neg (.con (.int 3))), (.neg (.con (.int 3)))])])])), (.set (.nm 4) (.bin .add (.var 4) (.lst false [(.tup [(.con (.str ⟨#[97]⟩)), (.con (.int 3)), (.tup [(.con (.int 3)), (.con (.int 3)), (.con (.int 3))])]), (.tup [(.con (.str ⟨#[97]⟩)), (.neg (.con (.int 3))), (.tup [(.neg (.con (.int 3))), (.neg (.con (.int 3))), (.neg (.con (.int 3)))])]), (.tup [(.con (.str ⟨#[98]⟩)), (.neg (.con (.int 1))), (.tup [(.con (.int 0)), (.con (.int 0)), (.con (.int 0))])])]))), (.set (.nm 4) (.bin .add (.var 4) (.lst false [(.tup [(.con (.str ⟨#[98]⟩)), (.con (.int 5)), (.tup [(.con (.int 4)), (.con (.int 4)), (.con (.int 4))])]), (.tup [(.con (.str ⟨#[98]⟩)), (.tup [(.con (.str ⟨#[43]⟩)), (.var 2), (.con (.int 1))]), (.tup [(.con (.int 2)), (.con (.int 4)), (.con (.int 1))])]), (.tup [(.con (.str ⟨#[97]⟩)), (.tup [(.con (.str ⟨#[42]⟩)), (.var 1), (.var 2)]), (.tup [(.con (.int 2)), (.neg (.con (.int 3))), (.con (.int 0))])])]))), (.set (.nm 4) (.bin .add (.var 4) (.lst false [(.tup [(.con (.str ⟨#[98]⟩)), (.tup [(.con (.str ⟨#[45]⟩)), (.var 1), (.var 2)]), (.tup [(.con (.int 1)), (.con (.int 0)), (.con (.int 0))])]), (.tup [(.con (.str ⟨#[97]⟩)), (.var 2), (.tup [(.con (.int 1)), (.con (.int 3)), (.con (.int 0))])])]))), (.forr (.tup [(.nm 7), (.nm 5), (.nm 6)]) (.var 4) [(.set (.nm 8) (.comp false [9, 10] (.tup [(.nm 9), (.nm 10)]) (.zip (.var 3) (.var 6)) none (.ifx (.cmp .eq (.var 7) (.con (.str ⟨#[97]⟩))) (.tup [(.var 10), (.idx (.var 9) (.con (.int 1)))]) (.tup [(.idx (.var 9) (.con (.int 0))), (.var 10)])))), (.iff (.cmp .ne (.blt .repr [(.comp false [9] (.nm 9) (.var 3) none (.call 4 [(.var 0), (.var 9), (.var 7), (.var 5)]))]) (.blt .repr [(.var 8)])) [(.ret (.con (.bl false)))] [])]), (.ret (.con (.bl true)))]
/-- _law_wide_states -/
def ir17 : List Sm := [(.set (.nm 0) (.tup [(.tup [(.con (.str ⟨#[97]⟩)), (.con (.int 0)), (.con (.int 5))]), (.tup [(.con (.str ⟨#[98]⟩)), (.neg (.con (.int 2))), (.con (.int 3))])])), (.set (.nm 1) (.blt .tupleOf [(.comp false [2] (.nm 2) (.rng1 (.con (.int 36))) none (.tup [(.bin .fdiv (.var 2) (.con (.int 6))), (.bin .sub (.bin .mod (.blt .intOf [(.var 2)]) (.con (.int 6))) (.con (.int 2)))]))])), (.forr (.nm 2) (.tup [(.con (.int 0)), (.con (.int 11)), (.con (.int 12)), (.con (.int 20)), (.con (.int 35))]) [(.set (.nm 3) (.lst false [(.call 3 [(.var 0), (.idx (.var 1) (.var 2)), (.tup [(.con (.str ⟨#[105, 110]⟩)), (.var 1)])])])), (.set (.nm 3) (.bin .add (.var 3) (.lst false [(.call 3 [(.var 0), (.idx (.var 1) (.var 2)), (.tup [(.con (.str ⟨#[105, 110]⟩)), (.bin .add (.slc (.var 1) none (some (.var 2))) (.slc (.var 1) (some (.bin .add (.var 2) (.con (.int 1)))) none))])])]))), (.iff (.cmp .ne (.bin .add (.var 3) (.lst false [(.call 3 [(.var 0), (.idx (.var 1) (.var 2)), (.tup [(.con (.str ⟨#[105, 110]⟩)), (.slc (.var 1) (some (.var 2)) (some (.bin .add (.var 2) (.con (.int 1)))))])])])) (.lst false [(.con (.bl true)), (.con (.bl false)), (.con (.bl true))])) [(.ret (.con (.bl false)))] [])]), (.ret (.con (.bl true)))]
/-- _law_same_state -/
def ir18 : List Sm := [(.set (.nm 0) (.tup [(.con (.str ⟨#[105, 116, 101, 109]⟩)), (.con (.str ⟨#[98]⟩))])), (.set (.nm 1) (.lst false [(.tup [(.tup [(.tup [(.con (.str ⟨#[98]⟩)), (.con (.int 0)), (.con (.int 5))]), (.tup [(.con (.str ⟨#[122]⟩)), (.con (.int 0)), (.con (.int 5))])]), (.con (.int 2))]), (.tup [(.tup [(.tup [(.con (.str ⟨#[97]⟩)), (.con (.int 0)), (.con (.int 5))]), (.tup [(.con (.str ⟨#[98]⟩)), (.con (.int 0)), (.con (.int 5))])]), (.con (.int 1))]), (.tup [(.tup [(.tup [(.con (.str ⟨#[98]⟩)), (.con (.int 0)), (.con (.int 5))])]), (.con (.int 2))])])), (.forr (.tup [(.nm 2), (.nm 3)]) (.bin .add (.var 1) (.lst false [(.tup [(.tup [(.tup [(.con (.str ⟨#[98]⟩)), (.con (.int 0)), (.con (.int 2))]), (.tup [(.con (.str ⟨#[99]⟩)), (.con (.int 0)), (.con (.int 1))])]), (.con (.int 2))])])) [(.set (.nm 4) (.slc (.tup [(.con (.int 2)), (.con (.int 1))]) none (some (.blt .len [(.var 2)])))), (.iff (.orr (.cmp .ne (.call 2 [(.var 2), (.var 4), (.var 0)]) (.var 3)) (.nott (.call 3 [(.var 2), (.var 4), (.tup [(.con (.str ⟨#[61]⟩)), (.var 0), (.var 3)])]))) [(.ret (.con (.bl false)))] []), (.iff (.cmp .ne (.call 4 [(.var 2), (.var 4), (.con (.str ⟨#[98]⟩)), (.con (.int 4))]) (.call 15 [(.var 2), (.var 4), (.con (.str ⟨#[98]⟩)), (.con (.int 4))])) [(.ret (.con (.bl false)))] [])]), (.ret (.con (.bl true)))]
/-- law -/
def ir19 : List Sm := [(.set (.nm 1) (.call 5 [(.var 0)])), (.iff (.orr (.nott (.call 16 [])) (.orr (.nott (.call 18 [])) (.nott (.call 17 [])))) [(.ret (.con (.bl false)))] []), (.set (.nm 2) (.comp true [10] (.nm 10) (.call 12 []) none (.idx (.var 10) (.con (.int 0))))), (.forr (.nm 3) (.rng1 (.con (.int 6))) [(.exp (.meth .append (.var 2) [(.call 11 [(.var 1)])]))]), (.forr (.nm 4) (.var 2) [(.forr (.nm 3) (.rng1 (.con (.int 4))) [(.par [5, 6] [(.call 9 [(.var 1), (.var 4)]), (.call 8 [(.var 1), (.var 4), (.con (.int 2))])]), (.par [7, 8] [(.call 10 [(.var 1), (.var 4), (.con (.int 2))]), (.idx (.idx (.var 4) (.call 6 [(.var 1), (.blt .len [(.var 4)])])) (.con (.int 0)))]), (.set (.nm 9) (.blt .repr [(.lst false [(.var 4), (.var 5), (.var 6), (.var 7)])])), (.iff (.cmp .ne (.blt .repr [(.call 2 [(.var 4), (.var 5), (.var 6)])]) (.blt .repr [(.call 14 [(.var 4), (.var 5), (.var 6)])])) [(.ret (.con (.bl false)))] []), (.iff (.cmp .ne (.blt .repr [(.call 3 [(.var 4), (.var 5), (.var 7)])]) (.blt .repr [(.call 14 [(.var 4), (.var 5), (.var 7)])])) [(.ret (.con (.bl false)))] []), (.iff (.cmp .ne (.blt .repr [(.call 4 [(.var 4), (.var 5), (.var 8), (.var 6)])]) (.blt .repr [(.call 15 [(.var 4), (.var 5), (.var 8), (.var 6)])])) [(.ret (.con (.bl false)))] []), (.iff (.cmp .ne (.blt .repr [(.lst false [(.var 4), (.var 5), (.var 6), (.var 7)])]) (.var 9)) [(.ret (.con (.bl false)))] [])])]), (.ret (.con (.bl true)))]
def irT : List FD := [⟨1, 1, ir0⟩, ⟨2, 3, ir1⟩, ⟨3, 8, ir2⟩, ⟨3, 8, ir3⟩, ⟨4, 9, ir4⟩, ⟨1, 1, ir5⟩, ⟨2, 5, ir6⟩, ⟨2, 2, ir7⟩, ⟨3, 5, ir8⟩, ⟨2, 5, ir9⟩, ⟨3, 7, ir10⟩, ⟨1, 4, ir11⟩, ⟨0, 9, ir12⟩, ⟨3, 7, ir13⟩, ⟨3, 4, ir14⟩, ⟨4, 8, ir15⟩, ⟨0, 11, ir16⟩, ⟨0, 4, ir17⟩, ⟨0, 5, ir18⟩, ⟨1, 11, ir19⟩]
def nm0 : List Str := ["thing"]
def nm1 : List Str := ["items", "name", "own"]
def nm2 : List Str := ["items", "state", "count", "word", "first", "rest", "one", "other"]
def nm3 : List Str := ["items", "state", "condition", "word", "first", "rest", "one", "other"]
def nm4 : List Str := ["items", "state", "name", "count", "k", "own", "low", "high", "number"]
def nm5 : List Str := ["_law_script"]
def nm6 : List Str := ["_law_reader_here", "_law_many", "_law_found", "_law_cell", "_law_once"]
def nm7 : List Str := ["_law_reader_here", "_law_entries"]
def nm8 : List Str := ["_law_reader_here", "_law_entries", "_law_deep", "_law_way", "_law_one"]
def nm9 : List Str := ["_law_reader_here", "_law_entries", "_law_slot", "_law_low", "_law_high"]
def nm10 : List Str := ["_law_reader_here", "_law_entries", "_law_deep", "_law_way", "_law_sign", "_law_one", "_law_k"]
def nm11 : List Str := ["_law_reader_here", "_law_way", "_law_low", "_law_names"]
def nm12 : List Str := ["_law_less", "_law_full", "_law_none", "_law_items_now", "_law_till", "_law_deep", "_law_calls_now", "_law_main", "_law_odd"]
def nm13 : List Str := ["_law_numbers", "_law_stand", "_law_item", "_law_lot", "_law_one", "_law_two", "_law_part"]
def nm14 : List Str := ["_law_entries", "_law_stand", "_law_item", "_law_entry"]
def nm15 : List Str := ["_law_entries", "_law_stand", "_law_slot", "_law_item", "_law_number_here", "_law_found", "_law_entry", "_law_own"]
def nm16 : List Str := ["_law_entries", "_law_a", "_law_b", "_law_stands", "_law_some", "_law_item", "_law_told_here", "_law_slot", "_law_want", "_law_stand", "_law_number_here"]
def nm17 : List Str := ["_law_entries", "_law_wide", "_law_k", "_law_got"]
def nm18 : List Str := ["_law_b", "_law_lots", "_law_other", "_law_told_here", "_law_stand"]
def nm19 : List Str := ["_law_script", "_law_reader_here", "_law_lots", "_law_turn", "_law_entries", "_law_stand", "_law_item", "_law_told_here", "_law_slot", "_law_saved", "_law_whole"]
end K04
set_option maxRecDepth 1000000
set_option maxHeartbeats 0
/-! K3: the defs of k04 are what the table says. -/
namespace K04
open PySem PySem.Spec PyProof.Rows L2 Pi
abbrev top (i : Nat) : Stmt := PySem.Challenge.pw_firstfault_k04_values_and_settings_told.main.body.getD i (.Pass ⟨0, 0, 0, 0⟩)
def df0 : Df := ⟨"is_integer", ["thing"], nm0, top 1, ir0⟩
def df1 : Df := ⟨"place_of", ["items", "name"], nm1, top 3, ir1⟩
def df2 : Df := ⟨"value_in", ["items", "state", "count"], nm2, top 4, ir2⟩
def df3 : Df := ⟨"holds_in", ["items", "state", "condition"], nm3, top 5, ir3⟩
def df4 : Df := ⟨"put_in", ["items", "state", "name", "count"], nm4, top 6, ir4⟩
def df5 : Df := ⟨"_law_reader", ["_law_script"], nm5, top 8, ir5⟩
def df6 : Df := ⟨"_law_draw", ["_law_reader_here", "_law_many"], nm6, top 9, ir6⟩
def df7 : Df := ⟨"_law_leaf", ["_law_reader_here", "_law_entries"], nm7, top 10, ir7⟩
def df8 : Df := ⟨"_law_number", ["_law_reader_here", "_law_entries", "_law_deep"], nm8, top 11, ir8⟩
def df9 : Df := ⟨"_law_state", ["_law_reader_here", "_law_entries"], nm9, top 12, ir9⟩
def df10 : Df := ⟨"_law_condition", ["_law_reader_here", "_law_entries", "_law_deep"], nm10, top 13, ir10⟩
def df11 : Df := ⟨"_law_random_items", ["_law_reader_here"], nm11, top 14, ir11⟩
def df12 : Df := ⟨"_law_fixed_programs", [], nm12, top 15, ir12⟩
def df13 : Df := ⟨"_law_told", ["_law_numbers", "_law_stand", "_law_item"], nm13, top 16, ir13⟩
def df14 : Df := ⟨"_law_value", ["_law_entries", "_law_stand", "_law_item"], nm14, top 17, ir14⟩
def df15 : Df := ⟨"_law_put", ["_law_entries", "_law_stand", "_law_slot", "_law_item"], nm15, top 18, ir15⟩
def df16 : Df := ⟨"_law_hand_right", [], nm16, top 19, ir16⟩
def df17 : Df := ⟨"_law_wide_states", [], nm17, top 20, ir17⟩
def df18 : Df := ⟨"_law_same_state", [], nm18, top 21, ir18⟩
def df19 : Df := ⟨"law", ["_law_script"], nm19, top 22, ir19⟩
def tab : List Df := [df0, df1, df2, df3, df4, df5, df6, df7, df8, df9, df10, df11, df12, df13, df14, df15, df16, df17, df18, df19]
def boxes : List (Nat × Nat) := [(37, 11), (112, 17), (169, 16)]
def gt : Gt := ⟨[("is_integer", 0), ("place_of", 1), ("value_in", 2), ("holds_in", 3), ("put_in", 4), ("_law_reader", 5), ("_law_draw", 6), ("_law_leaf", 7), ("_law_number", 8), ("_law_state", 9), ("_law_condition", 10), ("_law_random_items", 11), ("_law_fixed_programs", 12), ("_law_told", 13), ("_law_value", 14), ("_law_put", 15), ("_law_hand_right", 16), ("_law_wide_states", 17), ("_law_same_state", 18), ("law", 19)], ["len", "min", "max", "repr", "tuple", "list", "int", "isinstance", "sorted", "set", "dict", "zip", "range", "bool"], fun p => boxes.any fun q => Nat.beq q.1 p.line && Nat.beq q.2 p.col⟩
theorem sc0 : FnScope df0.N df0.ps (defScope df0.st) := ⟨by kernel_rfl, by kernel_rfl, by kernel_rfl, by decide +kernel, by kernel_rfl, by decide +kernel, by decide +kernel⟩
theorem tr0 : stmts (trS gt 60 30) ⟨df0.N, defScope df0.st, fun _ => true⟩ (defBody df0.st) = some df0.ir := by kernel_rfl
theorem ok0 : DfOk gt df0 := ⟨sc0, tr0, fun _ _ _ _ _ _ us hl => match us, hl with | [_], _ => rfl⟩
theorem sc1 : FnScope df1.N df1.ps (defScope df1.st) := ⟨by kernel_rfl, by kernel_rfl, by kernel_rfl, by decide +kernel, by kernel_rfl, by decide +kernel, by decide +kernel⟩
theorem tr1 : stmts (trS gt 60 30) ⟨df1.N, defScope df1.st, fun _ => true⟩ (defBody df1.st) = some df1.ir := by kernel_rfl
theorem ok1 : DfOk gt df1 := ⟨sc1, tr1, fun _ _ _ _ _ _ us hl => match us, hl with | [_, _], _ => rfl⟩
theorem sc2 : FnScope df2.N df2.ps (defScope df2.st) := ⟨by kernel_rfl, by kernel_rfl, by kernel_rfl, by decide +kernel, by kernel_rfl, by decide +kernel, by decide +kernel⟩
theorem tr2 : stmts (trS gt 60 30) ⟨df2.N, defScope df2.st, fun _ => true⟩ (defBody df2.st) = some df2.ir := by kernel_rfl
theorem ok2 : DfOk gt df2 := ⟨sc2, tr2, fun _ _ _ _ _ _ us hl => match us, hl with | [_, _, _], _ => rfl⟩
theorem sc3 : FnScope df3.N df3.ps (defScope df3.st) := ⟨by kernel_rfl, by kernel_rfl, by kernel_rfl, by decide +kernel, by kernel_rfl, by decide +kernel, by decide +kernel⟩
theorem tr3 : stmts (trS gt 60 30) ⟨df3.N, defScope df3.st, fun _ => true⟩ (defBody df3.st) = some df3.ir := by kernel_rfl
theorem ok3 : DfOk gt df3 := ⟨sc3, tr3, fun _ _ _ _ _ _ us hl => match us, hl with | [_, _, _], _ => rfl⟩
theorem sc4 : FnScope df4.N df4.ps (defScope df4.st) := ⟨by kernel_rfl, by kernel_rfl, by kernel_rfl, by decide +kernel, by kernel_rfl, by decide +kernel, by decide +kernel⟩
theorem tr4 : stmts (trS gt 60 30) ⟨df4.N, defScope df4.st, fun _ => true⟩ (defBody df4.st) = some df4.ir := by kernel_rfl
theorem ok4 : DfOk gt df4 := ⟨sc4, tr4, fun _ _ _ _ _ _ us hl => match us, hl with | [_, _, _, _], _ => rfl⟩
theorem sc5 : FnScope df5.N df5.ps (defScope df5.st) := ⟨by kernel_rfl, by kernel_rfl, by kernel_rfl, by decide +kernel, by kernel_rfl, by decide +kernel, by decide +kernel⟩
theorem tr5 : stmts (trS gt 60 30) ⟨df5.N, defScope df5.st, fun _ => true⟩ (defBody df5.st) = some df5.ir := by kernel_rfl
theorem ok5 : DfOk gt df5 := ⟨sc5, tr5, fun _ _ _ _ _ _ us hl => match us, hl with | [_], _ => rfl⟩
theorem sc6 : FnScope df6.N df6.ps (defScope df6.st) := ⟨by kernel_rfl, by kernel_rfl, by kernel_rfl, by decide +kernel, by kernel_rfl, by decide +kernel, by decide +kernel⟩
theorem tr6 : stmts (trS gt 60 30) ⟨df6.N, defScope df6.st, fun _ => true⟩ (defBody df6.st) = some df6.ir := by kernel_rfl
theorem ok6 : DfOk gt df6 := ⟨sc6, tr6, fun _ _ _ _ _ _ us hl => match us, hl with | [_, _], _ => rfl⟩
theorem sc7 : FnScope df7.N df7.ps (defScope df7.st) := ⟨by kernel_rfl, by kernel_rfl, by kernel_rfl, by decide +kernel, by kernel_rfl, by decide +kernel, by decide +kernel⟩
theorem tr7 : stmts (trS gt 60 30) ⟨df7.N, defScope df7.st, fun _ => true⟩ (defBody df7.st) = some df7.ir := by kernel_rfl
theorem ok7 : DfOk gt df7 := ⟨sc7, tr7, fun _ _ _ _ _ _ us hl => match us, hl with | [_, _], _ => rfl⟩
theorem sc8 : FnScope df8.N df8.ps (defScope df8.st) := ⟨by kernel_rfl, by kernel_rfl, by kernel_rfl, by decide +kernel, by kernel_rfl, by decide +kernel, by decide +kernel⟩
theorem tr8 : stmts (trS gt 60 30) ⟨df8.N, defScope df8.st, fun _ => true⟩ (defBody df8.st) = some df8.ir := by kernel_rfl
theorem ok8 : DfOk gt df8 := ⟨sc8, tr8, fun _ _ _ _ _ _ us hl => match us, hl with | [_, _, _], _ => rfl⟩
theorem sc9 : FnScope df9.N df9.ps (defScope df9.st) := ⟨by kernel_rfl, by kernel_rfl, by kernel_rfl, by decide +kernel, by kernel_rfl, by decide +kernel, by decide +kernel⟩
theorem tr9 : stmts (trS gt 60 30) ⟨df9.N, defScope df9.st, fun _ => true⟩ (defBody df9.st) = some df9.ir := by kernel_rfl
theorem ok9 : DfOk gt df9 := ⟨sc9, tr9, fun _ _ _ _ _ _ us hl => match us, hl with | [_, _], _ => rfl⟩
theorem sc10 : FnScope df10.N df10.ps (defScope df10.st) := ⟨by kernel_rfl, by kernel_rfl, by kernel_rfl, by decide +kernel, by kernel_rfl, by decide +kernel, by decide +kernel⟩
theorem tr10 : stmts (trS gt 60 30) ⟨df10.N, defScope df10.st, fun _ => true⟩ (defBody df10.st) = some df10.ir := by kernel_rfl
theorem ok10 : DfOk gt df10 := ⟨sc10, tr10, fun _ _ _ _ _ _ us hl => match us, hl with | [_, _, _], _ => rfl⟩
theorem sc11 : FnScope df11.N df11.ps (defScope df11.st) := ⟨by kernel_rfl, by kernel_rfl, by kernel_rfl, by decide +kernel, by kernel_rfl, by decide +kernel, by decide +kernel⟩
theorem tr11 : stmts (trS gt 60 30) ⟨df11.N, defScope df11.st, fun _ => true⟩ (defBody df11.st) = some df11.ir := by kernel_rfl
theorem ok11 : DfOk gt df11 := ⟨sc11, tr11, fun _ _ _ _ _ _ us hl => match us, hl with | [_], _ => rfl⟩
theorem sc12 : FnScope df12.N df12.ps (defScope df12.st) := ⟨by kernel_rfl, by kernel_rfl, by kernel_rfl, by decide +kernel, by kernel_rfl, by decide +kernel, by decide +kernel⟩
theorem tr12 : stmts (trS gt 60 30) ⟨df12.N, defScope df12.st, fun _ => true⟩ (defBody df12.st) = some df12.ir := by kernel_rfl
theorem ok12 : DfOk gt df12 := ⟨sc12, tr12, fun _ _ _ _ _ _ us hl => match us, hl with | [], _ => rfl⟩
theorem sc13 : FnScope df13.N df13.ps (defScope df13.st) := ⟨by kernel_rfl, by kernel_rfl, by kernel_rfl, by decide +kernel, by kernel_rfl, by decide +kernel, by decide +kernel⟩
theorem tr13 : stmts (trS gt 60 30) ⟨df13.N, defScope df13.st, fun _ => true⟩ (defBody df13.st) = some df13.ir := by kernel_rfl
theorem ok13 : DfOk gt df13 := ⟨sc13, tr13, fun _ _ _ _ _ _ us hl => match us, hl with | [_, _, _], _ => rfl⟩
theorem sc14 : FnScope df14.N df14.ps (defScope df14.st) := ⟨by kernel_rfl, by kernel_rfl, by kernel_rfl, by decide +kernel, by kernel_rfl, by decide +kernel, by decide +kernel⟩
theorem tr14 : stmts (trS gt 60 30) ⟨df14.N, defScope df14.st, fun _ => true⟩ (defBody df14.st) = some df14.ir := by kernel_rfl
theorem ok14 : DfOk gt df14 := ⟨sc14, tr14, fun _ _ _ _ _ _ us hl => match us, hl with | [_, _, _], _ => rfl⟩
theorem sc15 : FnScope df15.N df15.ps (defScope df15.st) := ⟨by kernel_rfl, by kernel_rfl, by kernel_rfl, by decide +kernel, by kernel_rfl, by decide +kernel, by decide +kernel⟩
theorem tr15 : stmts (trS gt 60 30) ⟨df15.N, defScope df15.st, fun _ => true⟩ (defBody df15.st) = some df15.ir := by kernel_rfl
theorem ok15 : DfOk gt df15 := ⟨sc15, tr15, fun _ _ _ _ _ _ us hl => match us, hl with | [_, _, _, _], _ => rfl⟩
theorem sc16 : FnScope df16.N df16.ps (defScope df16.st) := ⟨by kernel_rfl, by kernel_rfl, by kernel_rfl, by decide +kernel, by kernel_rfl, by decide +kernel, by decide +kernel⟩
theorem tr16 : stmts (trS gt 60 30) ⟨df16.N, defScope df16.st, fun _ => true⟩ (defBody df16.st) = some df16.ir := by kernel_rfl
theorem ok16 : DfOk gt df16 := ⟨sc16, tr16, fun _ _ _ _ _ _ us hl => match us, hl with | [], _ => rfl⟩
theorem sc17 : FnScope df17.N df17.ps (defScope df17.st) := ⟨by kernel_rfl, by kernel_rfl, by kernel_rfl, by decide +kernel, by kernel_rfl, by decide +kernel, by decide +kernel⟩
theorem tr17 : stmts (trS gt 60 30) ⟨df17.N, defScope df17.st, fun _ => true⟩ (defBody df17.st) = some df17.ir := by kernel_rfl
theorem ok17 : DfOk gt df17 := ⟨sc17, tr17, fun _ _ _ _ _ _ us hl => match us, hl with | [], _ => rfl⟩
theorem sc18 : FnScope df18.N df18.ps (defScope df18.st) := ⟨by kernel_rfl, by kernel_rfl, by kernel_rfl, by decide +kernel, by kernel_rfl, by decide +kernel, by decide +kernel⟩
theorem tr18 : stmts (trS gt 60 30) ⟨df18.N, defScope df18.st, fun _ => true⟩ (defBody df18.st) = some df18.ir := by kernel_rfl
theorem ok18 : DfOk gt df18 := ⟨sc18, tr18, fun _ _ _ _ _ _ us hl => match us, hl with | [], _ => rfl⟩
theorem sc19 : FnScope df19.N df19.ps (defScope df19.st) := ⟨by kernel_rfl, by kernel_rfl, by kernel_rfl, by decide +kernel, by kernel_rfl, by decide +kernel, by decide +kernel⟩
theorem tr19 : stmts (trS gt 60 30) ⟨df19.N, defScope df19.st, fun _ => true⟩ (defBody df19.st) = some df19.ir := by kernel_rfl
theorem ok19 : DfOk gt df19 := ⟨sc19, tr19, fun _ _ _ _ _ _ us hl => match us, hl with | [_], _ => rfl⟩
end K04
set_option maxRecDepth 1000000
set_option maxHeartbeats 0
/-! K4: the head of k04. -/
namespace K04
open PySem PySem.Spec PyProof.Rows L2 Pi
def dd (d : Df) : He.DefD := ⟨(d.name, none), d.name, d.name, defArgs d.st, defBody d.st, defScope d.st, [], []⟩
def fn : List He.DefD := [dd df0, dd df1, dd df2, dd df3, dd df4, dd df5, dd df6, dd df7, dd df8, dd df9, dd df10, dd df11, dd df12, dd df13, dd df14, dd df15, dd df16, dd df17, dd df18, dd df19]
def fa : List He.Fa := [.glo "is_integer", .glo "place_of", .glo "value_in", .glo "holds_in", .glo "put_in", .glo "_law_reader", .glo "_law_draw", .glo "_law_leaf", .glo "_law_number", .glo "_law_state", .glo "_law_condition", .glo "_law_random_items", .glo "_law_fixed_programs", .glo "_law_told", .glo "_law_value", .glo "_law_put", .glo "_law_hand_right", .glo "_law_wide_states", .glo "_law_same_state", .glo "law", .free "len", .free "min", .free "max", .free "repr", .free "tuple", .free "list", .free "int", .free "isinstance", .free "sorted", .free "set", .free "dict", .free "zip", .free "range", .free "bool"]
abbrev R : PySem.W.OpenRow := PySem.W.OpenLaw.row PySem.Challenge.rw_firstfault_k04_values_and_settings_told
abbrev hk : PySem.W.Hook := He.hookD 4 fa fn
def ob (s : PySem.W.SharedT) : He.AlD := He.obsDG 4 fa fn (HandSHeadRun.getT s)
theorem ob_eq (s : PySem.W.SharedT) : ob s = hk.obs s.abs := He.obsDG_eq (HandSHeadRun.getT_eq s)
theorem run (w : World) : HandSHeadRun.RunEq R (PySem.W.view R.prog [22]) hk ob 2000 ["__name__", "is_integer", "place_of", "value_in", "holds_in", "put_in", "_law_reader", "_law_draw", "_law_leaf", "_law_number", "_law_state", "_law_condition", "_law_random_items", "_law_fixed_programs", "_law_told", "_law_value", "_law_put", "_law_hand_right", "_law_wide_states", "_law_same_state"] w := by
  intro os
  kernel_rfl
theorem defs_ok : ∀ (i : Nat) (d : Df), tab[i]? = some d → DfOk gt d := by
  intro i d h
  match i, h with
  | 0, h => cases h; exact ok0
  | 1, h => cases h; exact ok1
  | 2, h => cases h; exact ok2
  | 3, h => cases h; exact ok3
  | 4, h => cases h; exact ok4
  | 5, h => cases h; exact ok5
  | 6, h => cases h; exact ok6
  | 7, h => cases h; exact ok7
  | 8, h => cases h; exact ok8
  | 9, h => cases h; exact ok9
  | 10, h => cases h; exact ok10
  | 11, h => cases h; exact ok11
  | 12, h => cases h; exact ok12
  | 13, h => cases h; exact ok13
  | 14, h => cases h; exact ok14
  | 15, h => cases h; exact ok15
  | 16, h => cases h; exact ok16
  | 17, h => cases h; exact ok17
  | 18, h => cases h; exact ok18
  | 19, h => cases h; exact ok19
  | i + 20, h => cases h
theorem fn_at : ∀ (i : Nat) (d : Df), tab[i]? = some d → fn[i]? = some (dd d) := by
  intro i d h
  match i, h with
  | 0, h => cases h; rfl
  | 1, h => cases h; rfl
  | 2, h => cases h; rfl
  | 3, h => cases h; rfl
  | 4, h => cases h; rfl
  | 5, h => cases h; rfl
  | 6, h => cases h; rfl
  | 7, h => cases h; rfl
  | 8, h => cases h; rfl
  | 9, h => cases h; rfl
  | 10, h => cases h; rfl
  | 11, h => cases h; rfl
  | 12, h => cases h; rfl
  | 13, h => cases h; rfl
  | 14, h => cases h; rfl
  | 15, h => cases h; rfl
  | 16, h => cases h; rfl
  | 17, h => cases h; rfl
  | 18, h => cases h; rfl
  | 19, h => cases h; rfl
  | i + 20, h => cases h
theorem fns_ok {K : PySem.W.Frag} {h : Heap} {mg : Str → Option Value} (X : K.In h) (G : h.Ns mainGlobals mg) (c : He.SaysD fa fn K) : ∀ (x : Str) (i : Nat), fnOfN x gt.fns = some i → ∃ d : Df, tab[i]? = some d ∧ mg x = some (.ref (He.fAd K (dd d).at_)) := by
  intro x i hx
  unfold gt fnOfN at hx
  split at hx
  · rename_i e; cases hx; rw [← eqN_iff.mp e]; exact ⟨df0, rfl, He.glo_ok X G (c.fact 0 (f := .glo "is_integer") rfl)⟩
  unfold fnOfN at hx
  split at hx
  · rename_i e; cases hx; rw [← eqN_iff.mp e]; exact ⟨df1, rfl, He.glo_ok X G (c.fact 1 (f := .glo "place_of") rfl)⟩
  unfold fnOfN at hx
  split at hx
  · rename_i e; cases hx; rw [← eqN_iff.mp e]; exact ⟨df2, rfl, He.glo_ok X G (c.fact 2 (f := .glo "value_in") rfl)⟩
  unfold fnOfN at hx
  split at hx
  · rename_i e; cases hx; rw [← eqN_iff.mp e]; exact ⟨df3, rfl, He.glo_ok X G (c.fact 3 (f := .glo "holds_in") rfl)⟩
  unfold fnOfN at hx
  split at hx
  · rename_i e; cases hx; rw [← eqN_iff.mp e]; exact ⟨df4, rfl, He.glo_ok X G (c.fact 4 (f := .glo "put_in") rfl)⟩
  unfold fnOfN at hx
  split at hx
  · rename_i e; cases hx; rw [← eqN_iff.mp e]; exact ⟨df5, rfl, He.glo_ok X G (c.fact 5 (f := .glo "_law_reader") rfl)⟩
  unfold fnOfN at hx
  split at hx
  · rename_i e; cases hx; rw [← eqN_iff.mp e]; exact ⟨df6, rfl, He.glo_ok X G (c.fact 6 (f := .glo "_law_draw") rfl)⟩
  unfold fnOfN at hx
  split at hx
  · rename_i e; cases hx; rw [← eqN_iff.mp e]; exact ⟨df7, rfl, He.glo_ok X G (c.fact 7 (f := .glo "_law_leaf") rfl)⟩
  unfold fnOfN at hx
  split at hx
  · rename_i e; cases hx; rw [← eqN_iff.mp e]; exact ⟨df8, rfl, He.glo_ok X G (c.fact 8 (f := .glo "_law_number") rfl)⟩
  unfold fnOfN at hx
  split at hx
  · rename_i e; cases hx; rw [← eqN_iff.mp e]; exact ⟨df9, rfl, He.glo_ok X G (c.fact 9 (f := .glo "_law_state") rfl)⟩
  unfold fnOfN at hx
  split at hx
  · rename_i e; cases hx; rw [← eqN_iff.mp e]; exact ⟨df10, rfl, He.glo_ok X G (c.fact 10 (f := .glo "_law_condition") rfl)⟩
  unfold fnOfN at hx
  split at hx
  · rename_i e; cases hx; rw [← eqN_iff.mp e]; exact ⟨df11, rfl, He.glo_ok X G (c.fact 11 (f := .glo "_law_random_items") rfl)⟩
  unfold fnOfN at hx
  split at hx
  · rename_i e; cases hx; rw [← eqN_iff.mp e]; exact ⟨df12, rfl, He.glo_ok X G (c.fact 12 (f := .glo "_law_fixed_programs") rfl)⟩
  unfold fnOfN at hx
  split at hx
  · rename_i e; cases hx; rw [← eqN_iff.mp e]; exact ⟨df13, rfl, He.glo_ok X G (c.fact 13 (f := .glo "_law_told") rfl)⟩
  unfold fnOfN at hx
  split at hx
  · rename_i e; cases hx; rw [← eqN_iff.mp e]; exact ⟨df14, rfl, He.glo_ok X G (c.fact 14 (f := .glo "_law_value") rfl)⟩
  unfold fnOfN at hx
  split at hx
  · rename_i e; cases hx; rw [← eqN_iff.mp e]; exact ⟨df15, rfl, He.glo_ok X G (c.fact 15 (f := .glo "_law_put") rfl)⟩
  unfold fnOfN at hx
  split at hx
  · rename_i e; cases hx; rw [← eqN_iff.mp e]; exact ⟨df16, rfl, He.glo_ok X G (c.fact 16 (f := .glo "_law_hand_right") rfl)⟩
  unfold fnOfN at hx
  split at hx
  · rename_i e; cases hx; rw [← eqN_iff.mp e]; exact ⟨df17, rfl, He.glo_ok X G (c.fact 17 (f := .glo "_law_wide_states") rfl)⟩
  unfold fnOfN at hx
  split at hx
  · rename_i e; cases hx; rw [← eqN_iff.mp e]; exact ⟨df18, rfl, He.glo_ok X G (c.fact 18 (f := .glo "_law_same_state") rfl)⟩
  unfold fnOfN at hx
  split at hx
  · rename_i e; cases hx; rw [← eqN_iff.mp e]; exact ⟨df19, rfl, He.glo_ok X G (c.fact 19 (f := .glo "law") rfl)⟩
  unfold fnOfN at hx
  cases hx
theorem free_ok {K : PySem.W.Frag} {h : Heap} {mg : Str → Option Value} (X : K.In h) (G : h.Ns mainGlobals mg) (c : He.SaysD fa fn K) : ∀ x, (gt.free.any fun y => eqN y x) = true → mg x = none := by
  intro x hx
  simp only [gt, List.any_cons, List.any_nil, Bool.or_eq_true, Bool.or_false] at hx
  rcases hx with e | e | e | e | e | e | e | e | e | e | e | e | e | e
  · rw [← eqN_iff.mp e]; exact He.free_ok X G (c.fact 20 (f := .free "len") rfl)
  · rw [← eqN_iff.mp e]; exact He.free_ok X G (c.fact 21 (f := .free "min") rfl)
  · rw [← eqN_iff.mp e]; exact He.free_ok X G (c.fact 22 (f := .free "max") rfl)
  · rw [← eqN_iff.mp e]; exact He.free_ok X G (c.fact 23 (f := .free "repr") rfl)
  · rw [← eqN_iff.mp e]; exact He.free_ok X G (c.fact 24 (f := .free "tuple") rfl)
  · rw [← eqN_iff.mp e]; exact He.free_ok X G (c.fact 25 (f := .free "list") rfl)
  · rw [← eqN_iff.mp e]; exact He.free_ok X G (c.fact 26 (f := .free "int") rfl)
  · rw [← eqN_iff.mp e]; exact He.free_ok X G (c.fact 27 (f := .free "isinstance") rfl)
  · rw [← eqN_iff.mp e]; exact He.free_ok X G (c.fact 28 (f := .free "sorted") rfl)
  · rw [← eqN_iff.mp e]; exact He.free_ok X G (c.fact 29 (f := .free "set") rfl)
  · rw [← eqN_iff.mp e]; exact He.free_ok X G (c.fact 30 (f := .free "dict") rfl)
  · rw [← eqN_iff.mp e]; exact He.free_ok X G (c.fact 31 (f := .free "zip") rfl)
  · rw [← eqN_iff.mp e]; exact He.free_ok X G (c.fact 32 (f := .free "range") rfl)
  · rw [← eqN_iff.mp e]; exact He.free_ok X G (c.fact 33 (f := .free "bool") rfl)
-- law top 22 index 19 loose 20
end K04
set_option maxRecDepth 100000
set_option maxHeartbeats 400000
/-! L1: stepping through the small language. -/
namespace Pi
open PySem
section
variable {cf : CF} {M : Ev} {ρ : PEnv} {S : Store} {n w : Nat} {α β γ : Type}
theorem b_ok {v : α} {f : α → Store → Res β} : (Res.ok v S).bind f = f v S := rfl
theorem i_var {i : Nat} : (ev cf (n + 1)).e (.var i) ρ S = match ρ[i]? with
    | some (some v) => .ok v S
    | _ => .no := rfl
theorem i_con {v : PV} : (ev cf (n + 1)).e (.con v) ρ S = .ok v S := rfl
theorem i_tup {es : List E} : (ev cf (n + 1)).e (.tup es) ρ S = (evs (ev cf n).e es ρ S).bind fun xs S1 => if Nat.ble xs.length szl then .ok (.tup xs) S1 else .no := rfl
theorem i_lst {b : Bool} {es : List E} : (ev cf (n + 1)).e (.lst b es) ρ S = (evs (ev cf n).e es ρ S).bind fun xs S1 => if Nat.ble xs.length szl then mkl b xs S1 else .no := rfl
theorem i_dis {ks : List Str} {es : List E} : (ev cf (n + 1)).e (.dis ks es) ρ S = (evs (ev cf n).e es ρ S).bind fun xs S1 => if Nat.beq ks.length xs.length then .ok (.dic (ks.zip xs)) S1 else .no := rfl
theorem i_bin {o : Bop} {a b : E} : (ev cf (n + 1)).e (.bin o a b) ρ S = ((ev cf n).e a ρ S).bind fun v S1 => ((ev cf n).e b ρ S1).bind fun w S2 => ofO S2 (bop o S2 v w) := rfl
theorem i_neg {a : E} : (ev cf (n + 1)).e (.neg a) ρ S = ((ev cf n).e a ρ S).bind fun v S1 => match v with
      | .int i => .ok (.int (-i)) S1
      | _ => .no := rfl
theorem i_nott {a : E} : (ev cf (n + 1)).e (.nott a) ρ S = ((ev cf n).e a ρ S).bind fun v S1 => match tru S1 v with
      | some c => .ok (.bl !c) S1
      | none => .no := rfl
theorem i_cmp {o : Cop} {a b : E} : (ev cf (n + 1)).e (.cmp o a b) ρ S = ((ev cf n).e a ρ S).bind fun v S1 => ((ev cf n).e b ρ S1).bind fun w S2 => (ofB S2 (cop o S2 v w)).bind fun c S3 => .ok (.bl c) S3 := rfl
theorem i_and {a b : E} : (ev cf (n + 1)).e (.andd a b) ρ S = ((ev cf n).e a ρ S).bind fun v S1 => match tru S1 v with
      | some true => (ev cf n).e b ρ S1
      | some false => .ok v S1
      | none => .no := rfl
theorem i_or {a b : E} : (ev cf (n + 1)).e (.orr a b) ρ S = ((ev cf n).e a ρ S).bind fun v S1 => match tru S1 v with
      | some true => .ok v S1
      | some false => (ev cf n).e b ρ S1
      | none => .no := rfl
theorem i_ifx {c a b : E} : (ev cf (n + 1)).e (.ifx c a b) ρ S = ((ev cf n).t c ρ S).bind fun k S1 => if k then (ev cf n).e a ρ S1 else (ev cf n).e b ρ S1 := rfl
theorem i_idx {a b : E} : (ev cf (n + 1)).e (.idx a b) ρ S = ((ev cf n).e a ρ S).bind fun v S1 => ((ev cf n).e b ρ S1).bind fun w S2 => ofO S2 (getIx S2 v w) := rfl
theorem i_slc {a : E} {lo hi : Option E} : (ev cf (n + 1)).e (.slc a lo hi) ρ S = ((ev cf n).e a ρ S).bind fun v S1 => (evo (ev cf n).e lo ρ S1).bind fun l S2 => (evo (ev cf n).e hi ρ S2).bind fun h S3 => ofO S3 (slice S3 v l h) := rfl
theorem i_isi {a : E} {cs : List String} : (ev cf (n + 1)).e (.isi a cs) ρ S = ((ev cf n).e a ρ S).bind fun v S1 => match tyName S1 v with
      | some t => .ok (.bl (cs.any (isOf t))) S1
      | none => .no := rfl
theorem i_blt {b : Bt} {as : List E} : (ev cf (n + 1)).e (.blt b as) ρ S = (evs (ev cf n).e as ρ S).bind fun vs S1 => bltOf b S1 vs := rfl
theorem i_call {f : Nat} {as : List E} : (ev cf (n + 1)).e (.call f as) ρ S = (evs (ev cf n).e as ρ S).bind fun vs S1 => cf f vs S1 := rfl
theorem i_meth {m : Mt} {o : E} {as : List E} : (ev cf (n + 1)).e (.meth m o as) ρ S = ((ev cf n).e o ρ S).bind fun v S1 => if isL (dr S1 v) then (evs (ev cf n).e as ρ S1).bind fun vs S2 => methOf m S2 v vs else .no := rfl
theorem i_comp {b : Bool} {vs : List Nat} {t : Pt} {it : E} {ifs : Option E} {el : E} : (ev cf (n + 1)).e (.comp b vs t it ifs el) ρ S = (src (ev cf n).e it ρ S).bind fun s S1 => compOf b s (turnF (ev cf n) ifs el) t (wip ρ vs) S1 := rfl
theorem j_not {a : E} : (ev cf (n + 1)).t (.nott a) ρ S = ((ev cf n).t a ρ S).bind fun k S1 => .ok (!k) S1 := rfl
theorem j_and {a b : E} : (ev cf (n + 1)).t (.andd a b) ρ S = ((ev cf n).t a ρ S).bind fun k S1 => if k then (ev cf n).t b ρ S1 else .ok false S1 := rfl
theorem j_or {a b : E} : (ev cf (n + 1)).t (.orr a b) ρ S = ((ev cf n).t a ρ S).bind fun k S1 => if k then .ok true S1 else (ev cf n).t b ρ S1 := rfl
theorem j_cmp {o : Cop} {a b : E} : (ev cf (n + 1)).t (.cmp o a b) ρ S = ((ev cf n).e a ρ S).bind fun v S1 => ((ev cf n).e b ρ S1).bind fun w S2 => ofB S2 (cop o S2 v w) := rfl
theorem j_call {f : Nat} {as : List E} : (ev cf (n + 1)).t (.call f as) ρ S = ((ev cf n).e (.call f as) ρ S).bind fun v S1 => ofB S1 (tru S1 v) := rfl
theorem j_isi {a : E} {cs : List String} : (ev cf (n + 1)).t (.isi a cs) ρ S = ((ev cf n).e (.isi a cs) ρ S).bind fun v S1 => ofB S1 (tru S1 v) := rfl
theorem j_var {i : Nat} : (ev cf (n + 1)).t (.var i) ρ S = ((ev cf n).e (.var i) ρ S).bind fun v S1 => ofB S1 (tru S1 v) := rfl
theorem x_nil {f : XF} : xss f [] ρ S = .ok (.nx ρ) S := rfl
theorem x_set {t : Pt} {e : E} : xe M w (n + 1) (.set t e) ρ S = (M.e e ρ S).bind fun v S1 => match asg t v ρ S1 with
    | some ρ1 => .ok (.nx ρ1) S1
    | none => .no := rfl
theorem x_par {ts : List Nat} {es : List E} : xe M w (n + 1) (.par ts es) ρ S = (evs M.e es ρ S).bind fun vs S1 => match setAll ts vs ρ with
    | some ρ1 => .ok (.nx ρ1) S1
    | none => .no := rfl
theorem x_sub {o i e : E} : xe M w (n + 1) (.sub o i e) ρ S = (M.e e ρ S).bind fun v S1 => (M.e o ρ S1).bind fun p S2 => (M.e i ρ S2).bind fun k S3 => match setIx S3 p k v with
    | some S4 => .ok (.nx ρ) S4
    | none => .no := rfl
theorem x_exp {e : E} : xe M w (n + 1) (.exp e) ρ S = (M.e e ρ S).bind fun _ S1 => .ok (.nx ρ) S1 := rfl
theorem x_iff {c : E} {a b : List Sm} : xe M w (n + 1) (.iff c a b) ρ S = (M.t c ρ S).bind fun k S1 => if k then xss (xe M w n) a ρ S1 else xss (xe M w n) b ρ S1 := rfl
theorem x_for {t : Pt} {it : E} {b : List Sm} : xe M w (n + 1) (.forr t it b) ρ S = (src M.e it ρ S).bind fun s S1 => match s with
    | .snap xs => loopS (xss (xe M w n) b) t xs ρ S1
    | .live k => loopL (xss (xe M w n) b) t k (fuelOf S1 k) 0 ρ S1 := rfl
theorem x_ret {e : E} : xe M w (n + 1) (.ret e) ρ S = (M.e e ρ S).bind fun v S1 => .ok (.rt v) S1 := rfl
theorem x_mat {e : E} {cs : List (Option PV × List Sm)} : xe M w (n + 1) (.mat e cs) ρ S = (M.e e ρ S).bind fun v S1 => pick (xss (xe M w n)) v ρ cs S1 := rfl
/-- a statement that goes on -/
theorem x_go {f : XF} {x : Sm} {xs : List Sm} {ρ1 : PEnv} {S1 : Store} (h : f x ρ S = .ok (.nx ρ1) S1) : xss f (x :: xs) ρ S = xss f xs ρ1 S1 := by
  show (f x ρ S).bind _ = _
  rw [h]
  rfl
theorem x_end {f : XF} {x : Sm} {xs : List Sm} {v : PV} {S1 : Store} (h : f x ρ S = .ok (.rt v) S1) : xss f (x :: xs) ρ S = .ok (.rt v) S1 := by
  show (f x ρ S).bind _ = _
  rw [h]
  rfl
/-- a test, then its branch -/
theorem x_if {c : E} {a b : List Sm} {k : Bool} {S1 : Store} {r : Res Out} (h : M.t c ρ S = .ok k S1) (h2 : (if k then xss (xe M w n) a ρ S1 else xss (xe M w n) b ρ S1) = r) : xe M w (n + 1) (.iff c a b) ρ S = r := by
  rw [x_iff, h]
  exact h2
/-- the call of a def -/
theorem call_at {T : List FD} {d i : Nat} {vs : List PV} {x : FD} {v : PV} {S1 : Store} (hx : T[i]? = some x) (hl : Nat.beq vs.length x.np = true) (h : xss (xe (ev (call T w d) 60) w 20) x.body (vs.map some ++ List.replicate (x.ns - vs.length) none) S = .ok (.rt v) S1) : call T w (d + 1) i vs S = .ok v S1 := by
  show callStep T w (call T w d) i vs S = _
  unfold callStep
  rw [hx]
  simp only
  rw [if_pos hl, h]
  rfl
end
end Pi
set_option maxRecDepth 100000
set_option maxHeartbeats 1000000
/-! L2: the reader and its draws. -/
namespace Pi
open PySem
theorem dat_int {n : Nat} {S : Store} {i : Int} : dat n S (.int i) = some (.int i) := by cases n <;> rfl
theorem dat_str {n : Nat} {S : Store} {i : Str} : dat n S (.str i) = some (.str i) := by cases n <;> rfl
theorem dat_ints {n : Nat} {S : Store} : ∀ cs : List Int, mapO (dat n S) (cs.map .int) = some (cs.map PyData.int)
  | [] => rfl
  | c :: cs => by
    show mapO (dat n S) (PV.int c :: cs.map .int) = _
    unfold mapO
    rw [dat_int, dat_ints cs]
    rfl
theorem canLay_ints : ∀ cs : List Int, PyData.canLayAll0 (cs.map PyData.int) = true
  | [] => by simp [PyData.canLayAll0]
  | c :: cs => by simp [PyData.canLayAll0, PyData.canLay0, canLay_ints cs]
theorem depth_ints : ∀ cs : List Int, PyData.depthAll (cs.map PyData.int) = 0
  | [] => by simp [PyData.depthAll]
  | c :: cs => by simp [PyData.depthAll, PyData.depth, depth_ints cs]
theorem shaped_lints (cs : List Int) : SeqAt.shaped (.list (cs.map PyData.int)) = true := by
  simp [SeqAt.shaped, PyData.canLay0, canLay_ints, PyData.depth, depth_ints]
theorem shaped_tints (cs : List Int) : SeqAt.shaped (.tuple (cs.map PyData.int)) = true := by
  simp [SeqAt.shaped, PyData.canLay0, canLay_ints, PyData.depth, depth_ints]
theorem ints_ne {S : Store} (c : Int) (cs : List Int) : valEq S (.lst ((c :: cs).map .int)) (.lst []) = some false := by
  show deepEq S (.lst ((c :: cs).map .int)) (.lst []) = _
  have h1 : dat 40 S (.lst ((c :: cs).map .int)) = some (.list ((c :: cs).map PyData.int)) := by
    show (mapO (dat 39 S) ((c :: cs).map .int)).map PyData.list = _
    rw [dat_ints]
    rfl
  have h2 : dat 40 S (.lst []) = some (.list []) := rfl
  unfold deepEq
  rw [h1, h2]
  simp only
  rw [shaped_lints, show SeqAt.shaped (PyData.list []) = true from shaped_lints []]
  simp [PyData.eqv, PyData.eqvAll]
theorem at_int {cs : List Int} {k : Int} (h0 : 0 ≤ k) (h1 : k < (cs.map PV.int).length) : ∃ x, L2.atI (cs.map PV.int) k = some (.int x) := by
  have hk : k.toNat < cs.length := by rw [List.length_map] at h1; omega
  refine ⟨cs[k.toNat], ?_⟩
  unfold L2.atI L2.ixN
  rw [if_pos h0, if_pos h1]
  show (cs.map PV.int)[k.toNat]? = _
  rw [List.getElem?_map, List.getElem?_eq_getElem hk]
  rfl
end Pi
namespace K04
open PySem Pi
/-- the reader's object -/
def rd (cs : List Int) (p r c : Int) : PObj := .lst [.lst (cs.map .int), .int p, .int r, .int c]
theorem draw1 (cs : List Int) (p r c many : Int) (tl : List PObj) (d : Nat) (h : decide (0 < r) = true) (hm : decide (0 < many) = true) (hm2 : decide (many < 1073741824) = true) : call irT 0 (d + 1) 6 [.ref 0, .int many] ⟨rd cs p r c :: tl⟩ = .ok (.int (r % many)) ⟨rd cs p (r / many) (c + 1) :: tl⟩ := by
  refine call_at (x := ⟨2, 5, ir6⟩) rfl rfl ?_
  refine (x_go (ρ1 := [some (.ref 0), some (.int many), none, none, none]) (S1 := ⟨rd cs p r (c + 1) :: tl⟩) ?_).trans ?_
  · rfl
  refine x_end (x_if (k := true) (S1 := ⟨rd cs p r (c + 1) :: tl⟩) ?_ ?_)
  · show Res.ok (decide (0 < r)) _ = _
    rw [h]
  · refine (x_go (ρ1 := [some (.ref 0), some (.int many), some (.int (r % many)), none, none]) (S1 := ⟨rd cs p r (c + 1) :: tl⟩) ?_).trans ?_
    · show (ofO _ ((if decide (0 < many) then some (r % many) else none).map PV.int)).bind _ = _
      rw [hm]
      rfl
    · refine (x_go (ρ1 := [some (.ref 0), some (.int many), some (.int (r % many)), none, none]) (S1 := ⟨rd cs p (r / many) (c + 1) :: tl⟩) ?_).trans ?_
      · show (ofO _ ((if decide (0 < many) && decide (many < 1073741824) then some (r / many) else none).map PV.int)).bind _ = _
        rw [hm, hm2]
        rfl
      · rfl
/-- the cell that is looked at next: the second part of a draw -/
def tailD : List Sm := ir6.drop 5
theorem draw2 (cs : List Int) (p r c many x : Int) (tl : List PObj) (d : Nat) (hp : 0 ≤ p) (hc : 0 ≤ c) (hc2 : c ≤ 1000000000) (h0 : 0 < many) (h1 : many < 1073741824) :
    ∃ v p' r', xss (xe (ev (call irT 0 d) 60) 0 20) tailD [some (.ref 0), some (.int many), none, some (.int x), none] ⟨rd cs p r (c + 1) :: tl⟩ = .ok (.rt (.int v)) ⟨rd cs p' r' (c + 1) :: tl⟩ ∧ 0 ≤ v ∧ v < many ∧ 0 ≤ p' := by
  have hm : decide (0 < many) = true := decide_eq_true h0
  have hm2 : decide (many < 1073741824) = true := decide_eq_true h1
  by_cases hb : ((10 : Int) ^ 18 ≤ x) ∧ p ≤ ((cs.map PV.int).length : Int)
  · refine ⟨x % many, p, x / many, ?_, Int.emod_nonneg _ (by omega), Int.emod_lt_of_pos _ h0, hp⟩
    refine x_end (x_if (k := true) (S1 := ⟨rd cs p r (c + 1) :: tl⟩) ?_ ?_)
    · show (Res.ok (decide ((10 : Int) ^ 18 ≤ x)) ⟨rd cs p r (c + 1) :: tl⟩).bind (fun k S1 => if k then _ else _) = _
      rw [decide_eq_true hb.1]
      show Res.ok (decide (p ≤ ((cs.map PV.int).length : Int))) _ = _
      rw [decide_eq_true hb.2]
    · refine (x_go (ρ1 := [some (.ref 0), some (.int many), none, some (.int x), none]) (S1 := ⟨rd cs p (x / many) (c + 1) :: tl⟩) ?_).trans ?_
      · show (ofO _ ((if decide (0 < many) && decide (many < 1073741824) then some (x / many) else none).map PV.int)).bind _ = _
        rw [hm, hm2]
        rfl
      · refine x_end ?_
        show (ofO _ ((if decide (0 < many) then some (x % many) else none).map PV.int)).bind _ = _
        rw [hm]
        rfl
  · have y0 : 0 ≤ x % 2147483497 + 7717 * (c + 1) + 13 := by
      have := Int.emod_nonneg x (b := 2147483497) (by omega)
      omega
    have y1 : x % 2147483497 + 7717 * (c + 1) + 13 < 18446744073709551616 := by
      have := Int.emod_lt_of_pos x (b := 2147483497) (by omega)
      omega
    have yb : decide ((x % 2147483497 + 7717 * (c + 1) + 13).natAbs < 18446744073709551616) = true := decide_eq_true (by omega)
    generalize hy : ((x % 2147483497 + 7717 * (c + 1) + 13) ^ 5) % 2147483629 = y
    have z0 : 0 ≤ y := by rw [← hy]; exact Int.emod_nonneg _ (by omega)
    have z1 : y < 2147483629 := by rw [← hy]; exact Int.emod_lt_of_pos _ (by omega)
    have zb : decide ((y + 96001 * (c + 1)).natAbs < 18446744073709551616) = true := decide_eq_true (by omega)
    refine ⟨((y + 96001 * (c + 1)) ^ 5 % 2147483647 / 64) % many, p, r, ?_, Int.emod_nonneg _ (by omega), Int.emod_lt_of_pos _ h0, hp⟩
    refine (x_go (ρ1 := [some (.ref 0), some (.int many), none, some (.int x), none]) (S1 := ⟨rd cs p r (c + 1) :: tl⟩) (x_if (k := false) (S1 := ⟨rd cs p r (c + 1) :: tl⟩) ?_ rfl)).trans ?_
    · show (Res.ok (decide ((10 : Int) ^ 18 ≤ x)) ⟨rd cs p r (c + 1) :: tl⟩).bind (fun k S1 => if k then _ else _) = _
      by_cases hx : (10 : Int) ^ 18 ≤ x
      · rw [decide_eq_true hx]
        show Res.ok (decide (p ≤ ((cs.map PV.int).length : Int))) _ = _
        rw [decide_eq_false fun z => hb ⟨hx, z⟩]
      · rw [decide_eq_false hx]
        rfl
    refine (x_go (ρ1 := [some (.ref 0), some (.int many), none, some (.int x), some (.int y)]) (S1 := ⟨rd cs p r (c + 1) :: tl⟩) ?_).trans ?_
    · show ((((ofO _ ((if decide ((0 : Int) ≤ 5) && decide ((5 : Int) ≤ 1000000) && decide ((x % 2147483497 + 7717 * (c + 1) + 13).natAbs < 18446744073709551616) then some ((x % 2147483497 + 7717 * (c + 1) + 13) ^ (5 : Int).toNat) else none).map PV.int)).bind _).bind _).bind _).bind _ = _
      rw [yb]
      show Res.ok (Out.nx [some (.ref 0), some (.int many), none, some (.int x), some (.int (((x % 2147483497 + 7717 * (c + 1) + 13) ^ 5) % 2147483629))]) _ = _
      rw [hy]
    · refine x_end ?_
      show ((((((((ofO _ ((if decide ((0 : Int) ≤ 5) && decide ((5 : Int) ≤ 1000000) && decide ((y + 96001 * (c + 1)).natAbs < 18446744073709551616) then some ((y + 96001 * (c + 1)) ^ (5 : Int).toNat) else none).map PV.int)).bind _).bind _).bind _).bind _).bind _).bind _).bind _).bind _ = _
      rw [zb]
      show (ofO _ ((if decide (0 < many) then some (((y + 96001 * (c + 1)) ^ 5 % 2147483647 / 64) % many) else none).map PV.int)).bind _ = _
      rw [hm]
      rfl
theorem draw_ok {cs : List Int} (hl : cs.length ≤ 63) {p r c many : Int} (hp : 0 ≤ p) (hc : 0 ≤ c) (hc2 : c ≤ 1000000000) (h0 : 0 < many) (h1 : many < 1073741824) (tl : List PObj) (d : Nat) :
    ∃ v p' r', call irT 0 (d + 1) 6 [.ref 0, .int many] ⟨rd cs p r c :: tl⟩ = .ok (.int v) ⟨rd cs p' r' (c + 1) :: tl⟩ ∧ 0 ≤ v ∧ v < many ∧ 0 ≤ p' := by
  by_cases hr : 0 < r
  · exact ⟨_, _, _, draw1 cs p r c many tl d (decide_eq_true hr) (decide_eq_true h0) (decide_eq_true h1), Int.emod_nonneg _ (by omega), Int.emod_lt_of_pos _ h0, hp⟩
  · have key : ∃ x, xss (xe (ev (call irT 0 d) 60) 0 20) ir6 [some (.ref 0), some (.int many), none, none, none] ⟨rd cs p r c :: tl⟩ = xss (xe (ev (call irT 0 d) 60) 0 20) tailD [some (.ref 0), some (.int many), none, some (.int x), none] ⟨rd cs (p + 1) r (c + 1) :: tl⟩ := by
      have st1 : xss (xe (ev (call irT 0 d) 60) 0 20) ir6 [some (.ref 0), some (.int many), none, none, none] ⟨rd cs p r c :: tl⟩ = xss (xe (ev (call irT 0 d) 60) 0 20) (ir6.drop 3) [some (.ref 0), some (.int many), none, some (.int 53), none] ⟨rd cs p r (c + 1) :: tl⟩ := by
        refine (x_go (ρ1 := [some (.ref 0), some (.int many), none, none, none]) (S1 := ⟨rd cs p r (c + 1) :: tl⟩) rfl).trans ?_
        refine (x_go (ρ1 := [some (.ref 0), some (.int many), none, none, none]) (S1 := ⟨rd cs p r (c + 1) :: tl⟩) (x_if (k := false) (S1 := ⟨rd cs p r (c + 1) :: tl⟩) ?_ rfl)).trans ?_
        · show Res.ok (decide (0 < r)) _ = _
          rw [decide_eq_false hr]
        · exact (x_go (ρ1 := [some (.ref 0), some (.int many), none, some (.int 53), none]) (S1 := ⟨rd cs p r (c + 1) :: tl⟩) rfl)
      have st3 : ∀ x, xss (xe (ev (call irT 0 d) 60) 0 20) (ir6.drop 4) [some (.ref 0), some (.int many), none, some (.int x), none] ⟨rd cs p r (c + 1) :: tl⟩ = xss (xe (ev (call irT 0 d) 60) 0 20) tailD [some (.ref 0), some (.int many), none, some (.int x), none] ⟨rd cs (p + 1) r (c + 1) :: tl⟩ := fun x => x_go rfl
      cases cs with
      | nil =>
        refine ⟨53, st1.trans (Eq.trans ?_ (st3 53))⟩
        exact x_go (x_if (k := false) (S1 := ⟨rd [] p r (c + 1) :: tl⟩) rfl rfl)
      | cons a cs =>
        have l0 : (0 : Int) < (((a :: cs).map PV.int).length : Int) := by simp
        obtain ⟨x, hx⟩ := at_int (cs := a :: cs) (k := p % (((a :: cs).map PV.int).length : Int)) (Int.emod_nonneg _ (by omega)) (Int.emod_lt_of_pos _ l0)
        refine ⟨x, st1.trans (Eq.trans ?_ (st3 x))⟩
        refine x_go (x_if (k := true) (S1 := ⟨rd (a :: cs) p r (c + 1) :: tl⟩) ?_ ?_)
        · show ofB _ ((valEq _ (.lst ((a :: cs).map .int)) (.lst [])).map fun c => !c) = _
          rw [ints_ne]
          rfl
        · refine x_go ?_
          show (((ofO _ ((if decide ((0 : Int) < (((a :: cs).map PV.int).length : Int)) then some (p % (((a :: cs).map PV.int).length : Int)) else none).map PV.int)).bind _)).bind _ = _
          rw [decide_eq_true l0]
          show (ofO _ (L2.atI ((a :: cs).map PV.int) (p % (((a :: cs).map PV.int).length : Int)))).bind _ = _
          rw [hx]
          rfl
    obtain ⟨x, hx⟩ := key
    obtain ⟨v, p', r', e, b⟩ := draw2 cs (p + 1) r c many x tl d (by omega) hc hc2 h0 h1
    exact ⟨v, p', r', call_at (x := ⟨2, 5, ir6⟩) rfl rfl (hx.trans e), b⟩
end K04
set_option maxRecDepth 100000
set_option maxHeartbeats 2000000
/-! L3: what the law draws: leaves, numbers, states. -/
namespace K04
open PySem Pi
/-- the reader after c draws -/
def RS (cs : List Int) (c : Int) (o : PObj) : Prop := cs.length ≤ 63 ∧ 0 ≤ c ∧ ∃ p r, o = rd cs p r c ∧ 0 ≤ p
theorem draw {cs : List Int} {c many : Int} {o : PObj} (h : RS cs c o) (hc : c ≤ 1000000000) (h0 : 0 < many) (h1 : many < 1073741824) (tl : List PObj) (d : Nat) :
    ∃ v o', call irT 0 (d + 1) 6 [.ref 0, .int many] ⟨o :: tl⟩ = .ok (.int v) ⟨o' :: tl⟩ ∧ RS cs (c + 1) o' ∧ 0 ≤ v ∧ v < many := by
  obtain ⟨hl, h2, p, r, rfl, hp⟩ := h
  obtain ⟨v, p', r', e, b1, b2, b3⟩ := draw_ok hl hp h2 hc h0 h1 tl d
  exact ⟨v, rd cs p' r' (c + 1), e, ⟨hl, by omega, p', r', rfl, b3⟩, b1, b2⟩
/-! ### names, entries -/
abbrev sA : Str := ⟨#[97]⟩
abbrev sCoins : Str := ⟨#[99, 111, 105, 110, 115]⟩
abbrev sItem : Str := ⟨#[105, 116, 101, 109]⟩
abbrev sCards : Str := ⟨#[99, 97, 114, 100, 115]⟩
abbrev sMain : Str := ⟨#[109, 97, 105, 110]⟩
abbrev sZ : Str := ⟨#[122, 122, 122, 122, 122, 122, 122, 122]⟩
abbrev sCheck : Str := ⟨#[99, 104, 101, 99, 107]⟩
abbrev sIn : Str := ⟨#[105, 110]⟩
abbrev Ent := List (Str × Int × Int)
def entP1 (e : Str × Int × Int) : PV := .tup [.str e.1, .int e.2.1, .int e.2.2]
def entP (es : Ent) : PV := .tup (es.map entP1)
def okB (l h : Int) : Prop := -10 ≤ l ∧ l ≤ h ∧ h ≤ 20
inductive GE : Ent → Prop
  | one {x : Str} {l h : Int} : x = sA ∨ x = sCoins ∨ x = sItem → okB l h → GE [(x, l, h)]
  | two {x y : Str} {l h l' h' : Int} : (x = sCards ∧ y = sCoins) ∨ (x = sMain ∧ y = sZ) ∨ (x = sCheck ∧ y = sIn) → okB l h → okB l' h' → GE [(x, l, h), (y, l', h')]
/-! ### numbers -/
inductive Op | add | sub | mul
def opS : Op → Str
  | .add => ⟨#[43]⟩ | .sub => ⟨#[45]⟩ | .mul => ⟨#[42]⟩
inductive Nm | lit (i : Int) | it (x : Str) | op (o : Op) (a b : Nm)
def nmP : Nm → PV
  | .lit i => .int i
  | .it x => .tup [.str sItem, .str x]
  | .op o a b => .tup [.str (opS o), nmP a, nmP b]
inductive GN (es : Ent) : Nat → Nm → Prop
  | lit {n : Nat} {i : Int} : -7 ≤ i → i ≤ 20 → GN es n (.lit i)
  | it {n : Nat} {x : Str} : x ∈ es.map (·.1) → GN es n (.it x)
  | op {n : Nat} {o : Op} {a b : Nm} : GN es n a → GN es n b → GN es (n + 1) (.op o a b)
theorem GN.up {es : Ent} {n : Nat} {a : Nm} (h : GN es n a) : GN es (n + 1) a := by
  induction h with
  | lit h1 h2 => exact .lit h1 h2
  | it h => exact .it h
  | op _ _ h1 h2 => exact .op h1 h2
theorem pick8 {v : Int} (h0 : 0 ≤ v) (h1 : v < 8) : ∃ i, L2.atI [PV.int 0, .int 1, .int 2, .int (-1), .int 3, .int (-7), .int 20, .int 1] v = some (.int i) ∧ -7 ≤ i ∧ i ≤ 20 := by
  have h : v = 0 ∨ v = 1 ∨ v = 2 ∨ v = 3 ∨ v = 4 ∨ v = 5 ∨ v = 6 ∨ v = 7 := by omega
  rcases h with rfl | rfl | rfl | rfl | rfl | rfl | rfl | rfl <;> exact ⟨_, rfl, by omega, by omega⟩
theorem GE.len {es : Ent} (h : GE es) : ((es.map entP1).length : Int) = 1 ∨ ((es.map entP1).length : Int) = 2 := by
  cases h
  · exact .inl rfl
  · exact .inr rfl
theorem GE.at_ {es : Ent} (h : GE es) {v : Int} (h0 : 0 ≤ v) (h1 : v < ((es.map entP1).length : Int)) : ∃ e, e ∈ es ∧ L2.atI (es.map entP1) v = some (entP1 e) := by
  cases h with
  | one hx hb =>
    have : v = 0 := by simp at h1; omega
    subst this
    exact ⟨_, List.mem_cons_self, rfl⟩
  | two hx hb hb' =>
    have : v = 0 ∨ v = 1 := by simp at h1; omega
    rcases this with rfl | rfl
    · exact ⟨_, List.mem_cons_self, rfl⟩
    · exact ⟨_, List.mem_cons_of_mem _ List.mem_cons_self, rfl⟩
theorem leaf {cs : List Int} {c : Int} {o : PObj} {es : Ent} (ge : GE es) (h : RS cs c o) (hc : c + 2 ≤ 1000000000) (tl : List PObj) (d : Nat) :
    ∃ a o', call irT 0 (d + 2) 7 [.ref 0, entP es] ⟨o :: tl⟩ = .ok (nmP a) ⟨o' :: tl⟩ ∧ RS cs (c + 2) o' ∧ GN es 0 a := by
  obtain ⟨v, o1, e1, h1, b1, b2⟩ := draw h (many := 3) (by omega) (by omega) (by omega) tl d
  by_cases hv : v = 0
  · obtain ⟨u, o2, e2, h2, b3, b4⟩ := draw h1 (many := 8) (by omega) (by omega) (by omega) tl d
    obtain ⟨i, ei, i1, i2⟩ := pick8 b3 b4
    refine ⟨.lit i, o2, ?_, by rw [show c + 2 = c + 1 + 1 by omega]; exact h2, .lit i1 i2⟩
    refine call_at (x := ⟨2, 2, ir7⟩) rfl rfl ?_
    refine x_end (x_if (k := true) (S1 := ⟨o1 :: tl⟩) ?_ ?_)
    · show ((call irT 0 (d + 1) 6 [.ref 0, .int 3] ⟨o :: tl⟩).bind fun v S1 => _) = _
      rw [e1]
      show Res.ok (v == 0) _ = _
      rw [hv]
      rfl
    · refine x_end ?_
      show ((((call irT 0 (d + 1) 6 [.ref 0, .int 8] ⟨o1 :: tl⟩).bind fun v S1 => _)).bind _) = _
      rw [e2]
      show (ofO _ (L2.atI [PV.int 0, .int 1, .int 2, .int (-1), .int 3, .int (-7), .int 20, .int 1] u)).bind _ = _
      rw [ei]
      rfl
  · have l : ((es.map entP1).length : Int) = 1 ∨ ((es.map entP1).length : Int) = 2 := ge.len
    obtain ⟨u, o2, e2, h2, b3, b4⟩ := draw h1 (many := ((es.map entP1).length : Int)) (by omega) (by omega) (by omega) tl d
    obtain ⟨e, he, ea⟩ := ge.at_ b3 b4
    refine ⟨.it e.1, o2, ?_, by rw [show c + 2 = c + 1 + 1 by omega]; exact h2, .it (List.mem_map.mpr ⟨e, he, rfl⟩)⟩
    refine call_at (x := ⟨2, 2, ir7⟩) rfl rfl ?_
    refine (x_go (ρ1 := [some (.ref 0), some (entP es)]) (S1 := ⟨o1 :: tl⟩) (x_if (k := false) (S1 := ⟨o1 :: tl⟩) ?_ rfl)).trans ?_
    · show ((call irT 0 (d + 1) 6 [.ref 0, .int 3] ⟨o :: tl⟩).bind fun v S1 => _) = _
      rw [e1]
      show Res.ok (v == 0) _ = _
      rw [beq_eq_false_iff_ne.mpr hv]
    · refine x_end ?_
      show ((((((call irT 0 (d + 1) 6 [.ref 0, .int ((es.map entP1).length : Int)] ⟨o1 :: tl⟩).bind _).bind _).bind _).bind _).bind _).bind _ = _
      rw [e2]
      show ((((((ofO _ (L2.atI (es.map entP1) u)).bind _).bind _).bind _).bind _).bind _) = _
      rw [ea]
      rfl
end K04
set_option maxRecDepth 100000
set_option maxHeartbeats 2000000
/-! L4: numbers and states drawn. -/
namespace K04
open PySem Pi
def kN : Nat → Int
  | 0 => 4
  | n + 1 => 2 * kN n
theorem kN_pos : ∀ n, 4 ≤ kN n
  | 0 => by simp [kN]
  | n + 1 => by have := kN_pos n; simp only [kN]; omega
theorem pick3 {v : Int} (h0 : 1 ≤ v) (h1 : v < 4) : ∃ o, L2.atI [PV.str ⟨#[43]⟩, .str ⟨#[45]⟩, .str ⟨#[42]⟩] (v - 1) = some (.str (opS o)) := by
  have h : v = 1 ∨ v = 2 ∨ v = 3 := by omega
  rcases h with rfl | rfl | rfl
  · exact ⟨.add, rfl⟩
  · exact ⟨.sub, rfl⟩
  · exact ⟨.mul, rfl⟩
theorem number {cs : List Int} {es : Ent} (ge : GE es) (tl : List PObj) (d : Nat) : ∀ (n : Nat) {c deep : Int} {o : PObj}, RS cs c o → c + kN n ≤ 1000000000 → deep ≤ n →
    ∃ a o' c', call irT 0 (d + n + 3) 8 [.ref 0, entP es, .int deep] ⟨o :: tl⟩ = .ok (nmP a) ⟨o' :: tl⟩ ∧ RS cs c' o' ∧ c ≤ c' ∧ c' < c + kN n ∧ GN es n a := by
  intro n
  induction n with
  | zero =>
    intro c deep o h hc hd
    simp only [kN] at hc ⊢
    obtain ⟨v, o1, e1, h1, b1, b2⟩ := draw h (many := 4) (by omega) (by omega) (by omega) tl (d + 1)
    obtain ⟨a, o2, e2, h2, g⟩ := leaf ge h1 (by omega) tl d
    refine ⟨a, o2, c + 1 + 2, ?_, h2, by omega, by omega, g⟩
    refine call_at (x := ⟨3, 5, ir8⟩) rfl rfl ?_
    refine (x_go (ρ1 := [some (.ref 0), some (entP es), some (.int deep), some (.int v), none]) (S1 := ⟨o1 :: tl⟩) ?_).trans ?_
    · show ((call irT 0 (d + 2) 6 [.ref 0, .int 4] ⟨o :: tl⟩).bind _) = _
      rw [e1]
      rfl
    refine x_end (x_if (k := true) (S1 := ⟨o1 :: tl⟩) ?_ ?_)
    · show (if decide (deep < 1) = true then _ else _) = _
      rw [decide_eq_true (by omega)]
      rfl
    · refine x_end ?_
      show ((call irT 0 (d + 2) 7 [.ref 0, entP es] ⟨o1 :: tl⟩).bind _) = _
      rw [e2]
      rfl
  | succ n ih =>
    intro c deep o h hc hd
    simp only [kN] at hc ⊢
    have kp := kN_pos n
    obtain ⟨v, o1, e1, h1, b1, b2⟩ := draw h (many := 4) (by omega) (by omega) (by omega) tl (d + n + 2)
    have g1 : xss (xe (ev (call irT 0 (d + n + 3)) 60) 0 20) ir8 [some (.ref 0), some (entP es), some (.int deep), none, none] ⟨o :: tl⟩ = xss (xe (ev (call irT 0 (d + n + 3)) 60) 0 20) (ir8.drop 1) [some (.ref 0), some (entP es), some (.int deep), some (.int v), none] ⟨o1 :: tl⟩ := by
      refine x_go ?_
      show ((call irT 0 (d + n + 3) 6 [.ref 0, .int 4] ⟨o :: tl⟩).bind _) = _
      rw [e1]
      rfl
    by_cases hw : deep < 1 ∨ v = 0
    · obtain ⟨a, o2, e2, h2, g⟩ := leaf ge h1 (by omega) tl (d + n + 1)
      have gu : GN es (n + 1) a := by
        cases g with
        | lit h1 h2 => exact .lit h1 h2
        | it h => exact .it h
      refine ⟨a, o2, c + 1 + 2, ?_, h2, by omega, by omega, gu⟩
      refine call_at (x := ⟨3, 5, ir8⟩) rfl rfl (g1.trans ?_)
      refine x_end (x_if (k := true) (S1 := ⟨o1 :: tl⟩) ?_ ?_)
      · show (if decide (deep < 1) = true then _ else _) = _
        by_cases hx : deep < 1
        · rw [decide_eq_true hx]; rfl
        · rw [decide_eq_false hx]
          show Res.ok (v == 0) _ = _
          rw [hw.resolve_left hx]
          rfl
      · refine x_end ?_
        show ((call irT 0 (d + n + 3) 7 [.ref 0, entP es] ⟨o1 :: tl⟩).bind _) = _
        rw [e2]
        rfl
    · have hd1 : ¬ deep < 1 := fun z => hw (.inl z)
      have hv : v ≠ 0 := fun z => hw (.inr z)
      obtain ⟨a, o2, c2, e2, h2, l2, u2, ga⟩ := ih (deep := deep - 1) h1 (by omega) (by omega)
      obtain ⟨b, o3, c3, e3, h3, l3, u3, gb⟩ := ih (deep := deep - 1) h2 (by omega) (by omega)
      obtain ⟨op, eo⟩ := pick3 (v := v) (by omega) b2
      refine ⟨.op op a b, o3, c3, ?_, h3, by omega, by omega, .op ga gb⟩
      refine call_at (x := ⟨3, 5, ir8⟩) rfl rfl (g1.trans ?_)
      refine (x_go (ρ1 := [some (.ref 0), some (entP es), some (.int deep), some (.int v), none]) (S1 := ⟨o1 :: tl⟩) (x_if (k := false) (S1 := ⟨o1 :: tl⟩) ?_ rfl)).trans ?_
      · show (if decide (deep < 1) = true then _ else _) = _
        rw [decide_eq_false hd1]
        show Res.ok (v == 0) _ = _
        rw [beq_eq_false_iff_ne.mpr hv]
      refine (x_go (ρ1 := [some (.ref 0), some (entP es), some (.int deep), some (.int v), some (nmP a)]) (S1 := ⟨o2 :: tl⟩) ?_).trans ?_
      · show ((call irT 0 (d + n + 3) 8 [.ref 0, entP es, .int (deep - 1)] ⟨o1 :: tl⟩).bind _) = _
        rw [e2]
        rfl
      · refine x_end ?_
        show ((((ofO _ (L2.atI [PV.str ⟨#[43]⟩, .str ⟨#[45]⟩, .str ⟨#[42]⟩] (v - 1))).bind _).bind _).bind _) = _
        rw [eo]
        show (((((call irT 0 (d + n + 3) 8 [.ref 0, entP es, .int (deep - 1)] ⟨o2 :: tl⟩).bind _).bind _).bind _).bind _).bind _ = _
        rw [e3]
        rfl
/-! ### states -/
def stP (ns : List Int) : PV := .tup (ns.map .int)
/-- a state within the entries' bounds -/
def GS (es : Ent) (ns : List Int) : Prop := ns.length = es.length ∧ ∀ i ∈ ns, -10 ≤ i ∧ i ≤ 20
abbrev elS : E := .bin .add (.var 3) (.call 6 [.var 0, .bin .add (.bin .sub (.var 4) (.var 3)) (.con (.int 1))])
theorem stTurns {cs : List Int} {es : Ent} (tl : List PObj) (d : Nat) : ∀ {l : Ent} {c : Int} {o : PObj} (acc : List Int), (∀ e ∈ l, okB e.2.1 e.2.2) → RS cs c o → c + l.length ≤ 1000000000 →
    ∃ ns o', turns (turnF (ev (call irT 0 (d + 1)) 58) none elS) (.tup [.nm 2, .nm 3, .nm 4]) [some (.ref 0), some (entP es), none, none, none] (l.map entP1) (acc.map .int) ⟨o :: tl⟩ = .ok ((acc ++ ns).map .int) ⟨o' :: tl⟩ ∧ RS cs (c + l.length) o' ∧ ns.length = l.length ∧ ∀ i ∈ ns, -10 ≤ i ∧ i ≤ 20
  | [], c, o, acc, _, h, _ => ⟨[], o, by rw [List.append_nil]; rfl, by simpa using h, rfl, fun i hi => by cases hi⟩
  | (x, l, hi) :: r, c, o, acc, hb, h, hc => by
    have hb1 : okB l hi := hb (x, l, hi) List.mem_cons_self
    obtain ⟨b1, b2, b3⟩ := hb1
    simp only [List.length_cons] at hc
    obtain ⟨v, o1, e1, h1, q1, q2⟩ := draw h (many := hi - l + 1) (by omega) (by omega) (by omega) tl d
    have ef : turnF (ev (call irT 0 (d + 1)) 58) none elS [some (.ref 0), some (entP es), some (.str x), some (.int l), some (.int hi)] ⟨o :: tl⟩ = .ok (some (.int (l + v))) ⟨o1 :: tl⟩ := by
      show (((call irT 0 (d + 1) 6 [.ref 0, .int (hi - l + 1)] ⟨o :: tl⟩).bind _).bind _) = _
      rw [e1]
      rfl
    obtain ⟨ns, o2, e2, h2, l2, g2⟩ := stTurns (es := es) tl d (l := r) (acc ++ [l + v]) (fun e he => hb e (List.mem_cons_of_mem _ he)) h1 (by omega)
    refine ⟨(l + v) :: ns, o2, ?_, by simp only [List.length_cons]; rw [show c + ((r.length + 1 : Nat) : Int) = c + 1 + r.length by omega]; exact h2, by simp [l2], fun i hi => ?_⟩
    · show (match turnF (ev (call irT 0 (d + 1)) 58) none elS [some (.ref 0), some (entP es), some (.str x), some (.int l), some (.int hi)] ⟨o :: tl⟩ with
        | .ok (some y) S1 => turns _ _ _ (r.map entP1) (acc.map PV.int ++ [y]) S1
        | .ok none S1 => turns _ _ _ (r.map entP1) (acc.map PV.int) S1
        | _ => .no) = _
      rw [ef]
      rw [List.map_append] at e2
      refine e2.trans ?_
      simp
    · rcases List.mem_cons.mp hi with rfl | hi
      · omega
      · exact g2 i hi
theorem GE.bounds {es : Ent} (h : GE es) : (∀ e ∈ es, okB e.2.1 e.2.2) ∧ es.length ≤ 2 ∧ 1 ≤ es.length := by
  cases h with
  | one hx hb => exact ⟨fun e he => by simp at he; subst he; exact hb, by simp, by simp⟩
  | two hx hb hb2 =>
    refine ⟨fun e he => ?_, by simp, by simp⟩
    simp at he
    rcases he with rfl | rfl
    · exact hb
    · exact hb2
theorem state {cs : List Int} {c : Int} {o : PObj} {es : Ent} (ge : GE es) (h : RS cs c o) (hc : c + 2 ≤ 1000000000) (tl : List PObj) (d : Nat) :
    ∃ ns o' c', call irT 0 (d + 2) 9 [.ref 0, entP es] ⟨o :: tl⟩ = .ok (stP ns) ⟨o' :: tl⟩ ∧ RS cs c' o' ∧ c ≤ c' ∧ c' ≤ c + 2 ∧ GS es ns := by
  obtain ⟨b1, b2, b3⟩ := ge.bounds
  obtain ⟨ns, o1, e1, h1, l1, g1⟩ := stTurns (es := es) tl d (l := es) [] b1 h (by omega)
  refine ⟨ns, o1, c + es.length, ?_, h1, by omega, by omega, l1, g1⟩
  refine call_at (x := ⟨2, 5, ir9⟩) rfl rfl (x_end ?_)
  have hz : Nat.ble (es.map entP1).length szl = true := by
    rw [List.length_map]
    exact Nat.ble_eq_true_of_le (by unfold szl; omega)
  show (((if Nat.ble (es.map entP1).length szl then (turns (turnF (ev (call irT 0 (d + 1)) 58) none elS) (.tup [.nm 2, .nm 3, .nm 4]) [some (.ref 0), some (entP es), none, none, none] (es.map entP1) (([] : List Int).map .int) ⟨o :: tl⟩).bind fun ys S2 => Res.ok (PV.lst ys) S2 else .no).bind _).bind _).bind _ = _
  rw [hz, if_pos rfl, e1]
  rfl
end K04
set_option maxRecDepth 100000
set_option maxHeartbeats 2000000
/-! L5: conditions drawn. -/
namespace K04
open PySem Pi
inductive Cd | ins (rows : List (List Int)) | cmp (lt : Bool) (a b : Nm) | nt (a : Cd) | jn (o : Bool) (a b : Cd)
def cdP : Cd → PV
  | .ins rows => .tup [.str sIn, .tup (rows.map stP)]
  | .cmp lt a b => .tup [.str (if lt then ⟨#[60]⟩ else ⟨#[61]⟩), nmP a, nmP b]
  | .nt a => .tup [.str ⟨#[110, 111, 116]⟩, cdP a]
  | .jn o a b => .tup [.str (if o then ⟨#[111, 114]⟩ else ⟨#[97, 110, 100]⟩), cdP a, cdP b]
inductive GC (es : Ent) : Nat → Cd → Prop
  | ins {n : Nat} {rows : List (List Int)} : rows.length ≤ 3 → (∀ r ∈ rows, GS es r) → GC es n (.ins rows)
  | cmp {n : Nat} {lt : Bool} {a b : Nm} : GN es 2 a → GN es 2 b → GC es n (.cmp lt a b)
  | nt {n : Nat} {a : Cd} : GC es n a → GC es (n + 1) (.nt a)
  | jn {n : Nat} {o : Bool} {a b : Cd} : GC es n a → GC es n b → GC es (n + 1) (.jn o a b)
/-! ### rows, sorted once -/
theorem ints_map : ∀ ns : List Int, intsOf (ns.map .int) = some ns
  | [] => rfl
  | n :: ns => by
    show (intsOf (ns.map .int)).map (n :: ·) = _
    rw [ints_map ns]
    rfl
theorem rows_map {d : Nat} : ∀ {rows : List (List Int)}, (∀ r ∈ rows, r.length = d) → rowsOf d (rows.map stP) = some rows
  | [], _ => rfl
  | r :: rows, h => by
    have h1 := h r List.mem_cons_self
    have h2 := rows_map fun q hq => h q (List.mem_cons_of_mem _ hq)
    show (match intsOf (r.map .int), rowsOf d (rows.map stP) with
      | some ns, some rs => if Nat.beq ns.length d then some (ns :: rs) else none
      | _, _ => none) = _
    rw [ints_map, h2]
    simp only
    rw [if_pos (by rw [h1]; exact Nat.beq_refl _)]
theorem ins_mem {r q : List Int} : ∀ {l : List (List Int)}, q ∈ insRow r l → q = r ∨ q ∈ l
  | [], h => by
    rw [show insRow r [] = [r] from rfl] at h
    exact .inl (List.mem_singleton.mp h)
  | p :: l, h => by
    unfold insRow at h
    split at h
    · rcases List.mem_cons.mp h with h | h
      · exact .inl h
      · exact .inr h
    · split at h
      · rcases List.mem_cons.mp h with h | h
        · exact .inr (h ▸ List.mem_cons_self)
        · exact (ins_mem h).imp id fun z => List.mem_cons_of_mem _ z
      · exact .inr h
theorem ins_len {r : List Int} : ∀ {l : List (List Int)}, (insRow r l).length ≤ l.length + 1
  | [] => Nat.le_refl _
  | p :: l => by
    unfold insRow
    split
    · simp
    · split
      · simp only [List.length_cons]
        have := ins_len (r := r) (l := l)
        omega
      · simp
theorem sort_mem {q : List Int} : ∀ {l : List (List Int)}, q ∈ sortRows l → q ∈ l
  | [], h => h
  | p :: l, h => by
    rcases ins_mem (show q ∈ insRow p (sortRows l) from h) with h | h
    · exact h ▸ List.mem_cons_self
    · exact List.mem_cons_of_mem _ (sort_mem h)
theorem sort_len : ∀ l : List (List Int), (sortRows l).length ≤ l.length
  | [] => Nat.le_refl _
  | p :: l => by
    have h1 := ins_len (r := p) (l := sortRows l)
    have h2 := sort_len l
    show (insRow p (sortRows l)).length ≤ _
    simp only [List.length_cons]
    omega
theorem small_of {es : Ent} {r : List Int} (h : GS es r) : smallInts r = true := by
  unfold smallInts
  rw [List.all_eq_true]
  intro i hi
  have := h.2 i hi
  simp only [Bool.and_eq_true, decide_eq_true_eq]
  omega
theorem sorted_rows {es : Ent} (he : 1 ≤ es.length) {S : Store} {rows : List (List Int)} (hl : rows.length ≤ 3) (h : ∀ r ∈ rows, GS es r) : bltOf .sortedSet S [.lst (rows.map stP)] = .ok (.lst ((sortRows rows).map stP)) S := by
  cases rows with
  | nil => rfl
  | cons r rows =>
    have hr := h r List.mem_cons_self
    have e := rows_map (d := (r.map PV.int).length) (rows := r :: rows) fun q hq => by rw [List.length_map, (h q hq).1, hr.1]
    have hs : (r :: rows).all smallInts = true := List.all_eq_true.mpr fun q hq => small_of (h q hq)
    have hb : Nat.blt 0 (r.map PV.int).length = true := by
      rw [List.length_map, hr.1]
      exact Nat.ble_eq_true_of_le (by omega)
    have hb2 : Nat.blt (r :: rows).length 64 = true := Nat.ble_eq_true_of_le (by simp only [List.length_cons] at hl ⊢; omega)
    show ofO S (match rowsOf (r.map PV.int).length ((r :: rows).map stP) with
      | some rs => if Nat.blt 0 (r.map PV.int).length && Nat.blt rs.length 64 && rs.all smallInts then some (PV.lst ((sortRows rs).map fun r => .tup (r.map .int))) else none
      | none => none) = _
    rw [e]
    simp only
    rw [hb, hb2, hs]
    rfl
/-! ### rows drawn -/
abbrev elC : E := .call 9 [.var 0, .var 1]
theorem cdTurns {cs : List Int} {es : Ent} (ge : GE es) (tl : List PObj) (d : Nat) {x2 x3 : PV} : ∀ {l : List PV} {c : Int} {o : PObj} (acc : List (List Int)), RS cs c o → c + 2 * l.length ≤ 1000000000 →
    ∃ rows o' c', turns (turnF (ev (call irT 0 (d + 2)) 56) none elC) (.nm 6) [some (.ref 0), some (entP es), some x2, some x3, none, none, none] l (acc.map stP) ⟨o :: tl⟩ = .ok ((acc ++ rows).map stP) ⟨o' :: tl⟩ ∧ RS cs c' o' ∧ c ≤ c' ∧ c' ≤ c + 2 * l.length ∧ rows.length = l.length ∧ ∀ r ∈ rows, GS es r
  | [], c, o, acc, h, _ => ⟨[], o, c, by rw [List.append_nil]; rfl, h, by omega, by simp, rfl, fun i hi => by cases hi⟩
  | x :: l, c, o, acc, h, hc => by
    simp only [List.length_cons] at hc
    obtain ⟨ns, o1, c1, e1, h1, q1, q2, g1⟩ := state ge h (by omega) tl d
    have ef : turnF (ev (call irT 0 (d + 2)) 56) none elC [some (.ref 0), some (entP es), some x2, some x3, none, none, some x] ⟨o :: tl⟩ = .ok (some (stP ns)) ⟨o1 :: tl⟩ := by
      show ((call irT 0 (d + 2) 9 [.ref 0, entP es] ⟨o :: tl⟩).bind _) = _
      rw [e1]
      rfl
    obtain ⟨rows, o2, c2, e2, h2, q3, q4, l2, g2⟩ := cdTurns ge tl d (x2 := x2) (x3 := x3) (l := l) (acc ++ [ns]) h1 (by omega)
    refine ⟨ns :: rows, o2, c2, ?_, h2, by omega, by simp only [List.length_cons]; omega, by simp [l2], fun r hr => ?_⟩
    · show (match turnF (ev (call irT 0 (d + 2)) 56) none elC [some (.ref 0), some (entP es), some x2, some x3, none, none, some x] ⟨o :: tl⟩ with
        | .ok (some y) S1 => turns _ _ _ l (acc.map stP ++ [y]) S1
        | .ok none S1 => turns _ _ _ l (acc.map stP) S1
        | _ => .no) = _
      rw [ef]
      rw [List.map_append] at e2
      refine e2.trans ?_
      simp
    · rcases List.mem_cons.mp hr with rfl | hr
      · exact g1
      · exact g2 r hr
theorem range_len (lo : Int) : ∀ n, (rangeL lo n).length = n
  | 0 => rfl
  | n + 1 => by
    show (rangeL (lo + 1) n).length + 1 = _
    rw [range_len (lo + 1) n]
theorem pickS {v : Int} (h0 : 0 ≤ v) (h1 : v < 2) : ∃ b : Bool, L2.atI [PV.str ⟨#[61]⟩, .str ⟨#[60]⟩] v = some (.str (if b then ⟨#[60]⟩ else ⟨#[61]⟩)) := by
  have h : v = 0 ∨ v = 1 := by omega
  rcases h with rfl | rfl
  · exact ⟨false, rfl⟩
  · exact ⟨true, rfl⟩
theorem pickJ {v : Int} (h0 : 5 ≤ v) (h1 : v < 7) : ∃ b : Bool, L2.atI [PV.str ⟨#[97, 110, 100]⟩, .str ⟨#[111, 114]⟩] (v - 5) = some (.str (if b then ⟨#[111, 114]⟩ else ⟨#[97, 110, 100]⟩)) := by
  have h : v = 5 ∨ v = 6 := by omega
  rcases h with rfl | rfl
  · exact ⟨false, rfl⟩
  · exact ⟨true, rfl⟩
def kC : Nat → Int
  | 0 => 20
  | n + 1 => 2 * kC n + 1
theorem kC_pos : ∀ n, 20 ≤ kC n
  | 0 => by simp [kC]
  | n + 1 => by have := kC_pos n; simp only [kC]; omega
/-- rows: the way 7 -/
theorem cond_in {cs : List Int} {es : Ent} (ge : GE es) (tl : List PObj) (d : Nat) {c deep : Int} {o : PObj} (h : RS cs c o) (hc : c + 19 ≤ 1000000000) :
    ∃ a o' c', xss (xe (ev (call irT 0 (d + 2)) 60) 0 20) (ir10.drop 1) [some (.ref 0), some (entP es), some (.int deep), some (.int 7), none, none, none] ⟨o :: tl⟩ = .ok (.rt (cdP a)) ⟨o' :: tl⟩ ∧ RS cs c' o' ∧ c ≤ c' ∧ c' < c + 19 ∧ ∀ n, GC es n a := by
  obtain ⟨v, o1, e1, h1, b1, b2⟩ := draw h (many := 4) (by omega) (by omega) (by omega) tl (d + 1)
  have lr := range_len 0 v.toNat
  obtain ⟨rows, o2, c2, e2, h2, q3, q4, l2, g2⟩ := cdTurns ge tl d (x2 := .int deep) (x3 := .int 7) (l := rangeL 0 v.toNat) [] h1 (by rw [lr]; omega)
  rw [lr] at q4 l2
  refine ⟨.ins (sortRows rows), o2, c2, ?_, h2, by omega, by omega, fun n => .ins (Nat.le_trans (sort_len rows) (by omega)) fun r hr => g2 r (sort_mem hr)⟩
  refine x_end (x_if (k := true) (S1 := ⟨o :: tl⟩) rfl (x_end ?_))
  have hb : bnd v = true := by unfold bnd; simp only [Bool.and_eq_true, decide_eq_true_eq]; omega
  have hz : Nat.ble (rangeL 0 v.toNat).length szl = true := by rw [lr]; exact Nat.ble_eq_true_of_le (by unfold szl; omega)
  show ((((((((((call irT 0 (d + 2) 6 [.ref 0, .int 4] ⟨o :: tl⟩).bind _).bind _).bind _).bind _).bind _).bind _).bind _).bind _).bind _).bind _ = _
  rw [e1]
  show (((((((((if bnd v then Res.ok (Src.snap (rangeL 0 v.toNat)) ⟨o1 :: tl⟩ else .no).bind _).bind _).bind _).bind _).bind _).bind _).bind _).bind _).bind _ = _
  rw [hb]
  show ((((((((if Nat.ble (rangeL 0 v.toNat).length szl then (turns (turnF (ev (call irT 0 (d + 2)) 56) none elC) (.nm 6) [some (.ref 0), some (entP es), some (.int deep), some (.int 7), none, none, none] (rangeL 0 v.toNat) (([] : List (List Int)).map stP) ⟨o1 :: tl⟩).bind fun ys S2 => Res.ok (PV.lst ys) S2 else .no).bind _).bind _).bind _).bind _).bind _).bind _).bind _).bind _ = _
  rw [hz, if_pos rfl, e2]
  show ((((((bltOf .sortedSet ⟨o2 :: tl⟩ [.lst (rows.map stP)]).bind _).bind _).bind _).bind _).bind _).bind _ = _
  rw [sorted_rows ge.bounds.2.2 (by omega) g2]
  rfl
end K04
set_option maxRecDepth 100000
set_option maxHeartbeats 2000000
/-! L6: conditions drawn, items drawn. -/
namespace K04
open PySem Pi
theorem GN.up2 {es : Ent} {a : Nm} : ∀ {n : Nat}, n ≤ 2 → GN es n a → GN es 2 a
  | 0, _, h => h.up.up
  | 1, _, h => h.up
  | 2, _, h => h
  | n + 3, hn, _ => by omega
/-- a comparison: deep below 1, or a way below 3 -/
theorem cond_cmp {cs : List Int} {es : Ent} (ge : GE es) (tl : List PObj) (d n : Nat) {c deep v : Int} {o : PObj} (h : RS cs c o) (hc : c + 19 ≤ 1000000000) (hd : deep ≤ 2) (hv : v ≠ 7) (hw : deep < 1 ∨ v < 3) :
    ∃ a o' c', xss (xe (ev (call irT 0 (d + 4)) 60) 0 20) (ir10.drop 1) [some (.ref 0), some (entP es), some (.int deep), some (.int v), none, none, none] ⟨o :: tl⟩ = .ok (.rt (cdP a)) ⟨o' :: tl⟩ ∧ RS cs c' o' ∧ c ≤ c' ∧ c' < c + 19 ∧ ∀ n, GC es n a := by
  obtain ⟨u, o1, e1, h1, b1, b2⟩ := draw h (many := 2) (by omega) (by omega) (by omega) tl (d + 3)
  obtain ⟨bs, eb⟩ := pickS b1 b2
  obtain ⟨a, o2, e2, h2, g2⟩ := leaf ge h1 (by omega) tl (d + 2)
  obtain ⟨b, o3, c3, e3, h3, q1, q2, g3⟩ := number ge tl d 1 (deep := deep - 1) h2 (by simp only [kN]; omega) (by omega)
  simp only [kN] at q2
  refine ⟨.cmp bs a b, o3, c3, ?_, h3, by omega, by omega, fun n => .cmp (g2.up2 (by omega)) (g3.up2 (by omega))⟩
  refine (x_go (ρ1 := [some (.ref 0), some (entP es), some (.int deep), some (.int v), none, none, none]) (S1 := ⟨o :: tl⟩) (x_if (k := false) (S1 := ⟨o :: tl⟩) ?_ rfl)).trans ?_
  · show Res.ok (v == 7) _ = _
    rw [beq_eq_false_iff_ne.mpr hv]
  refine x_end (x_if (k := true) (S1 := ⟨o :: tl⟩) ?_ ?_)
  · show (if decide (deep < 1) = true then _ else _) = _
    by_cases hx : deep < 1
    · rw [decide_eq_true hx]; rfl
    · rw [decide_eq_false hx]
      show Res.ok (decide (v < 3)) _ = _
      rw [decide_eq_true (hw.resolve_left hx)]
  refine (x_go (ρ1 := [some (.ref 0), some (entP es), some (.int deep), some (.int v), some (.str (if bs then ⟨#[60]⟩ else ⟨#[61]⟩)), none, none]) (S1 := ⟨o1 :: tl⟩) ?_).trans ?_
  · show (((call irT 0 (d + 4) 6 [.ref 0, .int 2] ⟨o :: tl⟩).bind _).bind _) = _
    rw [e1]
    show (ofO _ (L2.atI [PV.str ⟨#[61]⟩, .str ⟨#[60]⟩] u)).bind _ = _
    rw [eb]
    rfl
  · refine x_end ?_
    show ((((call irT 0 (d + 4) 7 [.ref 0, entP es] ⟨o1 :: tl⟩).bind _).bind _).bind _).bind _ = _
    rw [e2]
    show (((((call irT 0 (d + 4) 8 [.ref 0, entP es, .int (deep - 1)] ⟨o2 :: tl⟩).bind _).bind _).bind _).bind _).bind _ = _
    rw [e3]
    rfl
theorem condition {cs : List Int} {es : Ent} (ge : GE es) (tl : List PObj) (d : Nat) : ∀ (n : Nat), n ≤ 2 → ∀ {c deep : Int} {o : PObj}, RS cs c o → c + kC n ≤ 1000000000 → deep ≤ n →
    ∃ a o' c', call irT 0 (d + n + 5) 10 [.ref 0, entP es, .int deep] ⟨o :: tl⟩ = .ok (cdP a) ⟨o' :: tl⟩ ∧ RS cs c' o' ∧ c ≤ c' ∧ c' < c + kC n ∧ GC es n a := by
  intro n
  induction n with
  | zero =>
    intro hn c deep o h hc hd
    simp only [kC] at hc ⊢
    obtain ⟨v, o1, e1, h1, b1, b2⟩ := draw h (many := 8) (by omega) (by omega) (by omega) tl (d + 3)
    have g1 : xss (xe (ev (call irT 0 (d + 4)) 60) 0 20) ir10 [some (.ref 0), some (entP es), some (.int deep), none, none, none, none] ⟨o :: tl⟩ = xss (xe (ev (call irT 0 (d + 4)) 60) 0 20) (ir10.drop 1) [some (.ref 0), some (entP es), some (.int deep), some (.int v), none, none, none] ⟨o1 :: tl⟩ := by
      refine x_go ?_
      show ((call irT 0 (d + 4) 6 [.ref 0, .int 8] ⟨o :: tl⟩).bind _) = _
      rw [e1]
      rfl
    by_cases h7 : v = 7
    · subst h7
      obtain ⟨a, o2, c2, e2, h2, q1, q2, g⟩ := cond_in ge tl (d + 2) (deep := deep) h1 (by omega)
      exact ⟨a, o2, c2, call_at (x := ⟨3, 7, ir10⟩) rfl rfl (g1.trans e2), h2, by omega, by omega, g 0⟩
    · obtain ⟨a, o2, c2, e2, h2, q1, q2, g⟩ := cond_cmp ge tl d 0 h1 (by omega) (deep := deep) (by omega) h7 (.inl (by omega))
      exact ⟨a, o2, c2, call_at (x := ⟨3, 7, ir10⟩) rfl rfl (g1.trans e2), h2, by omega, by omega, g 0⟩
  | succ n ih =>
    intro hn c deep o h hc hd
    simp only [kC] at hc ⊢
    have kp := kC_pos n
    obtain ⟨v, o1, e1, h1, b1, b2⟩ := draw h (many := 8) (by omega) (by omega) (by omega) tl (d + n + 4)
    have g1 : xss (xe (ev (call irT 0 (d + n + 5)) 60) 0 20) ir10 [some (.ref 0), some (entP es), some (.int deep), none, none, none, none] ⟨o :: tl⟩ = xss (xe (ev (call irT 0 (d + n + 5)) 60) 0 20) (ir10.drop 1) [some (.ref 0), some (entP es), some (.int deep), some (.int v), none, none, none] ⟨o1 :: tl⟩ := by
      refine x_go ?_
      show ((call irT 0 (d + n + 5) 6 [.ref 0, .int 8] ⟨o :: tl⟩).bind _) = _
      rw [e1]
      rfl
    by_cases h7 : v = 7
    · subst h7
      obtain ⟨a, o2, c2, e2, h2, q1, q2, g⟩ := cond_in ge tl (d + n + 3) (deep := deep) h1 (by omega)
      exact ⟨a, o2, c2, call_at (x := ⟨3, 7, ir10⟩) rfl rfl (g1.trans e2), h2, by omega, by omega, g _⟩
    by_cases hw : deep < 1 ∨ v < 3
    · obtain ⟨a, o2, c2, e2, h2, q1, q2, g⟩ := cond_cmp ge tl (d + n + 1) 0 h1 (by omega) (deep := deep) (by omega) h7 hw
      exact ⟨a, o2, c2, call_at (x := ⟨3, 7, ir10⟩) rfl rfl (g1.trans e2), h2, by omega, by omega, g _⟩
    have hd1 : ¬ deep < 1 := fun z => hw (.inl z)
    have hv3 : ¬ v < 3 := fun z => hw (.inr z)
    obtain ⟨a, o2, c2, e2, h2, q1, q2, ga⟩ := ih (by omega) (deep := deep - 1) h1 (by omega) (by omega)
    have g2 : xss (xe (ev (call irT 0 (d + n + 5)) 60) 0 20) (ir10.drop 1) [some (.ref 0), some (entP es), some (.int deep), some (.int v), none, none, none] ⟨o1 :: tl⟩ = xss (xe (ev (call irT 0 (d + n + 5)) 60) 0 20) (ir10.drop 4) [some (.ref 0), some (entP es), some (.int deep), some (.int v), none, some (cdP a), none] ⟨o2 :: tl⟩ := by
      refine (x_go (ρ1 := [some (.ref 0), some (entP es), some (.int deep), some (.int v), none, none, none]) (S1 := ⟨o1 :: tl⟩) (x_if (k := false) (S1 := ⟨o1 :: tl⟩) ?_ rfl)).trans ?_
      · show Res.ok (v == 7) _ = _
        rw [beq_eq_false_iff_ne.mpr h7]
      refine (x_go (ρ1 := [some (.ref 0), some (entP es), some (.int deep), some (.int v), none, none, none]) (S1 := ⟨o1 :: tl⟩) (x_if (k := false) (S1 := ⟨o1 :: tl⟩) ?_ rfl)).trans ?_
      · show (if decide (deep < 1) = true then _ else _) = _
        rw [decide_eq_false hd1]
        show Res.ok (decide (v < 3)) _ = _
        rw [decide_eq_false hv3]
      refine x_go ?_
      show ((call irT 0 (d + n + 5) 10 [.ref 0, entP es, .int (deep - 1)] ⟨o1 :: tl⟩).bind _) = _
      rw [e2]
      rfl
    by_cases h5 : v < 5
    · refine ⟨.nt a, o2, c2, call_at (x := ⟨3, 7, ir10⟩) rfl rfl (g1.trans (g2.trans ?_)), h2, by omega, by omega, .nt ga⟩
      refine x_end (x_if (k := true) (S1 := ⟨o2 :: tl⟩) ?_ rfl)
      show Res.ok (decide (v < 5)) _ = _
      rw [decide_eq_true h5]
    · obtain ⟨b, o3, c3, e3, h3, q3, q4, gb⟩ := ih (by omega) (deep := 0) h2 (by omega) (by omega)
      obtain ⟨bj, ej⟩ := pickJ (v := v) (by omega) (by omega)
      refine ⟨.jn bj a b, o3, c3, call_at (x := ⟨3, 7, ir10⟩) rfl rfl (g1.trans (g2.trans ?_)), h3, by omega, by omega, .jn ga gb⟩
      refine (x_go (ρ1 := [some (.ref 0), some (entP es), some (.int deep), some (.int v), none, some (cdP a), none]) (S1 := ⟨o2 :: tl⟩) (x_if (k := false) (S1 := ⟨o2 :: tl⟩) ?_ rfl)).trans ?_
      · show Res.ok (decide (v < 5)) _ = _
        rw [decide_eq_false h5]
      refine x_end ?_
      show (((ofO _ (L2.atI [PV.str ⟨#[97, 110, 100]⟩, .str ⟨#[111, 114]⟩] (v - 5))).bind _).bind _).bind _ = _
      rw [ej]
      show (((((call irT 0 (d + n + 5) 10 [.ref 0, entP es, .int 0] ⟨o2 :: tl⟩).bind _).bind _).bind _).bind _).bind _ = _
      rw [e3]
      rfl
/-! ### items drawn -/
theorem items {cs : List Int} {c : Int} {o : PObj} (h : RS cs c o) (hc : c + 4 ≤ 1000000000) (tl : List PObj) (d : Nat) :
    ∃ es o' c', call irT 0 (d + 2) 11 [.ref 0] ⟨o :: tl⟩ = .ok (entP es) ⟨o' :: tl⟩ ∧ RS cs c' o' ∧ c ≤ c' ∧ c' ≤ c + 4 ∧ GE es := by
  obtain ⟨v, o1, e1, h1, b1, b2⟩ := draw h (many := 5) (by omega) (by omega) (by omega) tl d
  obtain ⟨u, o2, e2, h2, b3, b4⟩ := draw h1 (many := 4) (by omega) (by omega) (by omega) tl d
  have g1 : xss (xe (ev (call irT 0 (d + 1)) 60) 0 20) ir11 [some (.ref 0), none, none, none] ⟨o :: tl⟩ = xss (xe (ev (call irT 0 (d + 1)) 60) 0 20) (ir11.drop 1) [some (.ref 0), some (.int v), some (.int (u - 2)), none] ⟨o2 :: tl⟩ := by
    refine x_go ?_
    show (((call irT 0 (d + 1) 6 [.ref 0, .int 5] ⟨o :: tl⟩).bind _).bind _) = _
    rw [e1]
    show (((((call irT 0 (d + 1) 6 [.ref 0, .int 4] ⟨o1 :: tl⟩).bind _).bind _).bind _).bind _) = _
    rw [e2]
    rfl
  by_cases h3 : v < 3
  · obtain ⟨t, o3, e3, h3', b5, b6⟩ := draw h2 (many := 7) (by omega) (by omega) (by omega) tl d
    obtain ⟨x, ex, hx⟩ : ∃ x, L2.atI [PV.str sA, .str sCoins, .str sItem] v = some (.str x) ∧ (x = sA ∨ x = sCoins ∨ x = sItem) := by
      have h : v = 0 ∨ v = 1 ∨ v = 2 := by omega
      rcases h with rfl | rfl | rfl
      · exact ⟨_, rfl, .inl rfl⟩
      · exact ⟨_, rfl, .inr (.inl rfl)⟩
      · exact ⟨_, rfl, .inr (.inr rfl)⟩
    refine ⟨[(x, u - 2, u - 2 + t)], o3, c + 1 + 1 + 1, call_at (x := ⟨1, 4, ir11⟩) rfl rfl (g1.trans ?_), h3', by omega, by omega, .one hx ⟨by omega, by omega, by omega⟩⟩
    refine x_end (x_if (k := true) (S1 := ⟨o2 :: tl⟩) ?_ ?_)
    · show Res.ok (decide (v < 3)) _ = _
      rw [decide_eq_true h3]
    · refine x_end ?_
      show (((((ofO _ (L2.atI [PV.str sA, .str sCoins, .str sItem] v)).bind _).bind _).bind _).bind _).bind _ = _
      rw [ex]
      show (((((((((call irT 0 (d + 1) 6 [.ref 0, .int 7] ⟨o2 :: tl⟩).bind _).bind _).bind _).bind _).bind _).bind _).bind _).bind _) = _
      rw [e3]
      rfl
  · obtain ⟨t, o3, e3, h3', b5, b6⟩ := draw h2 (many := 4) (by omega) (by omega) (by omega) tl d
    obtain ⟨r, o4, e4, h4, b7, b8⟩ := draw h3' (many := 3) (by omega) (by omega) (by omega) tl d
    obtain ⟨x, y, ex, hx⟩ : ∃ x y, L2.atI [PV.tup [.str sCards, .str sCoins], .tup [.str sMain, .str sZ]] (v - 3) = some (.tup [.str x, .str y]) ∧ ((x = sCards ∧ y = sCoins) ∨ (x = sMain ∧ y = sZ) ∨ (x = sCheck ∧ y = sIn)) := by
      have h : v = 3 ∨ v = 4 := by omega
      rcases h with rfl | rfl
      · exact ⟨_, _, rfl, .inl ⟨rfl, rfl⟩⟩
      · exact ⟨_, _, rfl, .inr (.inl ⟨rfl, rfl⟩)⟩
    refine ⟨[(x, u - 2, u - 2 + t), (y, 0, r)], o4, c + 1 + 1 + 1 + 1, call_at (x := ⟨1, 4, ir11⟩) rfl rfl (g1.trans ?_), h4, by omega, by omega, .two hx ⟨by omega, by omega, by omega⟩ ⟨by omega, by omega, by omega⟩⟩
    refine (x_go (ρ1 := [some (.ref 0), some (.int v), some (.int (u - 2)), none]) (S1 := ⟨o2 :: tl⟩) (x_if (k := false) (S1 := ⟨o2 :: tl⟩) ?_ rfl)).trans ?_
    · show Res.ok (decide (v < 3)) _ = _
      rw [decide_eq_false h3]
    refine (x_go (ρ1 := [some (.ref 0), some (.int v), some (.int (u - 2)), some (.tup [.str x, .str y])]) (S1 := ⟨o2 :: tl⟩) ?_).trans ?_
    · show (ofO _ (L2.atI [PV.tup [.str sCards, .str sCoins], .tup [.str sMain, .str sZ]] (v - 3))).bind _ = _
      rw [ex]
      rfl
    · refine x_end ?_
      show (((((((((call irT 0 (d + 1) 6 [.ref 0, .int 4] ⟨o2 :: tl⟩).bind _).bind _).bind _).bind _).bind _).bind _).bind _).bind _) = _
      rw [e3]
      show (((((((((call irT 0 (d + 1) 6 [.ref 0, .int 3] ⟨o3 :: tl⟩).bind _).bind _).bind _).bind _).bind _).bind _).bind _).bind _) = _
      rw [e4]
      rfl
end K04
set_option maxRecDepth 100000
set_option maxHeartbeats 4000000
/-! L7: what numbers are worth: the program's way. -/
namespace K04
open PySem Pi
def look : Ent → List Int → Str → Int
  | e :: es, v :: st, x => if eqS e.1 x then v else look es st x
  | _, _, _ => 0
def vN (es : Ent) (st : List Int) : Nm → Int
  | .lit i => i
  | .it x => look es st x
  | .op .add a b => vN es st a + vN es st b
  | .op .sub a b => vN es st a - vN es st b
  | .op .mul a b => vN es st a * vN es st b
def bN : Nat → Int
  | 0 => 20
  | n + 1 => bN n * bN n
theorem is_int (i : Int) (S : Store) (d : Nat) : call irT 0 (d + 1) 0 [.int i] S = .ok (.bl true) S := call_at (x := ⟨1, 1, ir0⟩) rfl rfl rfl
theorem is_tup (xs : List PV) (S : Store) (d : Nat) : call irT 0 (d + 1) 0 [.tup xs] S = .ok (.bl false) S := call_at (x := ⟨1, 1, ir0⟩) rfl rfl rfl
theorem st1 {es : Ent} {e : Str × Int × Int} {st : List Int} (h : GS [e] st) : ∃ v, st = [v] ∧ -10 ≤ v ∧ v ≤ 20 := by
  obtain ⟨l, b⟩ := h
  match st, l with
  | [v], _ => exact ⟨v, rfl, b v (by simp)⟩
theorem st2 {e f : Str × Int × Int} {st : List Int} (h : GS [e, f] st) : ∃ v w, st = [v, w] ∧ (-10 ≤ v ∧ v ≤ 20) ∧ -10 ≤ w ∧ w ≤ 20 := by
  obtain ⟨l, b⟩ := h
  match st, l with
  | [v, w], _ => exact ⟨v, w, rfl, b v (by simp), b w (by simp)⟩
/-- where a name stands -/
theorem place {es : Ent} (ge : GE es) {st : List Int} (gs : GS es st) {x : Str} (hx : x ∈ es.map (·.1)) (S : Store) (d : Nat) :
    ∃ k : Nat, call irT 0 (d + 1) 1 [entP es, .str x] S = .ok (.int k) S ∧ k < es.length ∧ L2.atI (st.map PV.int) (k : Int) = some (.int (look es st x)) ∧ -10 ≤ look es st x ∧ look es st x ≤ 20 := by
  cases ge with
  | @one y l h hy hb =>
    obtain ⟨v, rfl, b1, b2⟩ := st1 (es := []) gs
    simp at hx
    subst hx
    rcases hy with rfl | rfl | rfl <;> exact ⟨0, call_at (x := ⟨2, 3, ir1⟩) rfl rfl (by kernel_rfl), by simp, rfl, b1, b2⟩
  | @two y z l h l' h' hy hb hb2 =>
    obtain ⟨v, w, rfl, ⟨b1, b2⟩, b3, b4⟩ := st2 gs
    simp at hx
    rcases hy with ⟨rfl, rfl⟩ | ⟨rfl, rfl⟩ | ⟨rfl, rfl⟩ <;> rcases hx with rfl | rfl
    · exact ⟨0, call_at (x := ⟨2, 3, ir1⟩) rfl rfl (by kernel_rfl), by simp, rfl, b1, b2⟩
    · exact ⟨1, call_at (x := ⟨2, 3, ir1⟩) rfl rfl (by kernel_rfl), by simp, rfl, b3, b4⟩
    · exact ⟨0, call_at (x := ⟨2, 3, ir1⟩) rfl rfl (by kernel_rfl), by simp, rfl, b1, b2⟩
    · exact ⟨1, call_at (x := ⟨2, 3, ir1⟩) rfl rfl (by kernel_rfl), by simp, rfl, b3, b4⟩
    · exact ⟨0, call_at (x := ⟨2, 3, ir1⟩) rfl rfl (by kernel_rfl), by simp, rfl, b1, b2⟩
    · exact ⟨1, call_at (x := ⟨2, 3, ir1⟩) rfl rfl (by kernel_rfl), by simp, rfl, b3, b4⟩
end K04
set_option maxRecDepth 100000
set_option maxHeartbeats 4000000
/-! L8: what numbers are worth: value_in. -/
namespace K04
open PySem Pi
theorem bN_pos : ∀ n, 20 ≤ bN n
  | 0 => by simp [bN]
  | n + 1 => by
    have h := bN_pos n
    show 20 ≤ bN n * bN n
    have : bN n * 1 ≤ bN n * bN n := Int.mul_le_mul_of_nonneg_left (by omega) (by omega)
    omega
theorem mul_bd {a b B : Int} (h1 : -B ≤ a ∧ a ≤ B) (h2 : -B ≤ b ∧ b ≤ B) (hB : 0 ≤ B) : -(B * B) ≤ a * b ∧ a * b ≤ B * B := by
  have ha : (a.natAbs : Int) ≤ B := by omega
  have hb : (b.natAbs : Int) ≤ B := by omega
  have h : ((a * b).natAbs : Int) ≤ B * B := by
    rw [Int.natAbs_mul, Int.natCast_mul]
    exact Int.mul_le_mul ha hb (by omega) hB
  omega
theorem add_bd {B : Int} (h : 20 ≤ B) : 2 * B ≤ B * B := Int.mul_le_mul_of_nonneg_right (by omega) (by omega)
theorem vN_bd {es : Ent} (ge : GE es) {st : List Int} (gs : GS es st) {n : Nat} {a : Nm} (g : GN es n a) : -bN n ≤ vN es st a ∧ vN es st a ≤ bN n := by
  induction g with
  | @lit n i h1 h2 => have := bN_pos n; show -bN n ≤ i ∧ i ≤ bN n; omega
  | @it n x h =>
    have := bN_pos n
    obtain ⟨k, _, _, _, b1, b2⟩ := place ge gs h ⟨[]⟩ 0
    show -bN n ≤ look es st x ∧ look es st x ≤ bN n
    omega
  | @op n o a b _ _ ih1 ih2 =>
    have hp := bN_pos n
    have h2 := add_bd hp
    have h3 := mul_bd ih1 ih2 (by omega)
    show -(bN n * bN n) ≤ vN es st (.op o a b) ∧ vN es st (.op o a b) ≤ bN n * bN n
    cases o
    · show -(bN n * bN n) ≤ vN es st a + vN es st b ∧ vN es st a + vN es st b ≤ bN n * bN n
      omega
    · show -(bN n * bN n) ≤ vN es st a - vN es st b ∧ vN es st a - vN es st b ≤ bN n * bN n
      omega
    · exact h3
theorem bN2 : ∀ {n : Nat}, n ≤ 2 → bN n ≤ 160000
  | 0, _ => by simp [bN]
  | 1, _ => by simp [bN]
  | 2, _ => by simp [bN]
  | n + 3, h => by omega
theorem mul_ok {i j : Int} (h : -160000 ≤ i ∧ i ≤ 160000) : ((decide (-18446744073709551616 < i) && decide (i < 18446744073709551616)) || (decide (-18446744073709551616 < j) && decide (j < 18446744073709551616))) = true := by
  rw [decide_eq_true (show -18446744073709551616 < i by omega), decide_eq_true (show i < 18446744073709551616 by omega)]
  rfl
/-- value_in, at depth n -/
theorem value {es : Ent} (ge : GE es) {st : List Int} (gs : GS es st) {n : Nat} {a : Nm} (g : GN es n a) : n ≤ 2 → ∀ (S : Store) (d : Nat), call irT 0 (d + n + 2) 2 [entP es, stP st, nmP a] S = .ok (.int (vN es st a)) S := by
  induction g with
  | @lit n i h1 h2 =>
    intro _ S d
    refine call_at (x := ⟨3, 8, ir2⟩) rfl rfl (x_end (x_if (k := true) (S1 := S) (by kernel_rfl) rfl))
  | @it n x h =>
    intro _ S d
    obtain ⟨k, e1, _, e2, _, _⟩ := place ge gs h S (d + n)
    refine call_at (x := ⟨3, 8, ir2⟩) rfl rfl ?_
    refine (x_go (ρ1 := [some (entP es), some (stP st), some (nmP (.it x)), none, none, none, none, none]) (S1 := S) (x_if (k := false) (S1 := S) (by kernel_rfl) rfl)).trans ?_
    refine (x_go (ρ1 := [some (entP es), some (stP st), some (nmP (.it x)), some (.str sItem), some (.str x), some (.lst []), none, none]) (S1 := S) rfl).trans ?_
    refine x_end (x_if (k := true) (S1 := S) rfl (x_end ?_))
    show (((call irT 0 (d + n + 1) 1 [entP es, .str x] S).bind _).bind _) = _
    rw [e1]
    show (ofO S (L2.atI (st.map PV.int) (k : Int))).bind _ = _
    rw [e2]
    rfl
  | @op n o a b ga gb ih1 ih2 =>
    intro hn S d
    have e1 := ih1 (by omega) S d
    have e2 := ih2 (by omega) S d
    have bd := vN_bd ge gs ga
    have b2 := bN2 (n := n) (by omega)
    refine call_at (x := ⟨3, 8, ir2⟩) rfl rfl ?_
    refine (x_go (ρ1 := [some (entP es), some (stP st), some (nmP (.op o a b)), none, none, none, none, none]) (S1 := S) (x_if (k := false) (S1 := S) (by kernel_rfl) rfl)).trans ?_
    refine (x_go (ρ1 := [some (entP es), some (stP st), some (nmP (.op o a b)), some (.str (opS o)), some (nmP a), some (.lst [nmP b]), none, none]) (S1 := S) rfl).trans ?_
    have t1 : ∀ ρ, (xe (ev (call irT 0 (d + n + 2)) 60) 0 20) (.iff (.cmp .eq (.var 3) (.con (.str sItem))) [(.ret (.idx (.var 1) (.call 1 [(.var 0), (.var 4)])))] []) (some (entP es) :: some (stP st) :: some (nmP (.op o a b)) :: some (.str (opS o)) :: ρ) S = .ok (.nx (some (entP es) :: some (stP st) :: some (nmP (.op o a b)) :: some (.str (opS o)) :: ρ)) S := fun ρ => by
      cases o <;> exact x_if (k := false) (S1 := S) rfl rfl
    refine (x_go (ρ1 := [some (entP es), some (stP st), some (nmP (.op o a b)), some (.str (opS o)), some (nmP a), some (.lst [nmP b]), none, none]) (S1 := S) (t1 _)).trans ?_
    refine (x_go (ρ1 := [some (entP es), some (stP st), some (nmP (.op o a b)), some (.str (opS o)), some (nmP a), some (.lst [nmP b]), some (.int (vN es st a)), some (.int (vN es st b))]) (S1 := S) ?_).trans ?_
    · show (((call irT 0 (d + n + 2) 2 [entP es, stP st, nmP a] S).bind _).bind _) = _
      rw [e1]
      show ((((call irT 0 (d + n + 2) 2 [entP es, stP st, nmP b] S).bind _).bind _).bind _) = _
      rw [e2]
      rfl
    cases o with
    | add => exact x_end (x_if (k := true) (S1 := S) rfl rfl)
    | sub =>
      refine (x_go (ρ1 := [some (entP es), some (stP st), some (nmP (.op .sub a b)), some (.str (opS .sub)), some (nmP a), some (.lst [nmP b]), some (.int (vN es st a)), some (.int (vN es st b))]) (S1 := S) (x_if (k := false) (S1 := S) rfl rfl)).trans ?_
      exact x_end rfl
    | mul =>
      refine (x_go (ρ1 := [some (entP es), some (stP st), some (nmP (.op .mul a b)), some (.str (opS .mul)), some (nmP a), some (.lst [nmP b]), some (.int (vN es st a)), some (.int (vN es st b))]) (S1 := S) (x_if (k := false) (S1 := S) rfl rfl)).trans ?_
      refine x_end ?_
      show (ofO S ((if (decide (-18446744073709551616 < vN es st a) && decide (vN es st a < 18446744073709551616)) || (decide (-18446744073709551616 < vN es st b) && decide (vN es st b < 18446744073709551616)) then some (vN es st a * vN es st b) else none).map PV.int)).bind _ = _
      rw [mul_ok (by omega)]
      rfl
end K04
set_option maxRecDepth 100000
set_option maxHeartbeats 4000000
/-! L9: what numbers are worth: the law's own way. -/
namespace K04
open PySem Pi
def numD (es : Ent) (st : List Int) : List (Str × PV) := (es.map (·.1)).zip (st.map .int)
theorem eqS_self (x : Str) : eqS x x = true := by
  unfold eqS
  exact beq_self_eq_true _
theorem assoc_look {x : Str} : ∀ {es : Ent} {st : List Int}, es.length = st.length → x ∈ es.map (·.1) → assocS x (numD es st) = some (.int (look es st x))
  | [], _, _, h => by cases h
  | e :: es, [], hl, _ => by simp at hl
  | e :: es, v :: st, hl, h => by
    show (if eqS e.1 x then some (PV.int v) else assocS x (numD es st)) = some (.int (if eqS e.1 x then v else look es st x))
    by_cases hx : eqS e.1 x = true
    · rw [if_pos hx, if_pos hx]
    · rw [if_neg hx, if_neg hx]
      refine assoc_look (by simpa using hl) ?_
      simp only [List.map_cons, List.mem_cons] at h
      rcases h with h | h
      · exact absurd (by rw [h]; exact eqS_self _) hx
      · exact h
abbrev elT : E := .call 13 [.var 0, .var 1, .var 6]
/-- the values of two parts -/
theorem lot2 {D : List (Str × PV)} {st : List Int} {it x y u v : PV} {S : Store} {d : Nat} (e1 : call irT 0 d 13 [.dic D, stP st, x] S = .ok u S) (e2 : call irT 0 d 13 [.dic D, stP st, y] S = .ok v S) :
    turns (turnF (ev (call irT 0 d) 59) none elT) (.nm 6) [some (.dic D), some (stP st), some it, none, none, none, none] [x, y] [] S = .ok [u, v] S := by
  have f1 : turnF (ev (call irT 0 d) 59) none elT [some (.dic D), some (stP st), some it, none, none, none, some x] S = .ok (some u) S := by
    show ((call irT 0 d 13 [.dic D, stP st, x] S).bind _) = _
    rw [e1]
    rfl
  have f2 : turnF (ev (call irT 0 d) 59) none elT [some (.dic D), some (stP st), some it, none, none, none, some y] S = .ok (some v) S := by
    show ((call irT 0 d 13 [.dic D, stP st, y] S).bind _) = _
    rw [e2]
    rfl
  show (match turnF (ev (call irT 0 d) 59) none elT [some (.dic D), some (stP st), some it, none, none, none, some x] S with
    | .ok (some w) S1 => turns (turnF (ev (call irT 0 d) 59) none elT) (.nm 6) [some (.dic D), some (stP st), some it, none, none, none, none] [y] ([] ++ [w]) S1
    | .ok none S1 => turns _ _ _ [y] [] S1
    | _ => .no) = _
  rw [f1]
  show (match turnF (ev (call irT 0 d) 59) none elT [some (.dic D), some (stP st), some it, none, none, none, some y] S with
    | .ok (some w) S1 => turns (turnF (ev (call irT 0 d) 59) none elT) (.nm 6) [some (.dic D), some (stP st), some it, none, none, none, none] [] ([u] ++ [w]) S1
    | .ok none S1 => turns _ _ _ [] _ S1
    | _ => .no) = _
  rw [f2]
  rfl
theorem toldN {es : Ent} (ge : GE es) {st : List Int} (gs : GS es st) {n : Nat} {a : Nm} (g : GN es n a) : n ≤ 2 → ∀ (S : Store) (d : Nat), call irT 0 (d + n + 1) 13 [.dic (numD es st), stP st, nmP a] S = .ok (.int (vN es st a)) S := by
  induction g with
  | @lit n i h1 h2 =>
    intro _ S d
    exact call_at (x := ⟨3, 7, ir13⟩) rfl rfl (x_end (x_if (k := true) (S1 := S) rfl rfl))
  | @it n x h =>
    intro _ S d
    refine call_at (x := ⟨3, 7, ir13⟩) rfl rfl ?_
    refine (x_go (ρ1 := [some (.dic (numD es st)), some (stP st), some (nmP (.it x)), none, none, none, none]) (S1 := S) (x_if (k := false) (S1 := S) rfl rfl)).trans ?_
    refine x_end (x_if (k := true) (S1 := S) rfl (x_end ?_))
    show (ofO S (assocS x (numD es st))).bind _ = _
    rw [assoc_look gs.1.symm h]
    rfl
  | @op n o a b ga gb ih1 ih2 =>
    intro hn S d
    have e1 := ih1 (by omega) S d
    have e2 := ih2 (by omega) S d
    have bd := vN_bd ge gs ga
    have b2 := bN2 (n := n) (by omega)
    refine call_at (x := ⟨3, 7, ir13⟩) rfl rfl ?_
    refine (x_go (ρ1 := [some (.dic (numD es st)), some (stP st), some (nmP (.op o a b)), none, none, none, none]) (S1 := S) (x_if (k := false) (S1 := S) rfl rfl)).trans ?_
    refine (x_go (ρ1 := [some (.dic (numD es st)), some (stP st), some (nmP (.op o a b)), none, none, none, none]) (S1 := S) (x_if (k := false) (S1 := S) (by cases o <;> rfl) rfl)).trans ?_
    refine (x_go (ρ1 := [some (.dic (numD es st)), some (stP st), some (nmP (.op o a b)), none, none, none, none]) (S1 := S) (x_if (k := false) (S1 := S) (by cases o <;> rfl) rfl)).trans ?_
    refine (x_go (ρ1 := [some (.dic (numD es st)), some (stP st), some (nmP (.op o a b)), some (.lst [.int (vN es st a), .int (vN es st b)]), none, none, none]) (S1 := S) ?_).trans ?_
    · show (((turns (turnF (ev (call irT 0 (d + n + 1)) 59) none elT) (.nm 6) [some (.dic (numD es st)), some (stP st), some (nmP (.op o a b)), none, none, none, none] [nmP a, nmP b] [] S).bind fun ys S2 => Res.ok (PV.lst ys) S2).bind _) = _
      rw [lot2 e1 e2]
      rfl
    refine (x_go (ρ1 := [some (.dic (numD es st)), some (stP st), some (nmP (.op o a b)), some (.lst [.int (vN es st a), .int (vN es st b)]), none, none, none]) (S1 := S) (x_if (k := false) (S1 := S) (by cases o <;> rfl) rfl)).trans ?_
    refine (x_go (ρ1 := [some (.dic (numD es st)), some (stP st), some (nmP (.op o a b)), some (.lst [.int (vN es st a), .int (vN es st b)]), some (.int (vN es st a)), some (.int (vN es st b)), none]) (S1 := S) rfl).trans ?_
    refine (x_go (ρ1 := [some (.dic (numD es st)), some (stP st), some (nmP (.op o a b)), some (.lst [.int (vN es st a), .int (vN es st b)]), some (.int (vN es st a)), some (.int (vN es st b)), none]) (S1 := S) (x_if (k := false) (S1 := S) (by cases o <;> kernel_rfl) rfl)).trans ?_
    refine (x_go (ρ1 := [some (.dic (numD es st)), some (stP st), some (nmP (.op o a b)), some (.lst [.int (vN es st a), .int (vN es st b)]), some (.int (vN es st a)), some (.int (vN es st b)), none]) (S1 := S) (x_if (k := false) (S1 := S) (by cases o <;> kernel_rfl) rfl)).trans ?_
    refine x_end ?_
    show (((((((ofO S ((if (decide (-18446744073709551616 < vN es st a) && decide (vN es st a < 18446744073709551616)) || (decide (-18446744073709551616 < vN es st b) && decide (vN es st b < 18446744073709551616)) then some (vN es st a * vN es st b) else none).map PV.int)).bind _).bind _).bind _).bind _).bind _).bind _) = _
    rw [mul_ok (by omega)]
    cases o <;> rfl
end K04
set_option maxRecDepth 100000
set_option maxHeartbeats 4000000
/-! L10: what conditions are worth, both ways. -/
namespace K04
open PySem Pi
def stD (r : List Int) : PyData := .tuple (r.map .int)
theorem dat_st {n : Nat} {S : Store} (r : List Int) : dat (n + 1) S (stP r) = some (stD r) := by
  show (mapO (dat n S) (r.map .int)).map PyData.tuple = _
  rw [dat_ints]
  rfl
theorem dat_sts {n : Nat} {S : Store} : ∀ rows : List (List Int), mapO (dat (n + 1) S) (rows.map stP) = some (rows.map stD)
  | [] => rfl
  | r :: rows => by
    show mapO (dat (n + 1) S) (stP r :: rows.map stP) = _
    unfold mapO
    rw [dat_st, dat_sts rows]
    rfl
theorem shaped_st (r : List Int) : SeqAt.shaped (stD r) = true := shaped_tints r
theorem lay_sts : ∀ rows : List (List Int), PyData.canLayAll0 (rows.map stD) = true
  | [] => by simp [PyData.canLayAll0]
  | r :: rows => by simp [PyData.canLayAll0, PyData.canLay0, stD, canLay_ints, lay_sts rows]
theorem dep_sts : ∀ rows : List (List Int), PyData.depthAll (rows.map stD) ≤ 1
  | [] => by simp [PyData.depthAll]
  | r :: rows => by
    have := dep_sts rows
    simp only [List.map_cons, PyData.depthAll, stD, PyData.depth, depth_ints]
    omega
theorem shaped_sts (rows : List (List Int)) : SeqAt.shaped (.list (rows.map stD)) = true := by
  have := dep_sts rows
  unfold SeqAt.shaped
  rw [Bool.and_eq_true]
  refine ⟨by simp [PyData.canLay0, lay_sts], decide_eq_true ?_⟩
  simp only [PyData.depth]
  omega
theorem eqv_ints : ∀ r s : List Int, PyData.eqvAll (r.map PyData.int) (s.map PyData.int) = (r == s)
  | [], [] => by simp [PyData.eqvAll]
  | [], s :: ss => by simp [PyData.eqvAll]
  | r :: rs, [] => by simp [PyData.eqvAll]
  | r :: rs, s :: ss => by
    simp only [List.map_cons, PyData.eqvAll, PyData.eqv, eqv_ints rs ss]
    rfl
theorem eqv_st (r s : List Int) : PyData.eqv (stD r) (stD s) = (r == s) := by
  simp only [stD, PyData.eqv, eqv_ints]
theorem any_st (s : List Int) : ∀ rows : List (List Int), ((rows.map stD).any fun z => PyData.eqv z (stD s)) = rows.any fun r => r == s
  | [] => rfl
  | r :: rows => by
    simp only [List.map_cons, List.any_cons, eqv_st, any_st s rows]
theorem in_rows {S : Store} (st : List Int) (rows : List (List Int)) : cop .inn S (stP st) (.tup (rows.map stP)) = some (rows.any fun r => r == st) := by
  show memEq S (stP st) (rows.map stP) = _
  unfold memEq
  rw [dat_st, dat_sts]
  simp only
  rw [shaped_st, shaped_sts, any_st]
  rfl
theorem eq_st {S : Store} (r s : List Int) : valEq S (stP r) (stP s) = some (r == s) := by
  show deepEq S (stP r) (stP s) = _
  unfold deepEq
  rw [dat_st, dat_st]
  simp only
  rw [shaped_st, shaped_st, eqv_st]
  rfl
theorem ne_nil {S : Store} (rows : List (List Int)) : cop .ne S (.lst (rows.map stP)) (.lst []) = some !rows.isEmpty := by
  have h1 : dat 40 S (.lst (rows.map stP)) = some (.list (rows.map stD)) := by
    show (mapO (dat 39 S) (rows.map stP)).map PyData.list = _
    rw [dat_sts]
    rfl
  have h2 : dat 40 S (.lst []) = some (.list []) := rfl
  show (deepEq S (.lst (rows.map stP)) (.lst [])).map (fun c => !c) = _
  unfold deepEq
  rw [h1, h2]
  simp only
  rw [shaped_sts, show SeqAt.shaped (PyData.list []) = true from shaped_lints []]
  cases rows <;> simp [PyData.eqv, PyData.eqvAll]
/-! ### worth -/
def vC (es : Ent) (st : List Int) : Cd → Bool
  | .ins rows => rows.any fun r => r == st
  | .cmp lt a b => if lt then decide (vN es st a < vN es st b) else (vN es st a == vN es st b)
  | .nt a => !vC es st a
  | .jn o a b => if o then vC es st a || vC es st b else vC es st a && vC es st b
/-- holds_in, at depth n -/
theorem holds {es : Ent} (ge : GE es) {st : List Int} (gs : GS es st) {n : Nat} {a : Cd} (g : GC es n a) : ∀ (S : Store) (d : Nat), call irT 0 (d + n + 5) 3 [entP es, stP st, cdP a] S = .ok (.bl (vC es st a)) S := by
  induction g with
  | @ins n rows h1 h2 =>
    intro S d
    refine call_at (x := ⟨3, 8, ir3⟩) rfl rfl ?_
    refine (x_go (ρ1 := [some (entP es), some (stP st), some (cdP (.ins rows)), some (.str sIn), some (.tup (rows.map stP)), some (.lst []), none, none]) (S1 := S) rfl).trans ?_
    refine x_end ?_
    refine Eq.trans (b := xss (xe (ev (call irT 0 (d + n + 4)) 60) 0 19) [(.ret (.cmp .inn (.var 1) (.var 4)))] [some (entP es), some (stP st), some (cdP (.ins rows)), some (.str sIn), some (.tup (rows.map stP)), some (.lst []), none, none] S) rfl ?_
    refine x_end ?_
    show ((ofB S (cop .inn S (stP st) (.tup (rows.map stP)))).bind _).bind _ = _
    rw [in_rows]
    rfl
  | @cmp n lt a b ga gb =>
    intro S d
    have e1 := value ge gs ga (by omega) S (d + n)
    have e2 := value ge gs gb (by omega) S (d + n)
    refine call_at (x := ⟨3, 8, ir3⟩) rfl rfl ?_
    refine (x_go (ρ1 := [some (entP es), some (stP st), some (cdP (.cmp lt a b)), some (.str (if lt then ⟨#[60]⟩ else ⟨#[61]⟩)), some (nmP a), some (.lst [nmP b]), none, none]) (S1 := S) rfl).trans ?_
    refine (x_go (ρ1 := [some (entP es), some (stP st), some (cdP (.cmp lt a b)), some (.str (if lt then ⟨#[60]⟩ else ⟨#[61]⟩)), some (nmP a), some (.lst [nmP b]), none, none]) (S1 := S) (by cases lt <;> rfl)).trans ?_
    refine (x_go (ρ1 := [some (entP es), some (stP st), some (cdP (.cmp lt a b)), some (.str (if lt then ⟨#[60]⟩ else ⟨#[61]⟩)), some (nmP a), some (.lst [nmP b]), some (.int (vN es st a)), some (.int (vN es st b))]) (S1 := S) ?_).trans ?_
    · show (((call irT 0 (d + n + 4) 2 [entP es, stP st, nmP a] S).bind _).bind _) = _
      rw [e1]
      show ((((call irT 0 (d + n + 4) 2 [entP es, stP st, nmP b] S).bind _).bind _).bind _) = _
      rw [e2]
      rfl
    · cases lt <;> exact x_end rfl
  | @nt n a ga ih =>
    intro S d
    have e1 := ih S d
    refine call_at (x := ⟨3, 8, ir3⟩) rfl rfl ?_
    refine (x_go (ρ1 := [some (entP es), some (stP st), some (cdP (.nt a)), some (.str ⟨#[110, 111, 116]⟩), some (cdP a), some (.lst []), none, none]) (S1 := S) rfl).trans ?_
    refine x_end ?_
    refine Eq.trans (b := xss (xe (ev (call irT 0 (d + n + 5)) 60) 0 19) [(.ret (.nott (.call 3 [(.var 0), (.var 1), (.var 4)])))] [some (entP es), some (stP st), some (cdP (.nt a)), some (.str ⟨#[110, 111, 116]⟩), some (cdP a), some (.lst []), none, none] S) rfl ?_
    refine x_end ?_
    show (((call irT 0 (d + n + 5) 3 [entP es, stP st, cdP a] S).bind _).bind _) = _
    rw [e1]
    rfl
  | @jn n o a b ga gb ih1 ih2 =>
    intro S d
    have e1 := ih1 S d
    have e2 := ih2 S d
    refine call_at (x := ⟨3, 8, ir3⟩) rfl rfl ?_
    cases o with
    | true =>
      refine (x_go (ρ1 := [some (entP es), some (stP st), some (cdP (.jn true a b)), some (.str ⟨#[111, 114]⟩), some (cdP a), some (.lst [cdP b]), none, none]) (S1 := S) rfl).trans ?_
      refine x_end ?_
      refine Eq.trans (b := xss (xe (ev (call irT 0 (d + n + 5)) 60) 0 19) [(.ret (.orr (.call 3 [(.var 0), (.var 1), (.var 4)]) (.call 3 [(.var 0), (.var 1), (.idx (.var 5) (.con (.int 0)))])))] [some (entP es), some (stP st), some (cdP (.jn true a b)), some (.str ⟨#[111, 114]⟩), some (cdP a), some (.lst [cdP b]), none, none] S) rfl ?_
      refine x_end ?_
      show (((call irT 0 (d + n + 5) 3 [entP es, stP st, cdP a] S).bind _).bind _) = _
      rw [e1]
      show _ = Res.ok (Out.rt (.bl (vC es st a || vC es st b))) S
      cases hA : vC es st a with
      | true => rfl
      | false =>
        show (call irT 0 (d + n + 5) 3 [entP es, stP st, cdP b] S).bind _ = _
        rw [e2]
        rfl
    | false =>
      refine (x_go (ρ1 := [some (entP es), some (stP st), some (cdP (.jn false a b)), some (.str ⟨#[97, 110, 100]⟩), some (cdP a), some (.lst [cdP b]), none, none]) (S1 := S) rfl).trans ?_
      refine x_end ?_
      refine Eq.trans (b := xss (xe (ev (call irT 0 (d + n + 5)) 60) 0 19) [(.ret (.andd (.call 3 [(.var 0), (.var 1), (.var 4)]) (.call 3 [(.var 0), (.var 1), (.idx (.var 5) (.con (.int 0)))])))] [some (entP es), some (stP st), some (cdP (.jn false a b)), some (.str ⟨#[97, 110, 100]⟩), some (cdP a), some (.lst [cdP b]), none, none] S) rfl ?_
      refine x_end ?_
      show (((call irT 0 (d + n + 5) 3 [entP es, stP st, cdP a] S).bind _).bind _) = _
      rw [e1]
      show _ = Res.ok (Out.rt (.bl (vC es st a && vC es st b))) S
      cases hA : vC es st a with
      | false => rfl
      | true =>
        show (call irT 0 (d + n + 5) 3 [entP es, stP st, cdP b] S).bind _ = _
        rw [e2]
        rfl
end K04
set_option maxRecDepth 100000
set_option maxHeartbeats 4000000
/-! L11: what conditions are worth, the law's own way; the law's value. -/
namespace K04
open PySem Pi
/-- the part of a one-part thing -/
theorem lot1 {D : List (Str × PV)} {st : List Int} {it x u : PV} {S : Store} {d : Nat} (e1 : call irT 0 d 13 [.dic D, stP st, x] S = .ok u S) :
    turns (turnF (ev (call irT 0 d) 59) none elT) (.nm 6) [some (.dic D), some (stP st), some it, none, none, none, none] [x] [] S = .ok [u] S := by
  have f1 : turnF (ev (call irT 0 d) 59) none elT [some (.dic D), some (stP st), some it, none, none, none, some x] S = .ok (some u) S := by
    show ((call irT 0 d 13 [.dic D, stP st, x] S).bind _) = _
    rw [e1]
    rfl
  show (match turnF (ev (call irT 0 d) 59) none elT [some (.dic D), some (stP st), some it, none, none, none, some x] S with
    | .ok (some w) S1 => turns (turnF (ev (call irT 0 d) 59) none elT) (.nm 6) [some (.dic D), some (stP st), some it, none, none, none, none] [] ([] ++ [w]) S1
    | .ok none S1 => turns _ _ _ [] [] S1
    | _ => .no) = _
  rw [f1]
  rfl
theorem found {D : List (Str × PV)} {st : List Int} {it : PV} {S : Store} {d : Nat} : ∀ {l acc : List (List Int)},
    turns (turnF (ev (call irT 0 d) 58) (some (.cmp .eq (.var 4) (.var 1))) (.var 4)) (.nm 4) [some (.dic D), some (stP st), some it, none, none, none, none] (l.map stP) (acc.map stP) S = .ok ((acc ++ l.filter fun r => r == st).map stP) S
  | [], acc => by rw [List.filter_nil, List.append_nil]; rfl
  | r :: l, acc => by
    have f1 : turnF (ev (call irT 0 d) 58) (some (.cmp .eq (.var 4) (.var 1))) (.var 4) [some (.dic D), some (stP st), some it, none, some (stP r), none, none] S = .ok (if (r == st) = true then some (stP r) else none) S := by
      show ((ofB S (valEq S (stP r) (stP st))).bind _) = _
      rw [eq_st]
      cases (r == st) <;> rfl
    show (match turnF (ev (call irT 0 d) 58) (some (.cmp .eq (.var 4) (.var 1))) (.var 4) [some (.dic D), some (stP st), some it, none, some (stP r), none, none] S with
      | .ok (some w) S1 => turns (turnF (ev (call irT 0 d) 58) (some (.cmp .eq (.var 4) (.var 1))) (.var 4)) (.nm 4) [some (.dic D), some (stP st), some it, none, none, none, none] (l.map stP) (acc.map stP ++ [w]) S1
      | .ok none S1 => turns (turnF (ev (call irT 0 d) 58) (some (.cmp .eq (.var 4) (.var 1))) (.var 4)) (.nm 4) [some (.dic D), some (stP st), some it, none, none, none, none] (l.map stP) (acc.map stP) S1
      | _ => .no) = _
    rw [f1]
    cases hr : (r == st) with
    | true =>
      have ih := found (D := D) (st := st) (it := it) (S := S) (d := d) (l := l) (acc := acc ++ [r])
      rw [List.map_append] at ih
      refine Eq.trans (b := turns (turnF (ev (call irT 0 d) 58) (some (.cmp .eq (.var 4) (.var 1))) (.var 4)) (.nm 4) [some (.dic D), some (stP st), some it, none, none, none, none] (l.map stP) (acc.map stP ++ [stP r]) S) rfl (Eq.trans ih ?_)
      rw [List.filter_cons, if_pos hr]
      simp
    | false =>
      have ih := found (D := D) (st := st) (it := it) (S := S) (d := d) (l := l) (acc := acc)
      refine Eq.trans (b := turns (turnF (ev (call irT 0 d) 58) (some (.cmp .eq (.var 4) (.var 1))) (.var 4)) (.nm 4) [some (.dic D), some (stP st), some it, none, none, none, none] (l.map stP) (acc.map stP) S) rfl (Eq.trans ih ?_)
      rw [List.filter_cons, if_neg (by rw [hr]; exact Bool.false_ne_true)]
theorem any_filter (st : List Int) : ∀ l : List (List Int), (!(l.filter fun r => r == st).isEmpty) = l.any fun r => r == st
  | [] => rfl
  | r :: l => by
    rw [List.filter_cons, List.any_cons]
    cases hr : (r == st) with
    | true => rfl
    | false => exact any_filter st l
/-- the law's own answer of a condition -/
theorem toldC {es : Ent} (ge : GE es) {st : List Int} (gs : GS es st) {n : Nat} {a : Cd} (g : GC es n a) : ∀ (S : Store) (d : Nat), call irT 0 (d + n + 4) 13 [.dic (numD es st), stP st, cdP a] S = .ok (.bl (vC es st a)) S := by
  induction g with
  | @ins n rows h1 h2 =>
    intro S d
    have hz : Nat.ble (rows.map stP).length szl = true := by rw [List.length_map]; exact Nat.ble_eq_true_of_le (by unfold szl; omega)
    refine call_at (x := ⟨3, 7, ir13⟩) rfl rfl ?_
    refine (x_go (ρ1 := [some (.dic (numD es st)), some (stP st), some (cdP (.ins rows)), none, none, none, none]) (S1 := S) (x_if (k := false) (S1 := S) rfl rfl)).trans ?_
    refine (x_go (ρ1 := [some (.dic (numD es st)), some (stP st), some (cdP (.ins rows)), none, none, none, none]) (S1 := S) (x_if (k := false) (S1 := S) rfl rfl)).trans ?_
    refine x_end (x_if (k := true) (S1 := S) rfl (x_end ?_))
    show (((if Nat.ble (rows.map stP).length szl then (turns (turnF (ev (call irT 0 (d + n + 3)) 58) (some (.cmp .eq (.var 4) (.var 1))) (.var 4)) (.nm 4) [some (.dic (numD es st)), some (stP st), some (cdP (.ins rows)), none, none, none, none] (rows.map stP) (([] : List (List Int)).map stP) S).bind fun ys S2 => Res.ok (PV.lst ys) S2 else .no).bind _).bind _) = _
    rw [hz, if_pos rfl, found]
    show ((ofB S (cop .ne S (.lst ((rows.filter fun r => r == st).map stP)) (.lst []))).bind _).bind _ = _
    rw [ne_nil, any_filter]
    rfl
  | @cmp n lt a b ga gb =>
    intro S d
    have e1 := toldN ge gs ga (by omega) S (d + n)
    have e2 := toldN ge gs gb (by omega) S (d + n)
    refine call_at (x := ⟨3, 7, ir13⟩) rfl rfl ?_
    refine (x_go (ρ1 := [some (.dic (numD es st)), some (stP st), some (cdP (.cmp lt a b)), none, none, none, none]) (S1 := S) (x_if (k := false) (S1 := S) rfl rfl)).trans ?_
    refine (x_go (ρ1 := [some (.dic (numD es st)), some (stP st), some (cdP (.cmp lt a b)), none, none, none, none]) (S1 := S) (x_if (k := false) (S1 := S) (by cases lt <;> rfl) rfl)).trans ?_
    refine (x_go (ρ1 := [some (.dic (numD es st)), some (stP st), some (cdP (.cmp lt a b)), none, none, none, none]) (S1 := S) (x_if (k := false) (S1 := S) (by cases lt <;> rfl) rfl)).trans ?_
    refine (x_go (ρ1 := [some (.dic (numD es st)), some (stP st), some (cdP (.cmp lt a b)), some (.lst [.int (vN es st a), .int (vN es st b)]), none, none, none]) (S1 := S) ?_).trans ?_
    · show (((turns (turnF (ev (call irT 0 (d + n + 3)) 59) none elT) (.nm 6) [some (.dic (numD es st)), some (stP st), some (cdP (.cmp lt a b)), none, none, none, none] [nmP a, nmP b] [] S).bind fun ys S2 => Res.ok (PV.lst ys) S2).bind _) = _
      rw [lot2 e1 e2]
      rfl
    refine (x_go (ρ1 := [some (.dic (numD es st)), some (stP st), some (cdP (.cmp lt a b)), some (.lst [.int (vN es st a), .int (vN es st b)]), none, none, none]) (S1 := S) (x_if (k := false) (S1 := S) (by cases lt <;> rfl) rfl)).trans ?_
    refine (x_go (ρ1 := [some (.dic (numD es st)), some (stP st), some (cdP (.cmp lt a b)), some (.lst [.int (vN es st a), .int (vN es st b)]), some (.int (vN es st a)), some (.int (vN es st b)), none]) (S1 := S) rfl).trans ?_
    refine (x_go (ρ1 := [some (.dic (numD es st)), some (stP st), some (cdP (.cmp lt a b)), some (.lst [.int (vN es st a), .int (vN es st b)]), some (.int (vN es st a)), some (.int (vN es st b)), none]) (S1 := S) (x_if (k := false) (S1 := S) (by cases lt <;> kernel_rfl) rfl)).trans ?_
    refine x_end (x_if (k := true) (S1 := S) (by cases lt <;> kernel_rfl) ?_)
    cases lt <;> exact x_end rfl
  | @nt n a ga ih =>
    intro S d
    have e1 := ih S d
    refine call_at (x := ⟨3, 7, ir13⟩) rfl rfl ?_
    refine (x_go (ρ1 := [some (.dic (numD es st)), some (stP st), some (cdP (.nt a)), none, none, none, none]) (S1 := S) (x_if (k := false) (S1 := S) rfl rfl)).trans ?_
    refine (x_go (ρ1 := [some (.dic (numD es st)), some (stP st), some (cdP (.nt a)), none, none, none, none]) (S1 := S) (x_if (k := false) (S1 := S) rfl rfl)).trans ?_
    refine (x_go (ρ1 := [some (.dic (numD es st)), some (stP st), some (cdP (.nt a)), none, none, none, none]) (S1 := S) (x_if (k := false) (S1 := S) rfl rfl)).trans ?_
    refine (x_go (ρ1 := [some (.dic (numD es st)), some (stP st), some (cdP (.nt a)), some (.lst [.bl (vC es st a)]), none, none, none]) (S1 := S) ?_).trans ?_
    · show (((turns (turnF (ev (call irT 0 (d + n + 4)) 59) none elT) (.nm 6) [some (.dic (numD es st)), some (stP st), some (cdP (.nt a)), none, none, none, none] [cdP a] [] S).bind fun ys S2 => Res.ok (PV.lst ys) S2).bind _) = _
      rw [lot1 e1]
      rfl
    exact x_end (x_if (k := true) (S1 := S) rfl (x_end rfl))
  | @jn n o a b ga gb ih1 ih2 =>
    intro S d
    have e1 := ih1 S d
    have e2 := ih2 S d
    refine call_at (x := ⟨3, 7, ir13⟩) rfl rfl ?_
    refine (x_go (ρ1 := [some (.dic (numD es st)), some (stP st), some (cdP (.jn o a b)), none, none, none, none]) (S1 := S) (x_if (k := false) (S1 := S) rfl rfl)).trans ?_
    refine (x_go (ρ1 := [some (.dic (numD es st)), some (stP st), some (cdP (.jn o a b)), none, none, none, none]) (S1 := S) (x_if (k := false) (S1 := S) (by cases o <;> rfl) rfl)).trans ?_
    refine (x_go (ρ1 := [some (.dic (numD es st)), some (stP st), some (cdP (.jn o a b)), none, none, none, none]) (S1 := S) (x_if (k := false) (S1 := S) (by cases o <;> rfl) rfl)).trans ?_
    refine (x_go (ρ1 := [some (.dic (numD es st)), some (stP st), some (cdP (.jn o a b)), some (.lst [.bl (vC es st a), .bl (vC es st b)]), none, none, none]) (S1 := S) ?_).trans ?_
    · show (((turns (turnF (ev (call irT 0 (d + n + 4)) 59) none elT) (.nm 6) [some (.dic (numD es st)), some (stP st), some (cdP (.jn o a b)), none, none, none, none] [cdP a, cdP b] [] S).bind fun ys S2 => Res.ok (PV.lst ys) S2).bind _) = _
      rw [lot2 e1 e2]
      rfl
    refine (x_go (ρ1 := [some (.dic (numD es st)), some (stP st), some (cdP (.jn o a b)), some (.lst [.bl (vC es st a), .bl (vC es st b)]), none, none, none]) (S1 := S) (x_if (k := false) (S1 := S) (by cases o <;> rfl) rfl)).trans ?_
    refine (x_go (ρ1 := [some (.dic (numD es st)), some (stP st), some (cdP (.jn o a b)), some (.lst [.bl (vC es st a), .bl (vC es st b)]), some (.bl (vC es st a)), some (.bl (vC es st b)), none]) (S1 := S) rfl).trans ?_
    refine x_end (x_if (k := true) (S1 := S) (by cases o <;> kernel_rfl) ?_)
    refine x_end ?_
    show _ = Res.ok (Out.rt (.bl (if o then vC es st a || vC es st b else vC es st a && vC es st b))) S
    cases o <;> cases vC es st a <;> rfl
end K04
set_option maxRecDepth 100000
set_option maxHeartbeats 4000000
/-! L12: the law's value; putting, both ways. -/
namespace K04
open PySem Pi
theorem valueL {es : Ent} (ge : GE es) {st : List Int} (gs : GS es st) {it r : PV} {S : Store} {d : Nat} (e : call irT 0 d 13 [.dic (numD es st), stP st, it] S = .ok r S) : call irT 0 (d + 1) 14 [entP es, stP st, it] S = .ok r S := by
  refine call_at (x := ⟨3, 4, ir14⟩) rfl rfl (x_end ?_)
  have key : (ev (call irT 0 d) 60).e (.call 13 [(.blt .dictZip [(.comp false [3] (.nm 3) (.var 0) none (.idx (.var 3) (.con (.int 0)))), (.var 1)]), (.var 1), (.var 2)]) [some (entP es), some (stP st), some it, none] S = call irT 0 d 13 [.dic (numD es st), stP st, it] S := by
    cases ge with
    | @one y l h hy hb =>
      obtain ⟨v, rfl, b1, b2⟩ := st1 (es := []) gs
      rcases hy with rfl | rfl | rfl <;> kernel_rfl
    | @two y z l h l' h' hy hb hb2 =>
      obtain ⟨v, w, rfl, ⟨b1, b2⟩, b3, b4⟩ := st2 gs
      rcases hy with ⟨rfl, rfl⟩ | ⟨rfl, rfl⟩ | ⟨rfl, rfl⟩ <;> kernel_rfl
  show ((ev (call irT 0 d) 60).e (.call 13 [(.blt .dictZip [(.comp false [3] (.nm 3) (.var 0) none (.idx (.var 3) (.con (.int 0)))), (.var 1)]), (.var 1), (.var 2)]) [some (entP es), some (stP st), some it, none] S).bind _ = _
  rw [key, e]
  rfl
def clampP (l h v : Int) : Int := if (if v > l then v else l) < h then (if v > l then v else l) else h
def clampL (l h v : Int) : Int := if h < (if l > v then l else v) then h else (if l > v then l else v)
theorem clamp_eq (l h v : Int) : clampL l h v = clampP l h v := by
  unfold clampL clampP
  split <;> split <;> split <;> first | omega | (split <;> omega)
theorem clamp_bd {l h v : Int} (hb : okB l h) : -10 ≤ clampP l h v ∧ clampP l h v ≤ 20 := by
  obtain ⟨b1, b2, b3⟩ := hb
  unfold clampP
  split <;> split <;> omega
/-- the state with the count put in -/
def putV : Ent → List Int → Str → Int → List Int
  | (y, l, h) :: es, w :: st, x, v => (if eqS y x then clampP l h v else w) :: putV es st x v
  | _, _, _, _ => []
theorem get_add (S : Store) (o : PObj) : (S.add o).get S.size = some o := by
  show (S.objs ++ [o])[S.objs.length]? = _
  rw [List.getElem?_append_right (Nat.le_refl _)]
  simp
theorem put_add (S : Store) (o u : PObj) : (S.add o).put S.size u = S.add u := by
  show (⟨(S.objs ++ [o]).set S.objs.length u⟩ : Store) = ⟨S.objs ++ [u]⟩
  rw [List.set_append_right _ _ (Nat.le_refl _)]
  simp
/-- put_in -/
theorem put_ok {es : Ent} (ge : GE es) {st : List Int} (gs : GS es st) {x : Str} (hx : x ∈ es.map (·.1)) {a : Nm} (ga : GN es 2 a) (S : Store) (d : Nat) : call irT 0 (d + 5) 4 [entP es, stP st, .str x, nmP a] S = .ok (stP (putV es st x (vN es st a))) S := by
  obtain ⟨k, e1, _⟩ := place ge gs hx S (d + 3)
  have e2 := value ge gs ga (by omega) S d
  generalize vN es st a = v at e2 ⊢
  refine call_at (x := ⟨4, 9, ir4⟩) rfl rfl ?_
  have main : ∀ (k : Nat) (l h : Int), L2.atI (es.map entP1) (k : Int) = some (.tup [.str x, .int l, .int h]) → call irT 0 (d + 4) 1 [entP es, .str x] S = .ok (.int k) S → (ev (call irT 0 (d + 4)) 60).e (.tup [(.star (.slc (.var 1) none (some (.var 4)))), (.var 8), (.star (.slc (.var 1) (some (.bin .add (.var 4) (.con (.int 1)))) none))]) [some (entP es), some (stP st), some (.str x), some (nmP a), some (.int k), some (.str x), some (.int l), some (.int h), some (.int (clampP l h v))] S = .ok (stP (putV es st x v)) S →
      xss (xe (ev (call irT 0 (d + 4)) 60) 0 20) ir4 [some (entP es), some (stP st), some (.str x), some (nmP a), none, none, none, none, none] S = .ok (.rt (stP (putV es st x v))) S := fun k l h e3 e1 e4 => by
    refine (x_go (ρ1 := [some (entP es), some (stP st), some (.str x), some (nmP a), some (.int k), none, none, none, none]) (S1 := S) ?_).trans ?_
    · show (call irT 0 (d + 4) 1 [entP es, .str x] S).bind _ = _
      rw [e1]
      rfl
    refine (x_go (ρ1 := [some (entP es), some (stP st), some (.str x), some (nmP a), some (.int k), some (.str x), some (.int l), some (.int h), none]) (S1 := S) ?_).trans ?_
    · show (ofO S (L2.atI (es.map entP1) (k : Int))).bind _ = _
      rw [e3]
      rfl
    refine (x_go (ρ1 := [some (entP es), some (stP st), some (.str x), some (nmP a), some (.int k), some (.str x), some (.int l), some (.int h), some (.int (clampP l h v))]) (S1 := S) ?_).trans ?_
    · show (((((((call irT 0 (d + 4) 2 [entP es, stP st, nmP a] S).bind _).bind _).bind _).bind _).bind _).bind _).bind _ = _
      rw [e2]
      rfl
    refine x_end ?_
    show ((ev (call irT 0 (d + 4)) 60).e (.tup [(.star (.slc (.var 1) none (some (.var 4)))), (.var 8), (.star (.slc (.var 1) (some (.bin .add (.var 4) (.con (.int 1)))) none))]) [some (entP es), some (stP st), some (.str x), some (nmP a), some (.int k), some (.str x), some (.int l), some (.int h), some (.int (clampP l h v))] S).bind _ = _
    rw [e4]
    rfl
  cases ge with
  | @one y l h hy hb =>
    obtain ⟨w, rfl, b1, b2⟩ := st1 (es := []) gs
    simp at hx
    subst hx
    rcases hy with rfl | rfl | rfl <;> exact main 0 l h rfl (call_at (x := ⟨2, 3, ir1⟩) rfl rfl (by kernel_rfl)) (by kernel_rfl)
  | @two y z l h l' h' hy hb hb2 =>
    obtain ⟨w, u, rfl, ⟨b1, b2⟩, b3, b4⟩ := st2 gs
    simp at hx
    rcases hy with ⟨rfl, rfl⟩ | ⟨rfl, rfl⟩ | ⟨rfl, rfl⟩ <;> rcases hx with rfl | rfl
    · exact main 0 l h rfl (call_at (x := ⟨2, 3, ir1⟩) rfl rfl (by kernel_rfl)) (by kernel_rfl)
    · exact main 1 l' h' rfl (call_at (x := ⟨2, 3, ir1⟩) rfl rfl (by kernel_rfl)) (by kernel_rfl)
    · exact main 0 l h rfl (call_at (x := ⟨2, 3, ir1⟩) rfl rfl (by kernel_rfl)) (by kernel_rfl)
    · exact main 1 l' h' rfl (call_at (x := ⟨2, 3, ir1⟩) rfl rfl (by kernel_rfl)) (by kernel_rfl)
    · exact main 0 l h rfl (call_at (x := ⟨2, 3, ir1⟩) rfl rfl (by kernel_rfl)) (by kernel_rfl)
    · exact main 1 l' h' rfl (call_at (x := ⟨2, 3, ir1⟩) rfl rfl (by kernel_rfl)) (by kernel_rfl)
end K04
set_option maxRecDepth 100000
set_option maxHeartbeats 4000000
/-! L13: the law's own put. -/
namespace K04
open PySem Pi
theorem app_step {cf : CF} {n : Nat} {ρ : PEnv} {S : Store} {xs : List PV} {i : Nat} {el : E} {y : PV} (h5 : ρ[i]? = some (some (.ref S.size))) (he : isStar el = false) (hy : (ev cf n).e el ρ (S.add (.lst xs)) = .ok y (S.add (.lst xs))) (hv : (ev cf n).e (.var i) ρ (S.add (.lst xs)) = .ok (.ref S.size) (S.add (.lst xs))) (hl : xs.length < szl) :
    (ev cf (n + 1)).e (.meth .append (.var i) [el]) ρ (S.add (.lst xs)) = .ok .non (S.add (.lst (xs ++ [y]))) := by
  rw [i_meth, hv, b_ok]
  have hd : dr (S.add (.lst xs)) (.ref S.size) = .lst xs := by
    unfold dr
    simp only
    rw [get_add]
  rw [hd, show isL (.lst xs) = true from rfl, if_pos rfl, evs_cons he]
  show (((ev cf n).e el ρ (S.add (.lst xs))).bind _).bind _ = _
  rw [hy]
  show appendTo (S.add (.lst xs)) y (.ref S.size) = _
  unfold appendTo
  simp only
  rw [get_add]
  simp only
  have hb : Nat.blt xs.length szl = true := Nat.ble_eq_true_of_le hl
  rw [hb, if_pos rfl, put_add]
abbrev elP : E := .ifx (.cmp .ne (.idx (.var 6) (.con (.int 0))) (.var 2)) (.var 7) (.blt .min2 [(.blt .max2 [(.var 4), (.idx (.var 6) (.con (.int 1)))]), (.idx (.var 6) (.con (.int 2)))])
abbrev bdP : List Sm := [(.exp (.meth .append (.var 5) [elP]))]
theorem elP_ok {cf : CF} {n : Nat} {p0 p1 p3 p5 : Option PV} {x y : Str} {v w l h : Int} (S : Store) : (ev cf (n + 8)).e elP [p0, p1, some (.str x), p3, some (.int v), p5, some (entP1 (y, l, h)), some (.int w)] S = .ok (.int (if eqS y x then clampP l h v else w)) S := by
  show (if (!eqS y x) = true then Res.ok (PV.int w) S else Res.ok (PV.int (clampL l h v)) S) = _
  rw [clamp_eq]
  cases eqS y x <;> rfl
theorem putLoop {cf : CF} {p0 p1 p3 : Option PV} {x : Str} {v : Int} {S : Store} : ∀ {es : Ent} {st : List Int} (acc : List Int) (p6 p7 : Option PV), es.length = st.length → acc.length + es.length ≤ 100 → ∃ p6' p7',
    loopS (xss (xe (ev cf 60) 0 19) bdP) (.tup [.nm 6, .nm 7]) (zipL (es.map entP1) (st.map .int)) [p0, p1, some (.str x), p3, some (.int v), some (.ref S.size), p6, p7] (S.add (.lst (acc.map .int))) = .ok (.nx [p0, p1, some (.str x), p3, some (.int v), some (.ref S.size), p6', p7']) (S.add (.lst ((acc ++ putV es st x v).map .int)))
  | [], [], acc, p6, p7, _, _ => ⟨p6, p7, by
    rw [show putV [] [] x v = [] from rfl, List.append_nil]
    rfl⟩
  | [], w :: st, _, _, _, h, _ => by simp at h
  | e :: es, [], _, _, _, h, _ => by simp at h
  | (y, l, h) :: es, w :: st, acc, p6, p7, hl, hb => by
    simp only [List.length_cons] at hl hb
    obtain ⟨q6, q7, ih⟩ := putLoop (cf := cf) (p0 := p0) (p1 := p1) (p3 := p3) (x := x) (v := v) (S := S) (es := es) (st := st) (acc ++ [if eqS y x then clampP l h v else w]) (some (entP1 (y, l, h))) (some (.int w)) (by omega) (by simp; omega)
    refine ⟨q6, q7, ?_⟩
    have step : xss (xe (ev cf 60) 0 19) bdP [p0, p1, some (.str x), p3, some (.int v), some (.ref S.size), some (entP1 (y, l, h)), some (.int w)] (S.add (.lst (acc.map .int))) = .ok (.nx [p0, p1, some (.str x), p3, some (.int v), some (.ref S.size), some (entP1 (y, l, h)), some (.int w)]) (S.add (.lst (acc.map .int ++ [.int (if eqS y x then clampP l h v else w)]))) := by
      refine x_go ?_
      show ((ev cf 60).e (.meth .append (.var 5) [elP]) _ _).bind _ = _
      rw [app_step (n := 59) (i := 5) (S := S) (xs := acc.map .int) rfl rfl (elP_ok (n := 51) _) rfl (by rw [List.length_map]; unfold szl; omega)]
      rfl
    show ((xss (xe (ev cf 60) 0 19) bdP [p0, p1, some (.str x), p3, some (.int v), some (.ref S.size), some (entP1 (y, l, h)), some (.int w)] (S.add (.lst (acc.map .int)))).bind fun o S1 => match o with
      | .nx ρ2 => loopS (xss (xe (ev cf 60) 0 19) bdP) (.tup [.nm 6, .nm 7]) (zipL (es.map entP1) (st.map .int)) ρ2 S1
      | .ct ρ2 => loopS (xss (xe (ev cf 60) 0 19) bdP) (.tup [.nm 6, .nm 7]) (zipL (es.map entP1) (st.map .int)) ρ2 S1
      | .bk ρ2 => .ok (.nx ρ2) S1
      | .rt v => .ok (.rt v) S1) = _
    rw [step]
    rw [List.map_append] at ih
    refine Eq.trans ih ?_
    show Res.ok _ (S.add (.lst (((acc ++ [if eqS y x then clampP l h v else w]) ++ putV es st x v).map .int))) = Res.ok _ (S.add (.lst ((acc ++ (if eqS y x then clampP l h v else w) :: putV es st x v).map .int)))
    rw [List.append_assoc]
    rfl
/-- the law's put: a list is laid beside -/
theorem putL_ok {es : Ent} (ge : GE es) {st : List Int} (gs : GS es st) {x : Str} {a : Nm} (ga : GN es 2 a) (S : Store) (d : Nat) :
    call irT 0 (d + 5) 15 [entP es, stP st, .str x, nmP a] S = .ok (stP (putV es st x (vN es st a))) (S.add (.lst ((putV es st x (vN es st a)).map .int))) := by
  have e2 := valueL ge gs (toldN ge gs ga (by omega) S d)
  obtain ⟨q6, q7, lp⟩ := putLoop (cf := call irT 0 (d + 4)) (p0 := some (entP es)) (p1 := some (stP st)) (p3 := some (nmP a)) (x := x) (v := vN es st a) (S := S) (es := es) (st := st) [] none none gs.1.symm (by have := ge.bounds; simp; omega)
  refine call_at (x := ⟨4, 8, ir15⟩) rfl rfl ?_
  refine (x_go (ρ1 := [some (entP es), some (stP st), some (.str x), some (nmP a), some (.int (vN es st a)), none, none, none]) (S1 := S) ?_).trans ?_
  · show (call irT 0 (d + 4) 14 [entP es, stP st, nmP a] S).bind _ = _
    rw [e2]
    rfl
  refine (x_go (ρ1 := [some (entP es), some (stP st), some (.str x), some (nmP a), some (.int (vN es st a)), some (.ref S.size), none, none]) (S1 := S.add (.lst [])) rfl).trans ?_
  refine (x_go (ρ1 := [some (entP es), some (stP st), some (.str x), some (nmP a), some (.int (vN es st a)), some (.ref S.size), q6, q7]) (S1 := S.add (.lst ((putV es st x (vN es st a)).map .int))) ?_).trans ?_
  · exact lp
  · refine x_end ?_
    have hd : dr (S.add (.lst ((putV es st x (vN es st a)).map .int))) (.ref S.size) = .lst ((putV es st x (vN es st a)).map .int) := by
      unfold dr
      simp only
      rw [get_add]
    show (ofO _ ((match dr (S.add (.lst ((putV es st x (vN es st a)).map .int))) (.ref S.size) with
      | .tup xs | .lst xs => some xs
      | _ => none).map PV.tup)).bind _ = _
    rw [hd]
    rfl
end K04
set_option maxRecDepth 100000
set_option maxHeartbeats 4000000
/-! L14: texts shown, their sizes. -/
namespace Pi
open PySem
theorem textFrom_le : ∀ (ts : List Str) (k : Nat) (acc : Str), (textFrom k acc ts).length ≤ acc.length + piled ts
  | [], k, acc => Nat.le_add_right _ _
  | t :: r, k, acc => by
    have h := textFrom_le r (k + 1) (acc ++ (if k > 0 then ", " else "" : String) ++ t)
    have e : (acc ++ ((if k > 0 then ", " else "" : String) : Str) ++ t).length ≤ acc.length + t.length + 2 := by
      rw [strLen_append, strLen_append]
      have : (((if k > 0 then ", " else "" : String) : Str)).length ≤ 2 := by split <;> decide
      omega
    have p : piled (t :: r) = t.length + 2 + piled r := by simp [piled]
    show (textFrom (k + 1) _ r).length ≤ _
    omega
theorem listText_le (ts : List Str) : (listText ts).length ≤ piled ts + 2 := by
  have h := textFrom_le ts 0 "["
  have e : (("[" : String) : Str).length = 1 := rfl
  show (textFrom 0 "[" ts ++ "]").length ≤ _
  rw [strLen_append]
  have e2 : (("]" : String) : Str).length = 1 := rfl
  omega
theorem tupleText_le (ts : List Str) : (tupleText ts).length ≤ piled ts + 4 := by
  unfold tupleText
  rw [strLen_append, strLen_append]
  have e : (("(" : String) : Str).length = 1 := rfl
  have e2 : (((if ts.length == 1 then ",)" else ")" : String)) : Str).length ≤ 2 := by split <;> decide
  by_cases h : ts = []
  · subst h
    have : (Str.join (", " : Str) ([] : List Str)).length = 0 := rfl
    omega
  · have := join_length_add ts h
    omega
theorem piled_le {m : Nat} : ∀ {ds : List PyData}, (∀ d ∈ ds, d.shown.length ≤ m) → piled (PyData.shownAll ds) ≤ ds.length * (m + 2)
  | [], _ => by simp [PyData.shownAll, piled]
  | d :: ds, h => by
    have h1 := h d List.mem_cons_self
    have h2 := piled_le fun e he => h e (List.mem_cons_of_mem _ he)
    have p : piled (PyData.shownAll (d :: ds)) = d.shown.length + 2 + piled (PyData.shownAll ds) := by
      simp [PyData.shownAll, piled]
    rw [p, List.length_cons, Nat.add_mul]
    omega
theorem sh_list {m : Nat} {ds : List PyData} (h : ∀ d ∈ ds, d.shown.length ≤ m) : (PyData.shown (.list ds)).length ≤ ds.length * (m + 2) + 4 := by
  have h1 := piled_le h
  have h2 := listText_le (PyData.shownAll ds)
  simp only [PyData.shown]
  omega
theorem sh_tuple {m : Nat} {ds : List PyData} (h : ∀ d ∈ ds, d.shown.length ≤ m) : (PyData.shown (.tuple ds)).length ≤ ds.length * (m + 2) + 4 := by
  have h1 := piled_le h
  have h2 := tupleText_le (PyData.shownAll ds)
  simp only [PyData.shown]
  omega
theorem sh_int {i : Int} (h : -1000000 ≤ i ∧ i ≤ 1000000) : (PyData.shown (.int i)).length ≤ 20 ∧ (PyData.int i).showable = true := by
  have e := int_text_length_le10 (a := i) (k := 10) (by decide) (by omega)
  refine ⟨?_, ?_⟩
  · simp only [PyData.shown]
    show (Str.ofString (toString i)).length ≤ 20
    rw [ofString_length]
    omega
  · simp only [PyData.showable, decide_eq_true_eq]
    have h2 : i.natAbs < 2 ^ 1920 := Nat.lt_of_le_of_lt (show i.natAbs ≤ 2 ^ 20 by omega) (Nat.pow_lt_pow_right (by decide) (by decide))
    by_cases h0 : i.natAbs = 0
    · rw [h0]; decide
    · exact (Nat.log2_lt h0).mpr h2
/-- what repr gives -/
theorem repr_ok {S : Store} {v : PV} {d : PyData} (e : dat 40 S v = some d) (h1 : d.showable = true) (h2 : d.shown.length ≤ szl) (h3 : d.depth ≤ 40) : bltOf .repr S [v] = .ok (.str d.shown) S := by
  show ofO S (match dat 40 S v with
    | some d => if PyData.showable d && Nat.ble (PyData.shown d).length szl && Nat.ble d.depth 40 then some (PV.str (PyData.shown d)) else none
    | none => none) = _
  rw [e]
  simp only
  rw [h1, Nat.ble_eq_true_of_le h2, Nat.ble_eq_true_of_le h3]
  rfl
end Pi
set_option maxRecDepth 100000
set_option maxHeartbeats 4000000
/-! L15: what is drawn, shown. -/
namespace K04
open PySem Pi
/-- data that can be shown, of a size, of a depth -/
structure Shw (d : PyData) (m k : Nat) : Prop where
  ok : d.showable = true
  len : d.shown.length ≤ m
  dep : d.depth ≤ k
theorem Shw.up {d : PyData} {m k m' k' : Nat} (h : Shw d m k) (h1 : m ≤ m') (h2 : k ≤ k') : Shw d m' k' := ⟨h.ok, Nat.le_trans h.len h1, Nat.le_trans h.dep h2⟩
theorem shwAll {m k : Nat} : ∀ {ds : List PyData}, (∀ d ∈ ds, Shw d m k) → PyData.showableAll ds = true ∧ PyData.depthAll ds ≤ k
  | [], _ => by simp [PyData.showableAll, PyData.depthAll]
  | d :: ds, h => by
    obtain ⟨h1, h2⟩ := shwAll fun e he => h e (List.mem_cons_of_mem _ he)
    have h3 := h d List.mem_cons_self
    have h4 := h3.dep
    simp only [PyData.showableAll, PyData.depthAll, h3.ok, h1, Bool.and_self, true_and]
    omega
theorem shw_tup {m k : Nat} {ds : List PyData} (h : ∀ d ∈ ds, Shw d m k) : Shw (.tuple ds) (ds.length * (m + 2) + 4) (k + 1) := by
  obtain ⟨h1, h2⟩ := shwAll h
  refine ⟨by simpa [PyData.showable] using h1, sh_tuple fun d hd => (h d hd).len, ?_⟩
  simp only [PyData.depth]
  omega
theorem shw_lst {m k : Nat} {ds : List PyData} (h : ∀ d ∈ ds, Shw d m k) : Shw (.list ds) (ds.length * (m + 2) + 4) (k + 1) := by
  obtain ⟨h1, h2⟩ := shwAll h
  refine ⟨by simpa [PyData.showable] using h1, sh_list fun d hd => (h d hd).len, ?_⟩
  simp only [PyData.depth]
  omega
theorem shw_int {i : Int} (h : -1000000 ≤ i ∧ i ≤ 1000000) : Shw (.int i) 20 0 := ⟨(sh_int h).2, (sh_int h).1, by simp [PyData.depth]⟩
theorem shw_str {x : Str} (h : Nat.ble (reprText x).length 20 = true) : Shw (.str x) 20 0 := ⟨by simp [PyData.showable], by simp only [PyData.shown]; exact Nat.le_of_ble_eq_true h, by simp [PyData.depth]⟩
theorem shw_ints {r : List Int} (h : ∀ i ∈ r, -1000000 ≤ i ∧ i ≤ 1000000) : Shw (stD r) (r.length * 22 + 4) 1 := by
  have q := shw_tup (ds := r.map PyData.int) (m := 20) (k := 0) fun d hd => by
    obtain ⟨i, hi, rfl⟩ := List.mem_map.mp hd
    exact shw_int (h i hi)
  rw [List.length_map] at q
  exact q
/-! ### names -/
def okS (x : Str) : Prop := Nat.ble (reprText x).length 20 = true
theorem GE.name {es : Ent} (h : GE es) {x : Str} (hx : x ∈ es.map (·.1)) : okS x := by
  cases h with
  | one hy _ =>
    simp at hx
    subst hx
    rcases hy with rfl | rfl | rfl <;> (unfold okS; decide +kernel)
  | two hy _ _ =>
    simp at hx
    rcases hy with ⟨rfl, rfl⟩ | ⟨rfl, rfl⟩ | ⟨rfl, rfl⟩ <;> rcases hx with rfl | rfl <;> (unfold okS; decide +kernel)
theorem okItem : okS sItem := by unfold okS; decide +kernel
theorem okIn : okS sIn := by unfold okS; decide +kernel
theorem okOp (o : Op) : okS (opS o) := by cases o <;> (unfold okS; decide +kernel)
/-! ### numbers -/
def nmD : Nm → PyData
  | .lit i => .int i
  | .it x => .tuple [.str sItem, .str x]
  | .op o a b => .tuple [.str (opS o), nmD a, nmD b]
theorem dat2 {k : Nat} {S : Store} {x y : PV} {a b : PyData} (h1 : dat k S x = some a) (h2 : dat k S y = some b) : dat (k + 1) S (.tup [x, y]) = some (.tuple [a, b]) := by
  show (mapO (dat k S) [x, y]).map PyData.tuple = _
  simp only [mapO, h1, h2]
  rfl
theorem dat3 {k : Nat} {S : Store} {x y z : PV} {a b c : PyData} (h1 : dat k S x = some a) (h2 : dat k S y = some b) (h3 : dat k S z = some c) : dat (k + 1) S (.tup [x, y, z]) = some (.tuple [a, b, c]) := by
  show (mapO (dat k S) [x, y, z]).map PyData.tuple = _
  simp only [mapO, h1, h2, h3]
  rfl
theorem dat_nm {es : Ent} {n : Nat} {a : Nm} (g : GN es n a) : ∀ {k : Nat} {S : Store}, n + 1 ≤ k → dat k S (nmP a) = some (nmD a) := by
  induction g with
  | lit _ _ => intro k S _; exact dat_int
  | it _ =>
    intro k S h
    obtain ⟨j, rfl⟩ : ∃ j, k = j + 1 := ⟨k - 1, by omega⟩
    exact dat2 dat_str dat_str
  | @op n o a b _ _ ih1 ih2 =>
    intro k S h
    obtain ⟨j, rfl⟩ : ∃ j, k = j + 1 := ⟨k - 1, by omega⟩
    exact dat3 dat_str (ih1 (by omega)) (ih2 (by omega))
def mN : Nat → Nat
  | 0 => 60
  | n + 1 => 3 * (mN n + 2) + 4
theorem mN_pos : ∀ n, 60 ≤ mN n
  | 0 => by simp [mN]
  | n + 1 => by have := mN_pos n; simp only [mN]; omega
theorem shw_nm {es : Ent} (ge : GE es) {n : Nat} {a : Nm} (g : GN es n a) : Shw (nmD a) (mN n) (n + 1) := by
  induction g with
  | @lit n i h1 h2 => exact (shw_int (by omega)).up (by have := mN_pos n; omega) (by omega)
  | @it n x h =>
    refine (shw_tup (ds := [.str sItem, .str x]) (m := 20) (k := 0) fun d hd => ?_).up (by have := mN_pos n; simp only [List.length_cons, List.length_nil]; omega) (by omega)
    simp only [List.mem_cons, List.mem_nil_iff, or_false] at hd
    rcases hd with rfl | rfl
    · exact shw_str okItem
    · exact shw_str (ge.name h)
  | @op n o a b _ _ ih1 ih2 =>
    refine (shw_tup (ds := [.str (opS o), nmD a, nmD b]) (m := mN n) (k := n + 1) fun d hd => ?_).up (by simp only [List.length_cons, List.length_nil, mN]; omega) (by omega)
    simp only [List.mem_cons, List.mem_nil_iff, or_false] at hd
    rcases hd with rfl | rfl | rfl
    · exact (shw_str (okOp o)).up (by have := mN_pos n; omega) (by omega)
    · exact ih1
    · exact ih2
/-! ### conditions -/
def cdD : Cd → PyData
  | .ins rows => .tuple [.str sIn, .tuple (rows.map stD)]
  | .cmp lt a b => .tuple [.str (if lt then ⟨#[60]⟩ else ⟨#[61]⟩), nmD a, nmD b]
  | .nt a => .tuple [.str ⟨#[110, 111, 116]⟩, cdD a]
  | .jn o a b => .tuple [.str (if o then ⟨#[111, 114]⟩ else ⟨#[97, 110, 100]⟩), cdD a, cdD b]
theorem dat_cd {es : Ent} {n : Nat} {a : Cd} (g : GC es n a) : ∀ {k : Nat} {S : Store}, n + 4 ≤ k → dat k S (cdP a) = some (cdD a) := by
  induction g with
  | @ins n rows _ _ =>
    intro k S h
    obtain ⟨j, rfl⟩ : ∃ j, k = j + 3 := ⟨k - 3, by omega⟩
    refine dat2 (k := j + 2) dat_str ?_
    show (mapO (dat (j + 1) S) (rows.map stP)).map PyData.tuple = _
    rw [dat_sts]
    rfl
  | @cmp n lt a b ga gb =>
    intro k S h
    obtain ⟨j, rfl⟩ : ∃ j, k = j + 1 := ⟨k - 1, by omega⟩
    exact dat3 dat_str (dat_nm ga (by omega)) (dat_nm gb (by omega))
  | @nt n a _ ih =>
    intro k S h
    obtain ⟨j, rfl⟩ : ∃ j, k = j + 1 := ⟨k - 1, by omega⟩
    exact dat2 dat_str (ih (by omega))
  | @jn n o a b _ _ ih1 ih2 =>
    intro k S h
    obtain ⟨j, rfl⟩ : ∃ j, k = j + 1 := ⟨k - 1, by omega⟩
    exact dat3 dat_str (ih1 (by omega)) (ih2 (by omega))
def mC : Nat → Nat
  | 0 => 3000
  | n + 1 => 3 * (mC n + 2) + 4
theorem mC_pos : ∀ n, 3000 ≤ mC n
  | 0 => by simp [mC]
  | n + 1 => by have := mC_pos n; simp only [mC]; omega
theorem shw_cd {es : Ent} (ge : GE es) {n : Nat} {a : Cd} (g : GC es n a) : Shw (cdD a) (mC n) (n + 4) := by
  induction g with
  | @ins n rows h1 h2 =>
    have e2 := ge.bounds.2.1
    have hr : Shw (.tuple (rows.map stD)) (rows.length * (60 + 2) + 4) 2 := by
      have q := shw_tup (ds := rows.map stD) (m := 60) (k := 1) fun d hd => by
        obtain ⟨r, hr, rfl⟩ := List.mem_map.mp hd
        obtain ⟨l, b⟩ := h2 r hr
        exact (shw_ints fun i hi => by have := b i hi; omega).up (by omega) (by omega)
      rw [List.length_map] at q
      exact q
    refine (shw_tup (ds := [.str sIn, .tuple (rows.map stD)]) (m := 400) (k := 2) fun d hd => ?_).up (by have := mC_pos n; simp only [List.length_cons, List.length_nil]; omega) (by omega)
    simp only [List.mem_cons, List.mem_nil_iff, or_false] at hd
    rcases hd with rfl | rfl
    · exact (shw_str okIn).up (by omega) (by omega)
    · exact hr.up (by omega) (by omega)
  | @cmp n lt a b ga gb =>
    have q1 := shw_nm ge ga
    have q2 := shw_nm ge gb
    have e : mN 2 = 616 ∨ mN 2 ≤ 700 := .inr (by simp [mN])
    refine (shw_tup (ds := [.str (if lt then ⟨#[60]⟩ else ⟨#[61]⟩), nmD a, nmD b]) (m := 700) (k := 3) fun d hd => ?_).up (by have := mC_pos n; simp only [List.length_cons, List.length_nil]; omega) (by omega)
    simp only [List.mem_cons, List.mem_nil_iff, or_false] at hd
    rcases hd with rfl | rfl | rfl
    · exact (shw_str (by cases lt <;> decide +kernel)).up (by omega) (by omega)
    · exact q1.up (by simp [mN]) (by omega)
    · exact q2.up (by simp [mN]) (by omega)
  | @nt n a _ ih =>
    refine (shw_tup (ds := [.str ⟨#[110, 111, 116]⟩, cdD a]) (m := mC n) (k := n + 4) fun d hd => ?_).up (by simp only [List.length_cons, List.length_nil, mC]; omega) (by omega)
    simp only [List.mem_cons, List.mem_nil_iff, or_false] at hd
    rcases hd with rfl | rfl
    · exact (shw_str (by decide +kernel)).up (by have := mC_pos n; omega) (by omega)
    · exact ih
  | @jn n o a b _ _ ih1 ih2 =>
    refine (shw_tup (ds := [.str (if o then ⟨#[111, 114]⟩ else ⟨#[97, 110, 100]⟩), cdD a, cdD b]) (m := mC n) (k := n + 4) fun d hd => ?_).up (by simp only [List.length_cons, List.length_nil, mC]; omega) (by omega)
    simp only [List.mem_cons, List.mem_nil_iff, or_false] at hd
    rcases hd with rfl | rfl | rfl
    · exact (shw_str (by cases o <;> decide +kernel)).up (by have := mC_pos n; omega) (by omega)
    · exact ih1
    · exact ih2
/-! ### entries -/
def entD1 (e : Str × Int × Int) : PyData := .tuple [.str e.1, .int e.2.1, .int e.2.2]
def entD (es : Ent) : PyData := .tuple (es.map entD1)
theorem dat_ents {k : Nat} {S : Store} : ∀ es : Ent, mapO (dat (k + 1) S) (es.map entP1) = some (es.map entD1)
  | [] => rfl
  | e :: es => by
    show mapO (dat (k + 1) S) (entP1 e :: es.map entP1) = _
    unfold mapO
    rw [show dat (k + 1) S (entP1 e) = some (entD1 e) from dat3 dat_str dat_int dat_int, dat_ents es]
    rfl
theorem dat_ent {k : Nat} {S : Store} (es : Ent) : dat (k + 2) S (entP es) = some (entD es) := by
  show (mapO (dat (k + 1) S) (es.map entP1)).map PyData.tuple = _
  rw [dat_ents]
  rfl
theorem shw_ent {es : Ent} (ge : GE es) : Shw (entD es) 200 2 := by
  obtain ⟨b1, b2, b3⟩ := ge.bounds
  have q := shw_tup (ds := es.map entD1) (m := 70) (k := 1) fun d hd => by
    obtain ⟨e, he, rfl⟩ := List.mem_map.mp hd
    obtain ⟨c1, c2, c3⟩ := b1 e he
    refine (shw_tup (ds := [.str e.1, .int e.2.1, .int e.2.2]) (m := 20) (k := 0) fun d hd => ?_).up (by simp) (by omega)
    simp only [List.mem_cons, List.mem_nil_iff, or_false] at hd
    rcases hd with rfl | rfl | rfl
    · exact shw_str (ge.name (List.mem_map.mpr ⟨e, he, rfl⟩))
    · exact shw_int (by omega)
    · exact shw_int (by omega)
  rw [List.length_map] at q
  exact q.up (by omega) (by omega)
/-- all four -/
def allP (es : Ent) (st : List Int) (a : Nm) (c : Cd) : PV := .lst [entP es, stP st, nmP a, cdP c]
def allD (es : Ent) (st : List Int) (a : Nm) (c : Cd) : PyData := .list [entD es, stD st, nmD a, cdD c]
theorem repr_all {es : Ent} (ge : GE es) {st : List Int} (gs : GS es st) {a : Nm} (ga : GN es 2 a) {c : Cd} (gc : GC es 2 c) (S : Store) : bltOf .repr S [allP es st a c] = .ok (.str (allD es st a c).shown) S := by
  have e2 := ge.bounds.2.1
  have h : Shw (allD es st a c) (4 * (30000 + 2) + 4) 7 := by
    refine shw_lst (ds := [entD es, stD st, nmD a, cdD c]) (m := 30000) (k := 6) fun d hd => ?_
    simp only [List.mem_cons, List.mem_nil_iff, or_false] at hd
    rcases hd with rfl | rfl | rfl | rfl
    · exact (shw_ent ge).up (by omega) (by omega)
    · exact (shw_ints fun i hi => by have := gs.2 i hi; omega).up (by have := gs.1; omega) (by omega)
    · exact (shw_nm ge ga).up (by simp [mN]) (by omega)
    · exact (shw_cd ge gc).up (by simp [mC]) (by omega)
  refine repr_ok ?_ h.ok (Nat.le_trans h.len (by unfold szl; omega)) (Nat.le_trans h.dep (by omega))
  show (mapO (dat 39 S) [entP es, stP st, nmP a, cdP c]).map PyData.list = _
  simp only [mapO, dat_ent, dat_st, dat_nm ga (show 2 + 1 ≤ 39 by omega), dat_cd gc (show 2 + 4 ≤ 39 by omega)]
  rfl
theorem repr_int {i : Int} (h : -1000000 ≤ i ∧ i ≤ 1000000) (S : Store) : bltOf .repr S [.int i] = .ok (.str (PyData.shown (.int i))) S := by
  have q := shw_int h
  exact repr_ok dat_int q.ok (Nat.le_trans q.len (by unfold szl; omega)) (Nat.le_trans q.dep (by omega))
theorem repr_bl (b : Bool) (S : Store) : bltOf .repr S [.bl b] = .ok (.str (PyData.shown (.bool b))) S := by
  refine repr_ok rfl (by simp [PyData.showable]) ?_ (by simp [PyData.depth])
  cases b <;> decide +kernel
theorem repr_st {r : List Int} (hl : r.length ≤ 10) (h : ∀ i ∈ r, -1000000 ≤ i ∧ i ≤ 1000000) (S : Store) : bltOf .repr S [stP r] = .ok (.str (PyData.shown (stD r))) S := by
  have q := shw_ints h
  exact repr_ok (dat_st r) q.ok (Nat.le_trans q.len (by unfold szl; omega)) (Nat.le_trans q.dep (by omega))
end K04
set_option maxRecDepth 100000
set_option maxHeartbeats 4000000
/-! L16: a turn of the law. -/
namespace K04
open PySem Pi
abbrev B4 : List Sm := [(.par [5, 6] [(.call 9 [(.var 1), (.var 4)]), (.call 8 [(.var 1), (.var 4), (.con (.int 2))])]), (.par [7, 8] [(.call 10 [(.var 1), (.var 4), (.con (.int 2))]), (.idx (.idx (.var 4) (.call 6 [(.var 1), (.blt .len [(.var 4)])])) (.con (.int 0)))]), (.set (.nm 9) (.blt .repr [(.lst false [(.var 4), (.var 5), (.var 6), (.var 7)])])), (.iff (.cmp .ne (.blt .repr [(.call 2 [(.var 4), (.var 5), (.var 6)])]) (.blt .repr [(.call 14 [(.var 4), (.var 5), (.var 6)])])) [(.ret (.con (.bl false)))] []), (.iff (.cmp .ne (.blt .repr [(.call 3 [(.var 4), (.var 5), (.var 7)])]) (.blt .repr [(.call 14 [(.var 4), (.var 5), (.var 7)])])) [(.ret (.con (.bl false)))] []), (.iff (.cmp .ne (.blt .repr [(.call 4 [(.var 4), (.var 5), (.var 8), (.var 6)])]) (.blt .repr [(.call 15 [(.var 4), (.var 5), (.var 8), (.var 6)])])) [(.ret (.con (.bl false)))] []), (.iff (.cmp .ne (.blt .repr [(.lst false [(.var 4), (.var 5), (.var 6), (.var 7)])]) (.var 9)) [(.ret (.con (.bl false)))] [])]
/-- two texts that are one -/
theorem ne_same {S : Store} (x : Str) : ofB S (cop .ne S (.str x) (.str x)) = .ok false S := by
  show ofB S ((some (eqS x x)).map fun c => !c) = _
  rw [eqS_self]
  rfl
theorem putV_bd {x : Str} {v : Int} : ∀ {es : Ent} {st : List Int}, (∀ e ∈ es, okB e.2.1 e.2.2) → (∀ i ∈ st, -10 ≤ i ∧ i ≤ 20) → (putV es st x v).length ≤ es.length ∧ ∀ i ∈ putV es st x v, -10 ≤ i ∧ i ≤ 20
  | [], _, _, _ => ⟨Nat.le_refl _, fun i hi => by cases hi⟩
  | _ :: _, [], _, _ => ⟨Nat.zero_le _, fun i hi => by cases hi⟩
  | (y, l, h) :: es, w :: st, h1, h2 => by
    obtain ⟨q1, q2⟩ := putV_bd (es := es) (st := st) (x := x) (v := v) (fun e he => h1 e (List.mem_cons_of_mem _ he)) (fun i hi => h2 i (List.mem_cons_of_mem _ hi))
    refine ⟨Nat.succ_le_succ q1, fun i hi => ?_⟩
    rcases List.mem_cons.mp (show i ∈ (if eqS y x then clampP l h v else w) :: putV es st x v from hi) with rfl | hi
    · split
      · exact clamp_bd (h1 (y, l, h) List.mem_cons_self)
      · exact h2 w List.mem_cons_self
    · exact q2 i hi
theorem turn {cs : List Int} {es : Ent} (ge : GE es) {c : Int} {o : PObj} (h : RS cs c o) (hc : c + 200 ≤ 1000000000) (tl : List PObj) (p0 p2 p3 p5 p6 p7 p8 p9 p10 : Option PV) :
    ∃ q5 q6 q7 q8 q9 o' c' x, xss (xe (ev (call irT 0 15) 60) 0 18) B4 [p0, some (.ref 0), p2, p3, some (entP es), p5, p6, p7, p8, p9, p10] ⟨o :: tl⟩ = .ok (.nx [p0, some (.ref 0), p2, p3, some (entP es), q5, q6, q7, q8, q9, p10]) ⟨o' :: (tl ++ [x])⟩ ∧ RS cs c' o' ∧ c ≤ c' ∧ c' ≤ c + 200 := by
  obtain ⟨st, o1, c1, e1, h1, l1, u1, gs⟩ := state ge h (by omega) tl 13
  obtain ⟨a, o2, c2, e2, h2, l2, u2, ga⟩ := number ge tl 10 2 (deep := 2) h1 (by simp only [kN]; omega) (by omega)
  simp only [kN] at u2
  obtain ⟨k, o3, c3, e3, h3, l3, u3, gk⟩ := condition ge tl 8 2 (by omega) (deep := 2) h2 (by simp only [kC]; omega) (by omega)
  simp only [kC] at u3
  have l : ((es.map entP1).length : Int) = 1 ∨ ((es.map entP1).length : Int) = 2 := ge.len
  obtain ⟨u, o4, e4, h4, b3, b4⟩ := draw h3 (many := ((es.map entP1).length : Int)) (by omega) (by omega) (by omega) tl 14
  obtain ⟨e, he, ea⟩ := ge.at_ b3 b4
  have hx : e.1 ∈ es.map (·.1) := List.mem_map.mpr ⟨e, he, rfl⟩
  have vb := vN_bd ge gs ga
  have vb2 := bN2 (n := 2) (by omega)
  obtain ⟨pl, pb⟩ := putV_bd (x := e.1) (v := vN es st a) (es := es) (st := st) ge.bounds.1 gs.2
  have el2 := ge.bounds.2.1
  refine ⟨some (stP st), some (nmP a), some (cdP k), some (.str e.1), some (.str (allD es st a k).shown), o4, c3 + 1, .lst ((putV es st e.1 (vN es st a)).map .int), ?_, h4, by omega, by omega⟩
  refine (x_go (ρ1 := [p0, some (.ref 0), p2, p3, some (entP es), some (stP st), some (nmP a), p7, p8, p9, p10]) (S1 := ⟨o2 :: tl⟩) ?_).trans ?_
  · show (((call irT 0 15 9 [.ref 0, entP es] ⟨o :: tl⟩).bind _).bind _) = _
    rw [e1]
    show ((((call irT 0 15 8 [.ref 0, entP es, .int 2] ⟨o1 :: tl⟩).bind _).bind _).bind _) = _
    rw [e2]
    rfl
  refine (x_go (ρ1 := [p0, some (.ref 0), p2, p3, some (entP es), some (stP st), some (nmP a), some (cdP k), some (.str e.1), p9, p10]) (S1 := ⟨o4 :: tl⟩) ?_).trans ?_
  · show (((call irT 0 15 10 [.ref 0, entP es, .int 2] ⟨o2 :: tl⟩).bind _).bind _) = _
    rw [e3]
    show ((((((call irT 0 15 6 [.ref 0, .int ((es.map entP1).length : Int)] ⟨o3 :: tl⟩).bind _).bind _).bind _).bind _).bind _) = _
    rw [e4]
    show (((((ofO _ (L2.atI (es.map entP1) u)).bind _).bind _).bind _).bind _) = _
    rw [ea]
    rfl
  refine (x_go (ρ1 := [p0, some (.ref 0), p2, p3, some (entP es), some (stP st), some (nmP a), some (cdP k), some (.str e.1), some (.str (allD es st a k).shown), p10]) (S1 := ⟨o4 :: tl⟩) ?_).trans ?_
  · show (bltOf .repr ⟨o4 :: tl⟩ [allP es st a k]).bind _ = _
    rw [repr_all ge gs ga gk]
    rfl
  refine (x_go (ρ1 := [p0, some (.ref 0), p2, p3, some (entP es), some (stP st), some (nmP a), some (cdP k), some (.str e.1), some (.str (allD es st a k).shown), p10]) (S1 := ⟨o4 :: tl⟩) (x_if (k := false) (S1 := ⟨o4 :: tl⟩) ?_ rfl)).trans ?_
  · show ((((call irT 0 15 2 [entP es, stP st, nmP a] ⟨o4 :: tl⟩).bind _).bind _).bind _) = _
    rw [value ge gs ga (by omega) ⟨o4 :: tl⟩ 11]
    show (bltOf .repr ⟨o4 :: tl⟩ [.int (vN es st a)]).bind _ = _
    rw [repr_int (by omega)]
    show (((call irT 0 15 14 [entP es, stP st, nmP a] ⟨o4 :: tl⟩).bind _).bind _).bind _ = _
    rw [valueL ge gs (toldN ge gs ga (by omega) ⟨o4 :: tl⟩ 11)]
    show (bltOf .repr ⟨o4 :: tl⟩ [.int (vN es st a)]).bind _ = _
    rw [repr_int (by omega)]
    exact ne_same _
  refine (x_go (ρ1 := [p0, some (.ref 0), p2, p3, some (entP es), some (stP st), some (nmP a), some (cdP k), some (.str e.1), some (.str (allD es st a k).shown), p10]) (S1 := ⟨o4 :: tl⟩) (x_if (k := false) (S1 := ⟨o4 :: tl⟩) ?_ rfl)).trans ?_
  · show ((((call irT 0 15 3 [entP es, stP st, cdP k] ⟨o4 :: tl⟩).bind _).bind _).bind _) = _
    rw [holds ge gs gk ⟨o4 :: tl⟩ 8]
    show (bltOf .repr ⟨o4 :: tl⟩ [.bl (vC es st k)]).bind _ = _
    rw [repr_bl]
    show (((call irT 0 15 14 [entP es, stP st, cdP k] ⟨o4 :: tl⟩).bind _).bind _).bind _ = _
    rw [valueL ge gs (toldC ge gs gk ⟨o4 :: tl⟩ 8)]
    show (bltOf .repr ⟨o4 :: tl⟩ [.bl (vC es st k)]).bind _ = _
    rw [repr_bl]
    exact ne_same _
  refine (x_go (ρ1 := [p0, some (.ref 0), p2, p3, some (entP es), some (stP st), some (nmP a), some (cdP k), some (.str e.1), some (.str (allD es st a k).shown), p10]) (S1 := ⟨o4 :: (tl ++ [.lst ((putV es st e.1 (vN es st a)).map .int)])⟩) (x_if (k := false) (S1 := ⟨o4 :: (tl ++ [.lst ((putV es st e.1 (vN es st a)).map .int)])⟩) ?_ rfl)).trans ?_
  · show ((((call irT 0 15 4 [entP es, stP st, .str e.1, nmP a] ⟨o4 :: tl⟩).bind _).bind _).bind _) = _
    rw [put_ok ge gs hx ga ⟨o4 :: tl⟩ 10]
    show (bltOf .repr ⟨o4 :: tl⟩ [stP (putV es st e.1 (vN es st a))]).bind _ = _
    rw [repr_st (by omega) (fun i hi => by have := pb i hi; omega)]
    show (((call irT 0 15 15 [entP es, stP st, .str e.1, nmP a] ⟨o4 :: tl⟩).bind _).bind _).bind _ = _
    rw [putL_ok ge gs ga ⟨o4 :: tl⟩ 10]
    show (bltOf .repr ⟨o4 :: (tl ++ [.lst ((putV es st e.1 (vN es st a)).map .int)])⟩ [stP (putV es st e.1 (vN es st a))]).bind _ = _
    rw [repr_st (by omega) (fun i hi => by have := pb i hi; omega)]
    exact ne_same _
  refine (x_go (ρ1 := [p0, some (.ref 0), p2, p3, some (entP es), some (stP st), some (nmP a), some (cdP k), some (.str e.1), some (.str (allD es st a k).shown), p10]) (S1 := ⟨o4 :: (tl ++ [.lst ((putV es st e.1 (vN es st a)).map .int)])⟩) (x_if (k := false) (S1 := ⟨o4 :: (tl ++ [.lst ((putV es st e.1 (vN es st a)).map .int)])⟩) ?_ rfl)).trans ?_
  · show (bltOf .repr ⟨o4 :: (tl ++ [.lst ((putV es st e.1 (vN es st a)).map .int)])⟩ [allP es st a k]).bind _ = _
    rw [repr_all ge gs ga gk]
    exact ne_same _
  · rfl
end K04
set_option maxRecDepth 100000
set_option maxHeartbeats 4000000
/-! L17: the law's loops. -/
namespace K04
open PySem Pi
/-- a place is kept while lists are laid behind -/
theorem tl_keep {tl ys : List PObj} {m : Nat} {u : PObj} (h : tl[m]? = some u) : (tl ++ ys)[m]? = some u := by
  rw [List.getElem?_append_left (List.getElem?_eq_some_iff.mp h).1]
  exact h
theorem four {cs : List Int} {es : Ent} (ge : GE es) : ∀ (l : List PV) {c : Int} {o : PObj} (tl : List PObj) (p0 p2 p3 p5 p6 p7 p8 p9 p10 : Option PV), RS cs c o → c + 200 * l.length ≤ 1000000000 →
    ∃ q3 q5 q6 q7 q8 q9 o' c' ys, loopS (xss (xe (ev (call irT 0 15) 60) 0 18) B4) (.nm 3) l [p0, some (.ref 0), p2, p3, some (entP es), p5, p6, p7, p8, p9, p10] ⟨o :: tl⟩ = .ok (.nx [p0, some (.ref 0), p2, q3, some (entP es), q5, q6, q7, q8, q9, p10]) ⟨o' :: (tl ++ ys)⟩ ∧ RS cs c' o' ∧ c ≤ c' ∧ c' ≤ c + 200 * l.length
  | [], c, o, tl, p0, p2, p3, p5, p6, p7, p8, p9, p10, h, _ => ⟨p3, p5, p6, p7, p8, p9, o, c, [], by rw [List.append_nil]; rfl, h, by omega, by simp⟩
  | v :: l, c, o, tl, p0, p2, p3, p5, p6, p7, p8, p9, p10, h, hc => by
    simp only [List.length_cons] at hc
    obtain ⟨q5, q6, q7, q8, q9, o1, c1, x, e1, h1, l1, u1⟩ := turn ge h (by omega) tl p0 p2 (some v) p5 p6 p7 p8 p9 p10
    obtain ⟨r3, r5, r6, r7, r8, r9, o2, c2, ys, e2, h2, l2, u2⟩ := four ge l (tl ++ [x]) p0 p2 (some v) q5 q6 q7 q8 q9 p10 h1 (by omega)
    refine ⟨r3, r5, r6, r7, r8, r9, o2, c2, x :: ys, ?_, h2, by omega, by simp only [List.length_cons]; omega⟩
    show ((xss (xe (ev (call irT 0 15) 60) 0 18) B4 [p0, some (.ref 0), p2, some v, some (entP es), p5, p6, p7, p8, p9, p10] ⟨o :: tl⟩).bind fun o S1 => match o with
      | .nx ρ2 => loopS (xss (xe (ev (call irT 0 15) 60) 0 18) B4) (.nm 3) l ρ2 S1
      | .ct ρ2 => loopS (xss (xe (ev (call irT 0 15) 60) 0 18) B4) (.nm 3) l ρ2 S1
      | .bk ρ2 => .ok (.nx ρ2) S1
      | .rt v => .ok (.rt v) S1) = _
    rw [e1]
    refine Eq.trans e2 ?_
    rw [List.append_assoc]
    rfl
abbrev B3 : List Sm := [(.forr (.nm 3) (.rng1 (.con (.int 4))) B4)]
theorem all_lots {cs : List Int} {m : Nat} {L : List Ent} (gL : ∀ es ∈ L, GE es) : ∀ (k i : Nat), k = L.length + 1 - i → i ≤ L.length → ∀ {c : Int} {o : PObj} (tl : List PObj) (p0 p3 p4 p5 p6 p7 p8 p9 p10 : Option PV), tl[m]? = some (.lst (L.map entP)) → RS cs c o → c + 800 * (L.length - i : Nat) ≤ 1000000000 →
    ∃ q3 q4 q5 q6 q7 q8 q9 o' tl', loopL (xss (xe (ev (call irT 0 15) 60) 0 19) B3) (.nm 4) (m + 1) k i [p0, some (.ref 0), some (.ref (m + 1)), p3, p4, p5, p6, p7, p8, p9, p10] ⟨o :: tl⟩ = .ok (.nx [p0, some (.ref 0), some (.ref (m + 1)), q3, q4, q5, q6, q7, q8, q9, p10]) ⟨o' :: tl'⟩ := by
  intro k
  induction k with
  | zero => intro i hk hi; omega
  | succ k ih =>
    intro i hk hi c o tl p0 p3 p4 p5 p6 p7 p8 p9 p10 ht h hc
    have hg : (⟨o :: tl⟩ : Store).get (m + 1) = some (.lst (L.map entP)) := ht
    by_cases hl : i < L.length
    · have ei : (L.map entP)[i]? = some (entP L[i]) := by rw [List.getElem?_map, List.getElem?_eq_getElem hl]; rfl
      have ge := gL L[i] (List.getElem_mem hl)
      obtain ⟨r3, r5, r6, r7, r8, r9, o1, c1, ys, e1, h1, l1, u1⟩ := four ge [PV.int 0, .int 1, .int 2, .int 3] tl p0 (some (.ref (m + 1))) p3 p5 p6 p7 p8 p9 p10 h (by simp only [List.length_cons, List.length_nil]; omega)
      simp only [List.length_cons, List.length_nil] at u1
      have step : xss (xe (ev (call irT 0 15) 60) 0 19) B3 [p0, some (.ref 0), some (.ref (m + 1)), p3, some (entP L[i]), p5, p6, p7, p8, p9, p10] ⟨o :: tl⟩ = .ok (.nx [p0, some (.ref 0), some (.ref (m + 1)), r3, some (entP L[i]), r5, r6, r7, r8, r9, p10]) ⟨o1 :: (tl ++ ys)⟩ := (x_go (show xe (ev (call irT 0 15) 60) 0 19 (.forr (.nm 3) (.rng1 (.con (.int 4))) B4) _ _ = _ from e1)).trans rfl
      obtain ⟨s3, s4, s5, s6, s7, s8, s9, o2, tl2, e2⟩ := ih (i + 1) (by omega) hl (tl ++ ys) p0 r3 (some (entP L[i])) r5 r6 r7 r8 r9 p10 (tl_keep ht) h1 (by omega)
      refine ⟨s3, s4, s5, s6, s7, s8, s9, o2, tl2, ?_⟩
      unfold loopL
      rw [hg]
      simp only
      rw [ei]
      show ((xss (xe (ev (call irT 0 15) 60) 0 19) B3 [p0, some (.ref 0), some (.ref (m + 1)), p3, some (entP L[i]), p5, p6, p7, p8, p9, p10] ⟨o :: tl⟩).bind _) = _
      rw [step]
      exact e2
    · refine ⟨p3, p4, p5, p6, p7, p8, p9, o, tl, ?_⟩
      have ei : (L.map entP)[i]? = none := List.getElem?_eq_none_iff.mpr (by rw [List.length_map]; omega)
      unfold loopL
      rw [hg]
      simp only
      rw [ei]
/-! ### six lots drawn -/
abbrev B6 : List Sm := [(.exp (.meth .append (.var 2) [(.call 11 [(.var 1)])]))]
theorem six {cs : List Int} : ∀ (l : List PV) {c : Int} {o : PObj} (tl : List PObj) (L : List Ent) (p0 p3 p4 p5 p6 p7 p8 p9 p10 : Option PV), (∀ es ∈ L, GE es) → L.length + l.length ≤ 1000 → RS cs c o → c + 4 * l.length ≤ 1000000 →
    ∃ (q3 : Option PV) (o' : PObj) (c' : Int) (L' : List Ent), loopS (xss (xe (ev (call irT 0 15) 60) 0 19) B6) (.nm 3) l [p0, some (.ref 0), some (.ref (tl.length + 1)), p3, p4, p5, p6, p7, p8, p9, p10] ⟨o :: (tl ++ [.lst (L.map entP)])⟩ = .ok (.nx [p0, some (.ref 0), some (.ref (tl.length + 1)), q3, p4, p5, p6, p7, p8, p9, p10]) ⟨o' :: (tl ++ [.lst (L'.map entP)])⟩ ∧ RS cs c' o' ∧ c ≤ c' ∧ c' ≤ c + 4 * l.length ∧ (∀ es ∈ L', GE es) ∧ L'.length = L.length + l.length
  | [], c, o, tl, L, p0, p3, p4, p5, p6, p7, p8, p9, p10, gL, _, h, _ => ⟨p3, o, c, L, rfl, h, by omega, by simp, gL, rfl⟩
  | v :: l, c, o, tl, L, p0, p3, p4, p5, p6, p7, p8, p9, p10, gL, hn, h, hc => by
    simp only [List.length_cons] at hc hn
    obtain ⟨es, o1, c1, e1, h1, l1, u1, ge⟩ := items h (by omega) (tl ++ [.lst (L.map entP)]) 13
    obtain ⟨q3, o2, c2, L2, e2, h2, l2, u2, g2, n2⟩ := six l tl (L ++ [es]) p0 (some v) p4 p5 p6 p7 p8 p9 p10 (fun x hx => by
      rcases List.mem_append.mp hx with hx | hx
      · exact gL x hx
      · rw [List.mem_singleton.mp hx]; exact ge) (by simp; omega) h1 (by omega)
    refine ⟨q3, o2, c2, L2, ?_, h2, by omega, by simp only [List.length_cons]; omega, g2, by rw [n2]; simp; omega⟩
    have gt : ∀ (o : PObj) (u : PObj), (⟨o :: (tl ++ [u])⟩ : Store).get (tl.length + 1) = some u := fun o u => by
      show (tl ++ [u])[tl.length]? = some u
      rw [List.getElem?_append_right (Nat.le_refl _)]
      simp
    have pt : ∀ (o u w : PObj), (⟨o :: (tl ++ [u])⟩ : Store).put (tl.length + 1) w = ⟨o :: (tl ++ [w])⟩ := fun o u w => by
      show (⟨o :: ((tl ++ [u]).set tl.length w)⟩ : Store) = _
      rw [List.set_append_right _ _ (Nat.le_refl _)]
      simp
    have hd : dr ⟨o :: (tl ++ [.lst (L.map entP)])⟩ (.ref (tl.length + 1)) = .lst (L.map entP) := by
      unfold dr
      simp only
      rw [gt]
    have hb : Nat.blt (L.map entP).length szl = true := Nat.ble_eq_true_of_le (by rw [List.length_map]; unfold szl; omega)
    have step : xss (xe (ev (call irT 0 15) 60) 0 19) B6 [p0, some (.ref 0), some (.ref (tl.length + 1)), some v, p4, p5, p6, p7, p8, p9, p10] ⟨o :: (tl ++ [.lst (L.map entP)])⟩ = .ok (.nx [p0, some (.ref 0), some (.ref (tl.length + 1)), some v, p4, p5, p6, p7, p8, p9, p10]) ⟨o1 :: (tl ++ [.lst ((L ++ [es]).map entP)])⟩ := by
      refine x_go ?_
      show (if isL (dr ⟨o :: (tl ++ [.lst (L.map entP)])⟩ (.ref (tl.length + 1))) then ((((call irT 0 15 11 [.ref 0] ⟨o :: (tl ++ [.lst (L.map entP)])⟩).bind _).bind _)) else Res.no).bind _ = _
      rw [hd, show isL (.lst (L.map entP)) = true from rfl, if_pos rfl, e1]
      show (appendTo ⟨o1 :: (tl ++ [.lst (L.map entP)])⟩ (entP es) (.ref (tl.length + 1))).bind _ = _
      unfold appendTo
      simp only
      rw [gt]
      simp only
      rw [hb, if_pos rfl, pt, List.map_append]
      rfl
    show ((xss (xe (ev (call irT 0 15) 60) 0 19) B6 [p0, some (.ref 0), some (.ref (tl.length + 1)), some v, p4, p5, p6, p7, p8, p9, p10] ⟨o :: (tl ++ [.lst (L.map entP)])⟩).bind _) = _
    rw [step]
    exact e2
end K04
set_option maxRecDepth 1000000
set_option maxHeartbeats 0
/-! L18: the law says True at every script. -/
namespace K04
open PySem Pi
theorem cut_len {α : Type} (xs : List α) (a b : Nat) : ((xs.drop a).take b).length ≤ xs.length := by
  rw [List.length_take, List.length_drop]
  omega
theorem reader (ns : List Int) (h : ns.length ≤ 63) : ∃ cs : List Int, cs.length ≤ 63 ∧ call irT 0 15 5 [.scr ns] ⟨[]⟩ = .ok (.ref 0) ⟨[rd cs 0 0 0]⟩ := by
  refine ⟨(ns.drop (HT.sIx ns.length 0 none)).take (HT.sIx ns.length ns.length (some 63) - HT.sIx ns.length 0 none), Nat.le_trans (cut_len _ _ _) h, ?_⟩
  refine call_at (x := ⟨1, 1, ir5⟩) rfl rfl (x_end ?_)
  have e : pcut (ns.map PV.int) none (some 63) = ((ns.drop (HT.sIx ns.length 0 none)).take (HT.sIx ns.length ns.length (some 63) - HT.sIx ns.length 0 none)).map .int := by
    unfold pcut
    rw [List.length_map, List.map_take, List.map_drop]
  show Res.ok (Out.rt (.ref 0)) ⟨[.lst [.lst (pcut (ns.map PV.int) none (some 63)), .int 0, .int 0, .int 0]]⟩ = _
  rw [e]
  rfl
theorem hand (S : Store) : call irT 0 15 16 [] S = .ok (.bl true) S := by kernel_rfl
theorem wide (S : Store) : call irT 0 15 17 [] S = .ok (.bl true) S := by kernel_rfl
noncomputable def tl0 : List PObj := match call irT 0 15 18 [] ⟨[.lst []]⟩ with
  | .ok _ ⟨_ :: t⟩ => t
  | _ => []
theorem same (o : PObj) : call irT 0 15 18 [] ⟨[o]⟩ = .ok (.bl true) ⟨o :: tl0⟩ := by kernel_rfl
def L0 : List Ent := [[(sCoins, 0, 4)], [(sCoins, 0, 4)], [(sCheck, -2, 0), (sIn, 5, 5)], [(sA, 0, 0)]]
theorem lots (o : PObj) (p0 : Option PV) : xe (ev (call irT 0 15) 60) 0 20 (.set (.nm 2) (.comp true [10] (.nm 10) (.call 12 []) none (.idx (.var 10) (.con (.int 0))))) [p0, some (.ref 0), none, none, none, none, none, none, none, none, none] ⟨o :: tl0⟩ = .ok (.nx [p0, some (.ref 0), some (.ref (tl0.length + 1)), none, none, none, none, none, none, none, none]) ⟨o :: (tl0 ++ [.lst (L0.map entP)])⟩ := by kernel_rfl
theorem not_call {cf : CF} {n f : Nat} {ρ : PEnv} {S S1 : Store} (h : cf f [] S = .ok (.bl true) S1) : (ev cf (n + 3)).t (.nott (.call f [])) ρ S = .ok false S1 := by
  rw [j_not, j_call, i_call]
  show ((cf f [] S).bind _).bind _ = _
  rw [h]
  rfl
theorem set_call {cf : CF} {f : Nat} {ρ : PEnv} {S S1 : Store} {v x : PV} (h : cf f [x] S = .ok v S1) : xe (ev cf 60) 0 20 (.set (.nm 1) (.call f [.var 0])) (some x :: ρ) S = .ok (.nx ((some x :: ρ).set 1 (some v))) S1 := by
  show (cf f [x] S).bind _ = _
  rw [h]
  rfl
theorem L0_ok : ∀ es ∈ L0, GE es := by
  intro es h
  simp only [L0, List.mem_cons, List.mem_nil_iff, or_false] at h
  rcases h with rfl | rfl | rfl | rfl
  · exact .one (.inr (.inl rfl)) ⟨by omega, by omega, by omega⟩
  · exact .one (.inr (.inl rfl)) ⟨by omega, by omega, by omega⟩
  · exact .two (.inr (.inr ⟨rfl, rfl⟩)) ⟨by omega, by omega, by omega⟩ ⟨by omega, by omega, by omega⟩
  · exact .one (.inl rfl) ⟨by omega, by omega, by omega⟩
theorem law_irT (ns : List Int) (h : ns.length ≤ 63) : ∃ S', call irT 0 16 19 [.scr ns] ⟨[]⟩ = .ok (.bl true) S' := by
  obtain ⟨cs, hl, e1⟩ := reader ns h
  have r0 : RS cs 0 (rd cs 0 0 0) := ⟨hl, by omega, 0, 0, rfl, by omega⟩
  obtain ⟨q3, o1, c1, L, e6, h6, l6, u6, gL, nL⟩ := six (cs := cs) [PV.int 0, .int 1, .int 2, .int 3, .int 4, .int 5] tl0 L0 (some (.scr ns)) none none none none none none none none L0_ok (by decide) r0 (by simp)
  simp only [List.length_cons, List.length_nil] at u6 nL
  have n0 : L0.length = 4 := rfl
  have ht : (tl0 ++ [PObj.lst (L.map entP)])[tl0.length]? = some (.lst (L.map entP)) := by
    rw [List.getElem?_append_right (Nat.le_refl _)]
    simp
  obtain ⟨r3, r4, r5, r6, r7, r8, r9, o2, tl2, e7⟩ := all_lots gL (L.length + 1) 0 rfl (Nat.zero_le _) (tl0 ++ [.lst (L.map entP)]) (some (.scr ns)) q3 none none none none none none none ht h6 (by omega)
  refine ⟨⟨o2 :: tl2⟩, call_at (x := ⟨1, 11, ir19⟩) rfl rfl ?_⟩
  refine (x_go (ρ1 := [some (.scr ns), some (.ref 0), none, none, none, none, none, none, none, none, none]) (S1 := ⟨[rd cs 0 0 0]⟩) ?_).trans ?_
  · exact set_call e1
  refine (x_go (ρ1 := [some (.scr ns), some (.ref 0), none, none, none, none, none, none, none, none, none]) (S1 := ⟨rd cs 0 0 0 :: tl0⟩) (x_if (k := false) (S1 := ⟨rd cs 0 0 0 :: tl0⟩) ?_ rfl)).trans ?_
  · rw [j_or, not_call (n := 56) (hand _), b_ok, if_neg Bool.false_ne_true, j_or, not_call (n := 55) (same _), b_ok, if_neg Bool.false_ne_true]
    exact not_call (n := 55) (wide _)
  refine (x_go (lots (rd cs 0 0 0) (some (.scr ns)))).trans ?_
  refine (x_go (show xe (ev (call irT 0 15) 60) 0 20 (.forr (.nm 3) (.rng1 (.con (.int 6))) B6) _ _ = _ from e6)).trans ?_
  refine (x_go (S1 := ⟨o2 :: tl2⟩) (ρ1 := [some (.scr ns), some (.ref 0), some (.ref (tl0.length + 1)), r3, r4, r5, r6, r7, r8, r9, none]) ?_).trans ?_
  · show loopL (xss (xe (ev (call irT 0 15) 60) 0 19) B3) (.nm 4) (tl0.length + 1) (fuelOf ⟨o1 :: (tl0 ++ [.lst (L.map entP)])⟩ (tl0.length + 1)) 0 _ _ = _
    have hf : fuelOf ⟨o1 :: (tl0 ++ [.lst (L.map entP)])⟩ (tl0.length + 1) = L.length + 1 := by
      unfold fuelOf
      rw [show (⟨o1 :: (tl0 ++ [.lst (L.map entP)])⟩ : Store).get (tl0.length + 1) = some (.lst (L.map entP)) from ht]
      simp
    rw [hf]
    exact e7
  · exact x_end rfl
end K04
set_option maxRecDepth 1000000
set_option maxHeartbeats 0
/-! K5: k04, from the table's answer. -/
namespace K04
open PySem PySem.Spec PyProof.Rows L2 Pi
theorem law_eq (ns : List Int) (h : ns.length ≤ 63) : ∃ S', call (tab.map Df.fd) 0 16 19 [.scr ns] S0 = .ok (.bl true) S' := law_irT ns h
theorem facts {P : Program} {w : World} {K : PySem.W.Frag} {h : Heap} {mg : Str → Option Value} {f : Addr} (X : K.In h) (G : h.Ns mainGlobals mg) (hfa : mg ("law" : Str) = some (.ref f)) (c : He.SaysD fa fn K) :
    ∃ fd : FuncData, (∀ (s : Shared) (v : Value), BindsTo s fd ⟨[v], []⟩ [("_law_script", v)]) ∧ ∀ base : Heap, K.In base → base.Ns mainGlobals mg → FnG P w K mg base 16 f fd ["_law_script"] (fun vs S => call (tab.map Df.fd) 0 16 19 vs S) := by
  have D : ∀ i : Nat, ∃ fd : FuncData, ∀ d : Df, tab[i]? = some d → FunD K d.name d.name (defArgs d.st) (defBody d.st) (defScope d.st) [] [] (He.fAd K (dd d).at_) fd := fun i => by
    cases e : tab[i]? with
    | none =>
      obtain ⟨fd, _⟩ := c.def_ 0 (d := dd df0) rfl
      exact ⟨fd, fun d z => by cases z⟩
    | some d =>
      obtain ⟨fd, F⟩ := c.def_ i (d := dd d) (fn_at i d e)
      exact ⟨fd, fun d' z => by cases z; exact F⟩
  obtain ⟨fds, hD⟩ : ∃ fds : Nat → FuncData, ∀ (i : Nat) (d : Df), tab[i]? = some d → FunD K d.name d.name (defArgs d.st) (defBody d.st) (defScope d.st) [] [] (He.fAd K (dd d).at_) (fds i) := ⟨fun i => (D i).choose, fun i => (D i).choose_spec⟩
  have M : Mods K mg gt tab (fun i => He.fAd K (dd (tab.getD i df0)).at_) fds := {
    def_ := fun i d e => by
      have e2 : tab.getD i df0 = d := by rw [List.getD_eq_getElem?_getD, e]; rfl
      rw [e2]
      exact hD i d e
    ok := defs_ok
    fns := fun x i e => by
      obtain ⟨d, h1, h2⟩ := fns_ok X G c x i e
      have e2 : tab.getD i df0 = d := by rw [List.getD_eq_getElem?_getD, h1]; rfl
      exact ⟨d, h1, by rw [e2]; exact h2⟩
    free := free_ok X G c }
  have e := hfa.symm.trans (He.glo_ok X G (c.fact 19 (f := .glo "law") rfl))
  cases e
  have F := hD 19 df19 rfl
  have b := FunD.bindsA (ps := ["_law_script"]) F fun _ _ _ _ _ _ us hl => match us, hl with | [_], _ => rfl
  exact ⟨_, fun s v => b s [v] rfl, fun base _ _ => tab_ok M 16 19 df19 rfl⟩
end K04
open PySem PySem.W PySem.Calls PyProof.Rows
theorem PySem.Challenge.cw_firstfault_k04_values_and_settings_told_holds : PySem.Challenge.rw_firstfault_k04_values_and_settings_told.Holds := by
  w_on; o_law
  refine HandSHeadRun.head_any (r := OpenLaw.row PySem.Challenge.rw_firstfault_k04_values_and_settings_told) (q := view (OpenLaw.row PySem.Challenge.rw_firstfault_k04_values_and_settings_told).prog [22]) (H := K04.hk) (ob := K04.ob) (M := 2000) (loose := _) (d := HandSHeadRun.topDef (OpenLaw.row PySem.Challenge.rw_firstfault_k04_values_and_settings_told).prog 22) (kwd := []) K04.ob_eq
    (by kernel_rfl) (fun s => by kernel_rfl) K04.run (by kernel_rfl) (by kernel_rfl) (by kernel_rfl) (by rfl) (by first | assumption | decide +kernel) (by decide +kernel) ⟨rfl, rfl, rfl, rfl, rfl, by decide +kernel⟩ ?hw ?hc
  case hw => w_witness2
  case hc =>
    refine Pi.walkG (l := PySem.Challenge.rw_firstfault_k04_values_and_settings_told) (n := 63) (k := 16) (x := "_law_script") rfl (by rw [sizeLine_eq]; decide) (by kernel_rfl) ⟨rfl, by decide, by decide⟩ (fun vs S => Pi.call (K04.tab.map Pi.Df.fd) 0 16 19 vs S) K04.law_eq ?F
    intro w mg fa h Y G hmg0
    obtain ⟨K, KX, c⟩ := Y
    have hmg : mg ("law" : PySem.Str) = some (.ref fa) := by
      have e : (HandSHeadRun.topDef (OpenLaw.row PySem.Challenge.rw_firstfault_k04_values_and_settings_told).prog 22).name = ("law" : PySem.Str) := by kernel_rfl
      rw [← e]
      exact hmg0
    obtain ⟨fd, hb, hF⟩ := K04.facts (P := (PySem.Challenge.rw_firstfault_k04_values_and_settings_told).prog) (w := w) KX G hmg c
    exact ⟨K, fd, KX, hb, hF⟩
