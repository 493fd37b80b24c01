import PyProof.Rows.All
import Wide.All
import OpenK.AllK
import Wide.FinOn
import HandS.ForMost
import HandS.ForExc
import HandS.Wide
import HandS.Gcd
import HandS.TupAny
import HandS.Property
import HandS.Lambda
import HandS.Deep
import HandS.Zip
import HandS.FStr
import HandS.Walk
import HandS.WrittenGet
import HandS.IsInst
import HandS.SortInts
import KE.LtData
import PyProof.InstNe
import KE.GoesEnum
import HandS.DictComp
import HandS.Nested
import HandS.EndTab
import HandS.HeadWalk
import HandS.Head0
import HandS.Head1
import HandS.Head2
import HandS.HeadEnd
import HandS.HeadHook1
import HandS.HeadHook2
import HandS.HeadHook3
import HandS.HeadHook4
import HandS.Head3
import HandS.Codes
import KE.IntTextLaws
import PySem.Challenge.RW_mindmeans_k83_whole_texts_of_circles
section
set_option Elab.async false
set_option linter.all false
set_option maxRecDepth 100000
set_option maxHeartbeats 2000000
/-! Values as trees, a small language of terms, its evaluator. -/
namespace MM
open PySem

inductive Bi where
  | isinstance | len | all | any | sum | abs | max | min | int | str | tuple | list | divmod | sorted | gcd
inductive Ik where
  | plain | range | range2 | enumerate | zip
inductive Mt where
  | split | join | append | extend | get
/-- expressions: names by slots -/
inductive Tm where
  | var (i : Nat)
  | cint (i : Int) | cbl (b : Bool) | cnon | cstr (s : Str)
  | glb (x : Str)
  | typ (n : String)
  | bin (op : Operator) (a b : Tm)
  | neg (a : Tm) | not (a : Tm)
  | and (a b : Tm) | or (a b : Tm)
  | cmp (op : CmpOp) (a b : Tm)
  | chn (op1 op2 : CmpOp) (a b c : Tm)
  | oeq (ng : Bool) (a b : Tm)
  | ite (c a b : Tm)
  | star (a : Tm)
  | tup (l : List Tm)
  | lst (m : Bool) (l : List Tm)
  | ix (a i : Tm)
  | sl (a lo hi : Tm)
  | fld (a : Tm) (f : Str)
  | call (f : Str) (l : List Tm)
  | kcl (f : Str) (ps ks : List Str) (l : List Tm)
  | clv (i : Nat) (l : List Tm)
  | blt (f : Bi) (l : List Tm)
  | mth (m : Mt) (o : Tm) (l : List Tm)
  | omt (m : Str) (o : Tm) (l : List Tm)
  | lc (m : Bool) (g : List Nat) (ik : Ik) (it : List Tm) (c e : Tm) (own : List Nat)
  | dcp (g : List Nat) (ik : Ik) (it : List Tm) (c ka lo hi v : Tm) (own : List Nat)
  | fst (l : List Tm)
  | lam (id : Nat) (caps : List Nat)
  | kin (ng : Bool) (x : Str) (a : Tm)
  | kget (x : Str) (a : Tm)

/-- the lambdas of a text -/
structure LamRec where
  args : Arguments
  body : Expr
  sc : Scope
  qual : Str
  ps : List Str
  fr : List Str
  tm : Tm
class Lams where
  tab : Nat → Option LamRec
/-- values -/
inductive D where
  | non | bl (b : Bool) | int (i : Int) | str (s : Str)
  | tup (l : List D) | lst (l : List D)
  | dic (ks : List L2.Key) (vs : List D)
  | dct (ks : List (List L2.Key)) (vs : List D)
  | obj (c : Str) (ns : List Str) (vs : List D)
  | ref (k : Nat)
  | scr (l : List Int)
  | glo (x : Str)
  | ty (n : String)
  | clo (id : Nat) (caps : List D)
deriving Inhabited

inductive MO where
  | lst (l : List D)
  | ins (c : Str) (ns : List Str) (vs : List D)
deriving Inhabited

abbrev Store := List MO
abbrev En := List (Option D)
inductive Res (α : Type) where
  | ok (a : α) (S : Store)
  | exc (c : Str) (ns : List Str) (vs : List D) (S : Store)
  | bad
def Res.bind {α β : Type} : Res α → (α → Store → Res β) → Res β
  | .ok a S, f => f a S
  | .exc c ns vs S, _ => .exc c ns vs S
  | .bad, _ => .bad
@[simp] theorem Res.bind_ok {α β : Type} (a : α) (S : Store) (f : α → Store → Res β) : (Res.ok a S).bind f = f a S := rfl
@[simp] theorem Res.bind_bad {α β : Type} (f : α → Store → Res β) : (Res.bad : Res α).bind f = .bad := rfl
@[simp] theorem Res.bind_exc {α β : Type} (c : Str) (ns : List Str) (vs : List D) (S : Store) (f : α → Store → Res β) : (Res.exc c ns vs S : Res α).bind f = .exc c ns vs S := rfl

/-- the most items of a list -/
abbrev line : Nat := 16777216

mutual
def D.hasClo : D → Bool
  | .clo .. => true
  | .tup l => D.hasCloL l
  | .lst l => D.hasCloL l
  | .dic _ l => D.hasCloL l
  | .dct _ l => D.hasCloL l
  | .obj _ _ l => D.hasCloL l
  | _ => false
def D.hasCloL : List D → Bool
  | [] => false
  | d :: r => D.hasClo d || D.hasCloL r
end
mutual
/-- all references below n -/
def D.under (n : Nat) : D → Bool
  | .ref k => decide (k < n)
  | .tup l => D.underL n l
  | .lst l => D.underL n l
  | .dic _ l => D.underL n l
  | .dct _ l => D.underL n l
  | .obj _ _ l => D.underL n l
  | .clo _ l => D.underL n l
  | _ => true
def D.underL (n : Nat) : List D → Bool
  | [] => true
  | d :: r => D.under n d && D.underL n r
end
mutual
def D.py : D → Option PyData
  | .non => some .none
  | .bl b => some (.bool b)
  | .int i => some (.int i)
  | .str s => some (.str s)
  | .tup l => (D.pyL l).map .tuple
  | .lst l => (D.pyL l).map .list
  | _ => none
def D.pyL : List D → Option (List PyData)
  | [] => some []
  | d :: r => match D.py d with
    | some p => (D.pyL r).map (p :: ·)
    | none => none
end

/-- lists that are read or joined -/
def asL (S : Store) : D → Option (List D)
  | .lst l => some l
  | .ref k => match S[k]? with
    | some (.lst l) => some l
    | _ => none
  | _ => none
def data (S : Store) (d : D) : Option PyData := match d with
  | .ref k => match S[k]? with
    | some (.lst l) => D.py (.lst l)
    | _ => none
  | d => D.py d

def mulOk (i j : Int) : Bool := decide (i.natAbs.log2 + j.natAbs.log2 < 999990)
def divOk (j : Int) : Bool := decide (0 < j) && decide (j.natAbs.log2 < 9000)

def opAdd (S : Store) : D → D → Res D
  | .int a, .int b => .ok (.int (a + b)) S
  | .str a, .str b => if a.length + b.length ≤ line then .ok (.str (a ++ b)) S else .bad
  | .tup a, .tup b => if a.length + b.length ≤ line then .ok (.tup (a ++ b)) S else .bad
  | x, y => match asL S x, asL S y with
    | some a, some b => if a.length + b.length ≤ line then .ok (.lst (a ++ b)) S else .bad
    | _, _ => .bad
def opBin (op : Operator) (S : Store) (x y : D) : Res D := match op with
  | .Add => opAdd S x y
  | .Sub => match x, y with
    | .int a, .int b => .ok (.int (a - b)) S
    | _, _ => .bad
  | .Mult => match x, y with
    | .int a, .int b => if mulOk a b then .ok (.int (a * b)) S else .bad
    | _, _ => .bad
  | .FloorDiv => match x, y with
    | .int a, .int b => if divOk b then .ok (.int (a / b)) S else .bad
    | _, _ => .bad
  | .Mod => match x, y with
    | .int a, .int b => if 0 < b then .ok (.int (a % b)) S else .bad
    | _, _ => .bad
  | .Pow => match x, y with
    | .int a, .int b => if 0 ≤ b ∧ b ≤ 1000000 ∧ a.natAbs < 2 ^ 64 then .ok (.int (a ^ b.toNat)) S else .bad
    | _, _ => .bad
  | _ => .bad

/-- the signs of a text within another's -/
def isIn (x y : Str) : Bool := !(Builtin.Str.occurrences y x 0 y.length 1).isEmpty
def shp (d : PyData) : Bool := SeqAt.shaped d
def eqD (S : Store) (x y : D) : Option Bool := match data S x, data S y with
  | some a, some b => if shp a && shp b then some (PyData.eqv a b) else none
  | _, _ => none
def inD (S : Store) (x y : D) : Option Bool := match x, y with
  | .str a, .str b => some (isIn a b)
  | x, y => match data S x, data S y with
    | some a, some (.list bs) => if shp a && shp (.list bs) then some (bs.any fun z => PyData.eqv z a) else none
    | some a, some (.tuple bs) => if shp a && shp (.tuple bs) then some (bs.any fun z => PyData.eqv z a) else none
    | _, _ => none
def ltD (x y : D) : Option Bool := match x, y with
  | .int a, .int b => some (decide (a < b))
  | .str a, .str b => some (decide (a.cps.toList < b.cps.toList))
  | _, _ => none
def ltT (S : Store) (x y : D) : Option Bool := match x, y with
  | .tup a, .tup b => match data S (.tup a), data S (.tup b) with
    | some p, some q => if PySem.W.alike p q && decide (p.depth < 60) then some (PySem.W.dataLt p q) else none
    | _, _ => none
  | _, _ => none
def D.isNon : D → Bool
  | .non => true
  | _ => false
def opCmp (op : CmpOp) (S : Store) (x y : D) : Res D := match op with
  | .Eq => match eqD S x y with
    | some b => .ok (.bl b) S
    | none => .bad
  | .NotEq => match eqD S x y with
    | some b => .ok (.bl (!b)) S
    | none => .bad
  | .Lt => match ltD x y with
    | some b => .ok (.bl b) S
    | none => match ltT S x y with
      | some b => .ok (.bl b) S
      | none => .bad
  | .Gt => match ltD y x with
    | some b => .ok (.bl b) S
    | none => .bad
  | .LtE => match ltD y x with
    | some b => .ok (.bl (!b)) S
    | none => .bad
  | .GtE => match ltD x y with
    | some b => .ok (.bl (!b)) S
    | none => .bad
  | .In => match inD S x y with
    | some b => .ok (.bl b) S
    | none => .bad
  | .NotIn => match inD S x y with
    | some b => .ok (.bl (!b)) S
    | none => .bad
  | .Is => match y with
    | .non => .ok (.bl x.isNon) S
    | _ => .bad
  | .IsNot => match y with
    | .non => .ok (.bl (!x.isNon)) S
    | _ => .bad

/-- the global part: constants, calls -/
structure GE where
  con : Str → Option D
  kd : Str → Option (List (Str × D))
  fn : Str → List D → Store → Res D
  me : Str → Str → D → List D → Store → Res D
  cl : D → List D → Store → Res D
  cls : List Str
  sub : Str → Str → Bool
  gk : Str → Bool
  fs : Str → Str → Bool
  pp : Str → Str → Bool
  oe : Str → Bool

def opIx (S : Store) (x y : D) : Res D := match y with
  | .int i => match x with
    | .tup l => match L2.atI l i with
      | some d => .ok d S
      | none => .bad
    | .str z => if z.length ≤ line then match L2.atI z.cps.toList i with
        | some c => .ok (.str ⟨#[c]⟩) S
        | none => .bad
      else .bad
    | .scr l => match L2.atI l i with
      | some d => .ok (.int d) S
      | none => .bad
    | x => match asL S x with
      | some l => match L2.atI l i with
        | some d => .ok d S
        | none => .bad
      | none => .bad
  | _ => .bad
def cutD {α : Type} (xs : List α) (lo hi : Option Int) : List α := (xs.drop (HT.sIx xs.length 0 lo)).take (HT.sIx xs.length xs.length hi - HT.sIx xs.length 0 lo)
def opSl (S : Store) (x : D) (lo hi : Option Int) : Res D := match x with
  | .tup l => .ok (.tup (cutD l lo hi)) S
  | .str z => if z.length ≤ line then .ok (.str (L2.cutS z lo hi)) S else .bad
  | .scr l => .ok (.lst ((cutD l lo hi).map .int)) S
  | x => match asL S x with
    | some l => .ok (.lst (cutD l lo hi)) S
    | none => .bad
/-- a part of a tuple, not all of it: a new tuple -/
def opSlp (S : Store) (x : D) (lo hi : Option Int) : Res D := match x with
  | .tup l => if HT.sIx l.length 0 lo = 0 ∧ HT.sIx l.length l.length hi = l.length then .bad else .ok (.tup (cutD l lo hi)) S
  | _ => .bad
def partD (d : D) (S : Store) : Res (Option Int) := match d with
  | .int i => .ok (some i) S
  | _ => .bad
def Tm.isCnon : Tm → Bool
  | .cnon => true
  | _ => false

def lenD (S : Store) (x : D) : Option Nat := match x with
  | .str y => if y.length ≤ line then some y.length else none
  | .tup l => some l.length
  | .scr l => some l.length
  | x => (asL S x).map List.length
def blsD : List D → Option (List Bool)
  | [] => some []
  | .bl b :: r => (blsD r).map (b :: ·)
  | _ => none
def intsD : List D → Option (List Int)
  | [] => some []
  | .int b :: r => (intsD r).map (b :: ·)
  | _ => none
def strsD : List D → Option (List Str)
  | [] => some []
  | .str b :: r => (strsD r).map (b :: ·)
  | _ => none
def strLe (a b : Str) : Bool := !decide (b.cps.toList < a.cps.toList)
def tyName (S : Store) : D → Option String
  | .non => some "NoneType"
  | .bl _ => some "bool"
  | .int _ => some "int"
  | .str _ => some "str"
  | .tup _ => some "tuple"
  | .lst _ => some "list"
  | .scr _ => some "list"
  | .dic _ _ => some "dict"
  | .dct _ _ => some "dict"
  | .ref k => match S[k]? with
    | some (.lst _) => some "list"
    | _ => none
  | _ => none
def clsName (S : Store) : D → Option Str
  | .obj c _ _ => some c
  | .ref k => match S[k]? with
    | some (.ins c _ _) => some c
    | _ => none
  | _ => none
/-- isinstance -/
def isInst (g : GE) (S : Store) (x c : D) : Option Bool := match c with
  | .ty n => match tyName S x with
    | some t => L2.kitB t n
    | none => match clsName S x with
      | some k' => if g.cls.contains k' && (n == "int" || n == "bool" || n == "str" || n == "tuple" || n == "list" || n == "dict") then some false else none
      | none => none
  | .glo k => if g.cls.contains k then match tyName S x with
      | some _ => some false
      | none => match clsName S x with
        | some k' => if g.cls.contains k' then some (g.sub k' k) else none
        | none => none
    else none
  | _ => none
def optR (S : Store) : Option D → Res D
  | some d => .ok d S
  | none => .bad
def bLen (S : Store) : List D → Res D
  | [x] => optR S ((lenD S x).map fun (n : Nat) => D.int (n : Int))
  | _ => .bad
def bAll (S : Store) : List D → Res D
  | [x] => optR S (((asL S x).bind blsD).map fun l => .bl (l.all id))
  | _ => .bad
def bAny (S : Store) : List D → Res D
  | [x] => optR S (((asL S x).bind blsD).map fun l => .bl (l.any id))
  | _ => .bad
def bSum (S : Store) : List D → Res D
  | [x] => optR S (((asL S x).bind intsD).map fun l => .int l.sum)
  | _ => .bad
def bIsI (g : GE) (S : Store) : List D → Res D
  | [x, c] => optR S ((isInst g S x c).map .bl)
  | _ => .bad
def bAbs (S : Store) : List D → Res D
  | [.int i] => .ok (.int (if i < 0 then -i else i)) S
  | _ => .bad
def bMax (S : Store) : List D → Res D
  | [.int i, .int j] => .ok (.int (if j > i then j else i)) S
  | _ => .bad
def bMin (S : Store) : List D → Res D
  | [.int i, .int j] => .ok (.int (if j < i then j else i)) S
  | _ => .bad
def bInt (S : Store) : List D → Res D
  | [.int i] => .ok (.int i) S
  | [.str z] => match PySem.intText? z with
    | some n => if z.length ≤ 640 then .ok (.int n) S else .bad
    | none => .bad
  | _ => .bad
def bStr (S : Store) : List D → Res D
  | [.int i] => if i.natAbs.log2 < 1920 then .ok (.str (toString i)) S else .bad
  | _ => .bad
def seqD (S : Store) : D → Option (List D)
  | .tup l => some l
  | x => asL S x
def bTuple (S : Store) : List D → Res D
  | [x] => optR S ((seqD S x).map .tup)
  | _ => .bad
def bList (S : Store) : List D → Res D
  | [x] => optR S ((seqD S x).map .lst)
  | _ => .bad
def bDivmod (S : Store) : List D → Res D
  | [.int i, .int j] => if 0 < j ∧ j < 1073741824 then .ok (.tup [.int (i / j), .int (i % j)]) S else .bad
  | _ => .bad
def bSorted (S : Store) : List D → Res D
  | [x] => match (asL S x).bind strsD with
    | some ss => if ss.length < 64 then .ok (.lst ((ss.mergeSort strLe).map .str)) S else .bad
    | none => .bad
  | _ => .bad
def bGcd (S : Store) : List D → Res D
  | [.int a, .int b] => .ok (.int ((Nat.gcd a.natAbs b.natAbs : Nat) : Int)) S
  | _ => .bad
def opBlt (g : GE) (f : Bi) (l : List D) (S : Store) : Res D := match f with
  | .isinstance => bIsI g S l
  | .len => bLen S l
  | .all => bAll S l
  | .any => bAny S l
  | .sum => bSum S l
  | .abs => bAbs S l
  | .max => bMax S l
  | .min => bMin S l
  | .int => bInt S l
  | .str => bStr S l
  | .tuple => bTuple S l
  | .list => bList S l
  | .divmod => bDivmod S l
  | .sorted => bSorted S l
  | .gcd => bGcd S l

mutual
/-- the same value -/
def sameD : D → D → Bool
  | .non, .non => true
  | .bl a, .bl b => a == b
  | .int a, .int b => decide (a = b)
  | .str a, .str b => decide (a = b)
  | .tup a, .tup b => sameDs a b
  | .lst a, .lst b => sameDs a b
  | .dic a x, .dic b y => decide (a = b) && sameDs x y
  | .dct a x, .dct b y => decide (a = b) && sameDs x y
  | .obj c n x, .obj d m y => decide (c = d) && (decide (n = m) && sameDs x y)
  | .ref a, .ref b => decide (a = b)
  | .scr a, .scr b => decide (a = b)
  | .glo a, .glo b => decide (a = b)
  | .ty a, .ty b => decide (a = b)
  | .clo a x, .clo b y => decide (a = b) && sameDs x y
  | _, _ => false
def sameDs : List D → List D → Bool
  | [], [] => true
  | a :: r, b :: q => sameD a b && sameDs r q
  | _, _ => false
end
def sameO : Option MO → Option MO → Bool
  | some (.lst a), some (.lst b) => sameDs a b
  | _, _ => false
/-- a list that is walked stays as it is -/
def gdR (S0 : Store) (d : D) : Store → Bool := match d with
  | .ref k => fun S => sameO S0[k]? S[k]?
  | _ => fun _ => true
/-- what is walked, and what has to stay -/
structure Its where
  l : List D
  c : Store → Bool
/-- what a for or a comprehension walks -/
def iterD (S : Store) : D → Option (List D)
  | .tup l => some l
  | .str z => some (z.cps.toList.map fun c => .str ⟨#[c]⟩)
  | .scr l => some (l.map .int)
  | .lst l => some l
  | .ref k => match S[k]? with
    | some (.lst l) => some l
    | _ => none
  | _ => none
def rangeD (lo hi : Int) : List D := (List.range (hi - lo).toNat).map fun i => .int (lo + (i : Nat))
def enumD : Nat → List D → List D
  | _, [] => []
  | i, d :: r => .tup [.int (i : Nat), d] :: enumD (i + 1) r
def zipD : List D → List D → List D
  | a :: r, b :: q => .tup [a, b] :: zipD r q
  | _, _ => []
def rngOk (i : Int) : Bool := decide (-(2 ^ 62) ≤ i) && decide (i < 2 ^ 62)

/-- the items of what is walked: k tells how -/
def itPlain (S : Store) : List D → Res Its
  | [x] => match iterD S x with
    | some l => .ok ⟨l, gdR S x⟩ S
    | none => .bad
  | _ => .bad
def itRange (S : Store) : List D → Res Its
  | [.int n] => if rngOk n then .ok ⟨rangeD 0 n, fun _ => true⟩ S else .bad
  | _ => .bad
def itRange2 (S : Store) : List D → Res Its
  | [.int a, .int b] => if rngOk a && rngOk b then .ok ⟨rangeD a b, fun _ => true⟩ S else .bad
  | _ => .bad
def itEnum (S : Store) : List D → Res Its
  | [.tup l] => .ok ⟨enumD 0 l, fun _ => true⟩ S
  | [x] => match asL S x with
    | some l => .ok ⟨enumD 0 l, gdR S x⟩ S
    | none => .bad
  | _ => .bad
def itZip (S : Store) : List D → Res Its
  | [.tup a, .tup b] => .ok ⟨zipD a b, fun _ => true⟩ S
  | [x, y] => match asL S x, asL S y with
    | some a, some b => .ok ⟨zipD a b, fun S' => gdR S x S' && gdR S y S'⟩ S
    | _, _ => .bad
  | _ => .bad
def iterK (k : Ik) (xs : List D) (S : Store) : Res Its := match k with
  | .plain => itPlain S xs
  | .range => itRange S xs
  | .range2 => itRange2 S xs
  | .enumerate => itEnum S xs
  | .zip => itZip S xs

/-- targets of a comprehension: one name, or several of a tuple -/
def bindG (g : List Nat) (d : D) (δ : En) : Option En := match g with
  | [i] => some (δ.set i (some d))
  | g => match d with
    | .tup l => if l.length = g.length then some ((g.zip l).foldl (fun δ p => δ.set p.1 (some p.2)) δ) else none
    | _ => none
def wipeE (δ : En) : List Nat → En
  | [] => δ
  | v :: vs => (wipeE δ vs).set v none

/-- no closures -/
def wipeC (δ : En) : En := δ.map fun o => match o with
  | some d => if d.hasClo then none else some d
  | none => none
def lcLoop (c : Store → Bool) (step : D → Store → Res (Option D)) : List D → Store → List D → Res (List D)
  | [], S, acc => if c S then .ok acc S else .bad
  | d :: r, S, acc => if c S then match step d S with
    | .ok (some e) S' => if acc.length < line then lcLoop c step r S' (acc ++ [e]) else .bad
    | .ok none S' => lcLoop c step r S' acc
    | _ => .bad
    else .bad
/-- a turn -/
def stepL (tg : List Nat) (δ0 : En) (fc fe : En → Store → Res D) (d : D) (S : Store) : Res (Option D) :=
  if d.hasClo then .bad else match bindG tg d δ0 with
    | some δ1 => (fc δ1 S).bind fun b S => match b with
      | .bl true => (fe δ1 S).bind fun x S => if x.hasClo then .bad else .ok (some x) S
      | .bl false => .ok none S
      | _ => .bad
    | none => .bad
def endL (m : Bool) (xs : List D) (S : Store) : Res D := if m then .ok (.ref S.length) (S ++ [.lst xs]) else .ok (.lst xs) S

/-- methods of the built-in types -/
def strJoin (S : Store) (x : D) : Option (List Str) := match x with
  | .tup l => strsD l
  | x => (asL S x).bind strsD
def getSlots : List Nat → En → Option (List D)
  | [], _ => some []
  | i :: r, δ => match δ[i]? with
    | some (some d) => (getSlots r δ).map (d :: ·)
    | _ => none
/-- dicts -/
def toKey : D → Option L2.Key
  | .int i => some (.inl i)
  | .str x => some (.inr x)
  | _ => none
def toKeysL : List D → Option (List L2.Key)
  | [] => some []
  | d :: r => match toKey d with
    | some k => (toKeysL r).map (k :: ·)
    | none => none
def toKeys : D → Option (List L2.Key)
  | .tup l => toKeysL l
  | _ => none
section
variable {κ : Type} [DecidableEq κ]
def dicGet : List κ → List D → κ → Option D
  | k :: ks, v :: vs, x => if k = x then some v else dicGet ks vs x
  | _, _, _ => none
def dicPut (ks : List κ) (vs : List D) (x : κ) (y : D) : List κ × List D :=
  if (ks.any fun k => decide (k = x)) = true then (ks, (ks.zip vs).map fun p => if p.1 = x then y else p.2) else (ks ++ [x], vs ++ [y])
def dcLoop (c : Store → Bool) (step : D → Store → Res (Option (κ × D))) : List D → Store → List κ → List D → Res (List κ × List D)
  | [], S, ks, vs => if c S then .ok (ks, vs) S else .bad
  | d :: r, S, ks, vs => if c S then match step d S with
    | .ok (some e) S' => if ks.length < line then dcLoop c step r S' (dicPut ks vs e.1 e.2).1 (dicPut ks vs e.1 e.2).2 else .bad
    | .ok none S' => dcLoop c step r S' ks vs
    | _ => .bad
    else .bad
end
def stepD {κ : Type} (tk : D → Option κ) (tg : List Nat) (δ0 : En) (fc fk fv : En → Store → Res D) (d : D) (S : Store) : Res (Option (κ × D)) :=
  if d.hasClo then .bad else match bindG tg d δ0 with
    | some δ1 => (fc δ1 S).bind fun b S => match b with
      | .bl true => (fk δ1 S).bind fun x S => if x.hasClo then .bad else (fv δ1 S).bind fun y S => match tk x with
        | some z => if y.hasClo then .bad else .ok (some (z, y)) S
        | none => .bad
      | .bl false => .ok none S
      | _ => .bad
    | none => .bad
def mSplit (S : Store) : D → List D → Res D
  | .str a, [.str b] => if b.length == 0 then .bad else if a.length + 2 ≤ line then .ok (.lst ((Txt.split a b).map .str)) S else .bad
  | _, _ => .bad
def mJoin (S : Store) : D → List D → Res D
  | .str a, [x] => match strJoin S x with
    | some ys => if (ys.map (·.length)).sum + ys.length * a.length ≤ line then .ok (.str (Txt.join a ys)) S else .bad
    | none => .bad
  | _, _ => .bad
def mAppend (S : Store) : D → List D → Res D
  | .ref k, [d] => match S[k]? with
    | some (.lst xs) => if d.hasClo then .bad else if xs.length < line then .ok .non (S.set k (.lst (xs ++ [d]))) else .bad
    | _ => .bad
  | _, _ => .bad
def mExtend (S : Store) : D → List D → Res D
  | .ref k, [.lst ys] => match S[k]? with
    | some (.lst xs) => if D.hasCloL ys then .bad else if xs.length + ys.length ≤ line then .ok .non (S.set k (.lst (xs ++ ys))) else .bad
    | _ => .bad
  | _, _ => .bad
def mGet (S : Store) : D → List D → Res D
  | .dic ks vs, [x, y] => match toKey x with
    | some k => .ok ((dicGet ks vs k).getD y) S
    | none => .bad
  | .dct ks vs, [x, y] => match toKeys x with
    | some k => .ok ((dicGet ks vs k).getD y) S
    | none => .bad
  | _, _ => .bad
/-- whose method it is -/
def mtOk (S : Store) (m : Mt) (x : D) : Bool := match m with
  | .split => match x with
    | .str _ => true
    | _ => false
  | .join => match x with
    | .str _ => true
    | _ => false
  | .append => match x with
    | .ref k => match S[k]? with
      | some (.lst _) => true
      | _ => false
    | _ => false
  | .extend => match x with
    | .ref k => match S[k]? with
      | some (.lst _) => true
      | _ => false
    | _ => false
  | .get => match x with
    | .dic _ _ => true
    | .dct _ _ => true
    | _ => false
def opMth (m : Mt) (S : Store) (o : D) (l : List D) : Res D := match m with
  | .split => mSplit S o l
  | .join => mJoin S o l
  | .append => mAppend S o l
  | .extend => mExtend S o l
  | .get => mGet S o l
/-- the values in the parameters' order -/
def permBy {α : Type} (ps ks : List Str) (xs : List α) : List α := ps.filterMap fun p => (ks.zip xs).lookup p
def opOmt (g : GE) (m : Str) (o : D) (l : List D) (S : Store) : Res D := match clsName S o with
  | some c => g.me c m o l S
  | none => .bad
/-- a field, or a property -/
def insOf (S : Store) : D → Option (Str × List Str × List D)
  | .obj c ns vs => some (c, ns, vs)
  | .ref k => match S[k]? with
    | some (.ins c ns vs) => some (c, ns, vs)
    | _ => none
  | _ => none
/-- own __eq__: == of an instance, != of two of one class -/
def oeB (g : GE) (S : Store) (ng : Bool) (c : Str) (y : D) : Bool := g.oe c && (match ng with
  | true => decide (clsName S y = some c)
  | false => (tyName S y).isSome || ((clsName S y).map g.cls.contains).getD false)
def opOeq (g : GE) (ng : Bool) (x y : D) (S : Store) : Res D := match clsName S x with
  | some c => if oeB g S ng c y then (if x.hasClo || y.hasClo then .bad else match g.me c ("__eq__" : Str) x [y] S with
      | .ok (.bl b) S' => .ok (.bl (ng != b)) S'
      | _ => .bad) else .bad
  | none => .bad
def opFld (g : GE) (o : D) (f : Str) (S : Store) : Res D := match insOf S o with
  | some (c, ns, vs) => if g.fs c f then optR S ((ns.zip vs).lookup f) else if g.pp c f then (if o.hasClo then .bad else match g.me c f o [] S with
      | .ok d S => if d.hasClo then .bad else .ok d S
      | _ => .bad) else .bad
  | none => .bad
def fmtD : D → Option Str
  | .str y => if y.length ≤ line then some y else none
  | .int i => if i.natAbs.log2 < 1920 then some (toString i) else none
  | _ => none
def fmtR (x : D) (S : Store) : Res D := match fmtD x with
  | some y => .ok (.str y) S
  | none => .bad
def truth : D → Option Bool
  | .bl b => some b
  | _ => none

/-- what may be called: a closure, a def of the text -/
def clKind (g : GE) : D → Bool
  | .clo _ _ => true
  | .glo y => g.gk y
  | _ => false
mutual
def ev (g : GE) : Tm → En → Store → Res D
  | .var i, δ, S => match δ[i]? with
    | some (some d) => .ok d S
    | _ => .bad
  | .cint i, _, S => .ok (.int i) S
  | .cbl b, _, S => .ok (.bl b) S
  | .cnon, _, S => .ok .non S
  | .cstr s, _, S => .ok (.str s) S
  | .glb x, _, S => optR S (g.con x)
  | .typ n, _, S => .ok (.ty n) S
  | .bin op a b, δ, S => (ev g a δ S).bind fun x S => (ev g b δ S).bind fun y S => opBin op S x y
  | .neg a, δ, S => (ev g a δ S).bind fun x S => match x with
    | .int i => .ok (.int (-i)) S
    | _ => .bad
  | .not a, δ, S => (ev g a δ S).bind fun x S => match x with
    | .bl b => .ok (.bl (!b)) S
    | _ => .bad
  | .and a b, δ, S => (ev g a δ S).bind fun x S => match x with
    | .bl true => ev g b δ S
    | .bl false => .ok (.bl false) S
    | _ => .bad
  | .or a b, δ, S => (ev g a δ S).bind fun x S => match x with
    | .bl true => .ok (.bl true) S
    | .bl false => ev g b δ S
    | _ => .bad
  | .cmp op a b, δ, S => (ev g a δ S).bind fun x S => (ev g b δ S).bind fun y S => opCmp op S x y
  | .chn op1 op2 a b c, δ, S => (ev g a δ S).bind fun x S => (ev g b δ S).bind fun y S => (opCmp op1 S x y).bind fun r S => match r with
    | .bl true => (ev g c δ S).bind fun z S => opCmp op2 S y z
    | .bl false => .ok (.bl false) S
    | _ => .bad
  | .oeq ng a b, δ, S => (ev g a δ S).bind fun x S => (ev g b δ S).bind fun y S => opOeq g ng x y S
  | .ite c a b, δ, S => (ev g c δ S).bind fun x S => match x with
    | .bl true => ev g a δ S
    | .bl false => ev g b δ S
    | _ => .bad
  | .star _, _, _ => .bad
  | .tup l, δ, S => (evs g l δ S).bind fun xs S => if xs.length ≤ line then .ok (.tup xs) S else .bad
  | .lst m l, δ, S => (evs g l δ S).bind fun xs S => if xs.length ≤ line then (if m then (if D.hasCloL xs then .bad else .ok (.ref S.length) (S ++ [.lst xs])) else .ok (.lst xs) S) else .bad
  | .ix a i, δ, S => (ev g a δ S).bind fun x S => (ev g i δ S).bind fun y S => opIx S x y
  | .sl a lo hi, δ, S => (ev g a δ S).bind fun x S => (if lo.isCnon then .ok none S else (ev g lo δ S).bind partD).bind fun l S => (if hi.isCnon then .ok none S else (ev g hi δ S).bind partD).bind fun h S => opSl S x l h
  | .fld a f, δ, S => (ev g a δ S).bind fun x S => opFld g x f S
  | .call f l, δ, S => (evs g l δ S).bind fun xs S => g.fn f xs S
  | .kcl f ps ks l, δ, S => (evs g l δ S).bind fun xs S => if xs.length = ks.length then g.fn f (permBy ps ks xs) S else .bad
  | .clv i l, δ, S => match δ[i]? with
    | some (some d) => if clKind g d then (evs g l δ S).bind fun xs S => g.cl d xs S else .bad
    | _ => .bad
  | .blt f l, δ, S => (evs g l δ S).bind fun xs S => opBlt g f xs S
  | .mth m o l, δ, S => (ev g o δ S).bind fun x S => if mtOk S m x then (evs g l δ S).bind fun xs S => opMth m S x xs else .bad
  | .omt m o l, δ, S => (ev g o δ S).bind fun x S => (evs g l δ S).bind fun xs S => opOmt g m x xs S
  | .lc m tg ik it c e own, δ, S => (evs g it δ S).bind fun its S => (iterK ik its S).bind fun I S =>
      (lcLoop I.c (stepL tg (wipeC (wipeE δ own)) (ev g c) (ev g e)) I.l S []).bind fun xs S => endL m xs S
  | .dcp tg ik it c ka lo hi v own, δ, S => (evs g it δ S).bind fun its S => (iterK ik its S).bind fun I S =>
      (dcLoop I.c (stepD toKeys tg (wipeC (wipeE δ own)) (ev g c) (fun δ S => (ev g ka δ S).bind fun x S => (if lo.isCnon then .ok none S else (ev g lo δ S).bind partD).bind fun l S => (if hi.isCnon then .ok none S else (ev g hi δ S).bind partD).bind fun h S => opSlp S x l h) (ev g v)) I.l S [] []).bind fun r S => .ok (.dct r.1 r.2) S
  | .fst l, δ, S => (evF g l Str.empty δ S).bind fun s S => .ok (.str s) S
  | .lam id caps, δ, S => match getSlots caps δ with
    | some ds => .ok (.clo id ds) S
    | none => .bad
  | .kin ng x a, δ, S => (ev g a δ S).bind fun y S => match g.kd x, y with
    | some kvs, .str z => .ok (.bl (ng != (kvs.lookup z).isSome)) S
    | _, _ => .bad
  | .kget x a, δ, S => (ev g a δ S).bind fun y S => match g.kd x, y with
    | some kvs, .str z => optR S (kvs.lookup z)
    | _, _ => .bad
def evs (g : GE) : List Tm → En → Store → Res (List D)
  | [], _, S => .ok [] S
  | t :: r, δ, S => match t with
    | .star a => (ev g a δ S).bind fun x S => match x with
      | .tup l => (evs g r δ S).bind fun xs S => .ok (l ++ xs) S
      | _ => .bad
    | t => (ev g t δ S).bind fun x S => (evs g r δ S).bind fun xs S => .ok (x :: xs) S
/-- the parts of an f-string, one behind the other -/
def evF (g : GE) : List Tm → Str → En → Store → Res Str
  | [], acc, _, S => .ok acc S
  | t :: r, acc, δ, S => ((ev g t δ S).bind fmtR).bind fun x S => match x with
    | .str y => if (acc ++ y).length ≤ line then evF g r (acc ++ y) δ S else .bad
    | _ => .bad
end
mutual
theorem sameD_ok : ∀ (a b : D), sameD a b = true → a = b
  | .non, b, h => by cases b <;> first | rfl | cases h
  | .bl a, b, h => by
    cases b <;> first | cases h | skip
    unfold sameD at h
    rw [eq_of_beq h]
  | .int a, b, h => by
    cases b <;> first | cases h | skip
    unfold sameD at h
    rw [of_decide_eq_true h]
  | .str a, b, h => by
    cases b <;> first | cases h | skip
    unfold sameD at h
    rw [of_decide_eq_true h]
  | .ref a, b, h => by
    cases b <;> first | cases h | skip
    unfold sameD at h
    rw [of_decide_eq_true h]
  | .scr a, b, h => by
    cases b <;> first | cases h | skip
    unfold sameD at h
    rw [of_decide_eq_true h]
  | .glo a, b, h => by
    cases b <;> first | cases h | skip
    unfold sameD at h
    rw [of_decide_eq_true h]
  | .ty a, b, h => by
    cases b <;> first | cases h | skip
    unfold sameD at h
    rw [of_decide_eq_true h]
  | .tup a, b, h => by
    cases b <;> first | cases h | skip
    unfold sameD at h
    rw [sameDs_ok a _ h]
  | .lst a, b, h => by
    cases b <;> first | cases h | skip
    unfold sameD at h
    rw [sameDs_ok a _ h]
  | .dic k a, b, h => by
    cases b <;> first | cases h | skip
    unfold sameD at h
    rw [Bool.and_eq_true, decide_eq_true_eq] at h
    rw [sameDs_ok a _ h.2, h.1]
  | .dct k a, b, h => by
    cases b <;> first | cases h | skip
    unfold sameD at h
    rw [Bool.and_eq_true, decide_eq_true_eq] at h
    rw [sameDs_ok a _ h.2, h.1]
  | .clo k a, b, h => by
    cases b <;> first | cases h | skip
    unfold sameD at h
    rw [Bool.and_eq_true, decide_eq_true_eq] at h
    rw [sameDs_ok a _ h.2, h.1]
  | .obj c n a, b, h => by
    cases b <;> first | cases h | skip
    unfold sameD at h
    rw [Bool.and_eq_true, Bool.and_eq_true, decide_eq_true_eq, decide_eq_true_eq] at h
    rw [sameDs_ok a _ h.2.2, h.1, h.2.1]
theorem sameDs_ok : ∀ (a b : List D), sameDs a b = true → a = b
  | [], b, h => by cases b <;> first | rfl | cases h
  | a :: r, b, h => by
    cases b <;> first | cases h | skip
    unfold sameDs at h
    rw [Bool.and_eq_true] at h
    rw [sameD_ok a _ h.1, sameDs_ok r _ h.2]
end
mutual
theorem sameD_self : ∀ a : D, sameD a a = true
  | .non => rfl
  | .bl a => by unfold sameD; exact beq_self_eq_true a
  | .int a => by unfold sameD; exact decide_eq_true rfl
  | .str a => by unfold sameD; exact decide_eq_true rfl
  | .ref a => by unfold sameD; exact decide_eq_true rfl
  | .scr a => by unfold sameD; exact decide_eq_true rfl
  | .glo a => by unfold sameD; exact decide_eq_true rfl
  | .ty a => by unfold sameD; exact decide_eq_true rfl
  | .tup a => by unfold sameD; exact sameDs_self a
  | .lst a => by unfold sameD; exact sameDs_self a
  | .dic k a => by unfold sameD; rw [sameDs_self a, decide_eq_true rfl]; rfl
  | .dct k a => by unfold sameD; rw [sameDs_self a, decide_eq_true rfl]; rfl
  | .clo k a => by unfold sameD; rw [sameDs_self a, decide_eq_true rfl]; rfl
  | .obj c n a => by unfold sameD; rw [sameDs_self a, decide_eq_true rfl, decide_eq_true rfl]; rfl
theorem sameDs_self : ∀ a : List D, sameDs a a = true
  | [] => rfl
  | a :: r => by unfold sameDs; rw [sameD_self a, sameDs_self r]; rfl
end
theorem sameO_ok {a b : Option MO} (h : sameO a b = true) : ∃ l, a = some (.lst l) ∧ b = some (.lst l) := by
  unfold sameO at h
  split at h
  · rename_i x y
    exact ⟨x, rfl, by rw [sameDs_ok x y h]⟩
  · cases h
end MM
end
section
set_option Elab.async false
set_option linter.all false
set_option maxRecDepth 100000
set_option maxHeartbeats 2000000
/-! How a heap bears a value; worlds; what stays. -/
namespace MM
open PySem PySem.Spec PyProof.Rows L2
variable [Lams]

/-- the mutable objects' places; the lists and dicts that are being made -/
structure Rh where
  l : List Addr
  w : List Addr
instance : Membership Addr Rh := ⟨fun ρ a => a ∈ ρ.l ∨ a ∈ ρ.w⟩
theorem mem_rh {ρ : Rh} {a : Addr} : a ∈ ρ ↔ a ∈ ρ.l ∨ a ∈ ρ.w := Iff.rfl
def Rh.add (ρ : Rh) (a : Addr) : Rh := ⟨ρ.l ++ [a], ρ.w⟩
/-- where one looks: the written part, the module's names, the heap, the mutable objects' places, what the cells hold -/
structure PR where
  K : PySem.W.Frag
  mg : Str → Option Value
  H : Hp
  ρ : Rh
  cp : Addr → V → Prop

/-- the function object of a lambda, known by its object -/
def cloO (f : Addr) (o : Obj) : HO := .ext fun h => h.get? f = some o
/-- how cells hold: names, cells, values -/
structure CapOk (cp : Addr → V → Prop) (fr : List Str) (cl : List (Str × Addr)) (us : List V) : Prop where
  len : us.length = fr.length
  sub : ∀ y c, cl.lookup y = some c → y ∈ fr
  inj : ∀ x y c, cl.lookup x = some c → cl.lookup y = some c → x = y
  at_ : ∀ (i : Nat) (x : Str) (u : V), fr[i]? = some x → us[i]? = some u → ∃ c, cl.lookup x = some c ∧ cp c u

mutual
def RD (p : PR) : D → V → Prop
  | .non, v => v = .non
  | .bl b, v => v = .bl b
  | .int i, v => v = .int i
  | .str s, v => v = .str s
  | .tup l, v => ∃ a xs, v = .ref a ∧ SqT p.K p.H a xs ∧ RDs p l xs
  | .lst l, v => ∃ a xs, v = .ref a ∧ p.H a = some (.lst xs) ∧ a ∉ p.ρ ∧ RDs p l xs
  | .dic ks vs, v => ∃ a kvs, v = .ref a ∧ a ∉ p.ρ ∧ p.H a = some (.dK kvs) ∧ ks = kvs.map (·.1) ∧ RDs p vs (kvs.map (·.2))
  | .dct ks vs, v => ∃ a kvs, v = .ref a ∧ a ∉ p.ρ ∧ p.H a = some (.dT kvs) ∧ ks = kvs.map (·.1) ∧ RDs p vs (kvs.map (·.2))
  | .obj c ns vs, v => ∃ a C dx fs, v = .ref a ∧ p.H a = some (.ins C dx fs) ∧ a ∉ p.ρ ∧ p.mg c = some (.ref C) ∧ fs.map (·.1) = ns ∧ RDs p vs (fs.map (·.2))
  | .ref k, v => ∃ a, v = .ref a ∧ p.ρ.l[k]? = some a
  | .scr l, v => ∃ a, v = .ref a ∧ ((Rd p.H a (.lst (l.map V.int)) ∧ a ∉ p.ρ) ∨ SqL p.K (fun _ => none) a (l.map V.int))
  | .glo x, v => ∃ a, v = .ref a ∧ p.mg x = some (.ref a)
  | .ty n, v => v = .ty n
  | .clo id caps, v => ∃ r f c' cl pm ctv us, Lams.tab id = some r ∧ v = .ref f ∧ p.H f = some (cloO f (PySem.W.kla_obj "<lambda>" r.qual r.args r.body r.sc cl pm c' ctv)) ∧
      p.H c' = some (LamX.CodeO c' r.qual) ∧ RDs p caps us ∧ CapOk p.cp r.fr cl us
def RDs (p : PR) : List D → List V → Prop
  | [], xs => xs = []
  | d :: r, xs => ∃ y ys, xs = y :: ys ∧ RD p d y ∧ RDs p r ys
end

/-- the heap has grown; what is mutable may have changed -/
structure Le (H : Hp) (ρ : Rh) (H' : Hp) (ρ' : Rh) : Prop where
  pre : ∃ r, ρ'.l = ρ.l ++ r ∧ ∀ a ∈ r, H a = none
  w : ρ'.w = ρ.w
  keep : ∀ a o, H a = some o → a ∉ ρ.l → (∀ ps, o ≠ .tbl ps) → H' a = some o
  still : ∀ a o, H a = some o → ∃ o', H' a = some o'
theorem Le.rfl' {H : Hp} {ρ : Rh} : Le H ρ H ρ := ⟨⟨[], by simp, fun _ h => nomatch h⟩, rfl, fun _ _ h _ _ => h, fun _ o h => ⟨o, h⟩⟩
theorem Le.outl {H H' : Hp} {ρ ρ' : Rh} (l : Le H ρ H' ρ') {a : Addr} {o : HO} (h : H a = some o) (n : a ∉ ρ.l) : a ∉ ρ'.l := by
  obtain ⟨r, e, hr⟩ := l.pre
  rw [e, List.mem_append]
  rintro (z | z)
  · exact n z
  · rw [hr a z] at h; cases h
theorem Le.out {H H' : Hp} {ρ ρ' : Rh} (l : Le H ρ H' ρ') {a : Addr} {o : HO} (h : H a = some o) (n : a ∉ ρ) : a ∉ ρ' := by
  rintro (z | z)
  · exact l.outl h (fun z => n (.inl z)) z
  · rw [l.w] at z
    exact n (.inr z)
theorem Le.trans {H H1 H2 : Hp} {ρ ρ1 ρ2 : Rh} (a : Le H ρ H1 ρ1) (b : Le H1 ρ1 H2 ρ2) : Le H ρ H2 ρ2 := by
  obtain ⟨r, e, hr⟩ := a.pre
  obtain ⟨q, e', hq⟩ := b.pre
  refine ⟨⟨r ++ q, by rw [e', e, List.append_assoc], fun x hx => ?_⟩, b.w.trans a.w, fun c o h n t => b.keep c o (a.keep c o h n t) (a.outl h n) t, fun c o h => ?_⟩
  · rcases List.mem_append.mp hx with z | z
    · exact hr x z
    · cases h : H x with
      | none => rfl
      | some o =>
        obtain ⟨o', h'⟩ := a.still x o h
        rw [hq x z] at h'; cases h'
  · obtain ⟨o1, h1⟩ := a.still c o h
    exact b.still c o1 h1
theorem Le.upd {H : Hp} {ρ : Rh} {p : Addr} {o : HO} (h : H p = none) : Le H ρ (upd H p o) ρ :=
  ⟨⟨[], by simp, fun _ h => nomatch h⟩, rfl, fun a u e _ _ => by rw [upd_ne (ne_of_none e h)]; exact e, fun a u e => ⟨u, by rw [upd_ne (ne_of_none e h)]; exact e⟩⟩
theorem Le.new {H : Hp} {ρ : Rh} {p : Addr} {o : HO} (h : H p = none) : Le H ρ (L2.upd H p o) (ρ.add p) :=
  ⟨⟨[p], rfl, fun a m => by rw [List.mem_singleton.mp m]; exact h⟩, rfl, fun a u e _ _ => by rw [upd_ne (ne_of_none e h)]; exact e, fun a u e => ⟨u, by rw [upd_ne (ne_of_none e h)]; exact e⟩⟩
theorem Le.put {H : Hp} {ρ : Rh} {p : Addr} {o : HO} (h : p ∈ ρ.l) : Le H ρ (L2.upd H p o) ρ :=
  ⟨⟨[], by simp, fun _ h => nomatch h⟩, rfl, fun a u e n _ => by rw [upd_ne (fun z => n (by rw [z]; exact h))]; exact e, fun a u e => by
    by_cases z : a = p
    · exact ⟨o, by rw [z, upd_same]⟩
    · exact ⟨u, by rw [upd_ne z]; exact e⟩⟩

/-- what is looked at at both ends -/
structure PLe (p p' : PR) : Prop where
  K : p'.K = p.K
  mg : p'.mg = p.mg
  keep : ∀ a o, p.H a = some o → a ∉ p.ρ → (∀ ps, o ≠ .tbl ps) → p'.H a = some o
  out : ∀ a o, p.H a = some o → a ∉ p.ρ → a ∉ p'.ρ
  ix : ∀ (k : Nat) (a : Addr), p.ρ.l[k]? = some a → p'.ρ.l[k]? = some a
  cp : ∀ c v, p.cp c v → p'.cp c v
  mu : ∀ a ∈ p.ρ, Mut (p.H a)
  fn : ∀ a φ, a ∈ p.ρ → p.H a = some (.ext φ) → False
theorem sqT_le {p p' : PR} {a : Addr} {xs : List V} (l : PLe p p') (h : SqT p.K p.H a xs) : SqT p.K p'.H a xs := by
  rcases h with (h | ⟨o, h⟩) | h
  · exact .inl (.inl (l.keep a _ h (fun z => by have := l.mu a z; rw [h] at this; exact this) (fun _ z => by cases z)))
  · exact .inl (.inr ⟨o, l.keep a _ h (fun z => by have := l.mu a z; rw [h] at this; exact this) (fun _ z => by cases z)⟩)
  · exact .inr h
theorem sqL_le {p p' : PR} {a : Addr} {xs : List V} (l : PLe p p') (h : SqL p.K p.H a xs) (n : a ∉ p.ρ) : SqL p.K p'.H a xs := by
  rcases h with (h | ⟨o, h⟩) | h
  · exact .inl (.inl (l.keep a _ h n (fun _ z => by cases z)))
  · exact .inl (.inr ⟨o, l.keep a _ h n (fun _ z => by cases z)⟩)
  · exact .inr h

mutual
theorem RD.le {p p' : PR} (l : PLe p p') : ∀ (d : D) (v : V), RD p d v → RD p' d v
  | .non, v, h => h
  | .bl b, v, h => h
  | .int i, v, h => h
  | .str s, v, h => h
  | .tup ds, v, h => by
    obtain ⟨a, xs, e, q, r⟩ := h
    exact ⟨a, xs, e, by rw [l.K]; exact sqT_le l q, RDs.le l ds xs r⟩
  | .lst ds, v, h => by
    obtain ⟨a, xs, e, q, n, r⟩ := h
    exact ⟨a, xs, e, l.keep a _ q n (fun _ z => by cases z), l.out a _ q n, RDs.le l ds xs r⟩
  | .dic ks vs, v, h => by
    obtain ⟨a, kvs, e, n, q1, q2, q3⟩ := h
    exact ⟨a, kvs, e, l.out a _ q1 n, l.keep a _ q1 n (fun _ z => by cases z), q2, RDs.le l vs _ q3⟩
  | .dct ks vs, v, h => by
    obtain ⟨a, kvs, e, n, q1, q2, q3⟩ := h
    exact ⟨a, kvs, e, l.out a _ q1 n, l.keep a _ q1 n (fun _ z => by cases z), q2, RDs.le l vs _ q3⟩
  | .obj c ns vs, v, h => by
    obtain ⟨a, C, dx, fs, e, q, n, m, en, r⟩ := h
    exact ⟨a, C, dx, fs, e, l.keep a _ q n (fun _ z => by cases z), l.out a _ q n, by rw [l.mg]; exact m, en, RDs.le l vs _ r⟩
  | .ref k, v, h => by
    obtain ⟨a, e, q⟩ := h
    exact ⟨a, e, l.ix k a q⟩
  | .scr ns, v, h => by
    obtain ⟨a, e, q⟩ := h
    refine ⟨a, e, ?_⟩
    rcases q with ⟨q | ⟨o, q⟩, n⟩ | q
    · exact .inl ⟨.inl (l.keep a _ q n (fun _ z => by cases z)), l.out a _ q n⟩
    · exact .inl ⟨.inr ⟨o, l.keep a _ q n (fun _ z => by cases z)⟩, l.out a _ q n⟩
    · exact .inr (by rw [l.K]; exact q)
  | .glo x, v, h => by
    obtain ⟨a, e, q⟩ := h
    exact ⟨a, e, by rw [l.mg]; exact q⟩
  | .ty n, v, h => h
  | .clo id caps, v, h => by
    obtain ⟨r, f, c', cl, pm, ctv, us, er, e, q1, q2, q3, q4⟩ := h
    have n1 : f ∉ p.ρ := fun z => by have := l.mu f z; rw [q1] at this; exact l.fn f _ z q1
    have n2 : c' ∉ p.ρ := fun z => l.fn c' _ z q2
    refine ⟨r, f, c', cl, pm, ctv, us, er, e, l.keep _ _ q1 n1 (fun _ z => by unfold cloO at z; cases z), l.keep _ _ q2 n2 (fun _ z => by unfold LamX.CodeO at z; cases z), RDs.le l caps us q3, q4.len, q4.sub, q4.inj, fun i x u h1 h2 => ?_⟩
    obtain ⟨c, h3, h4⟩ := q4.at_ i x u h1 h2
    exact ⟨c, h3, l.cp c u h4⟩
theorem RDs.le {p p' : PR} (l : PLe p p') : ∀ (ds : List D) (xs : List V), RDs p ds xs → RDs p' ds xs
  | [], xs, h => h
  | d :: r, xs, h => by
    obtain ⟨y, ys, e, h1, h2⟩ := h
    exact ⟨y, ys, e, RD.le l d y h1, RDs.le l r ys h2⟩
end

theorem RDs.length {p : PR} : ∀ {ds : List D} {xs : List V}, RDs p ds xs → ds.length = xs.length
  | [], xs, h => by
    have e : xs = [] := h
    rw [e]
    rfl
  | d :: r, xs, h => by
    obtain ⟨y, ys, e, _, h2⟩ := h
    rw [e, List.length_cons, List.length_cons, RDs.length h2]
theorem RDs.append {p : PR} : ∀ {ds es : List D} {xs ys : List V}, RDs p ds xs → RDs p es ys → RDs p (ds ++ es) (xs ++ ys)
  | [], es, xs, ys, h, h' => by
    have e : xs = [] := h
    rw [e]
    exact h'
  | d :: r, es, xs, ys, h, h' => by
    obtain ⟨y, zs, e, h1, h2⟩ := h
    rw [e]
    exact ⟨y, zs ++ ys, rfl, h1, RDs.append h2 h'⟩
theorem RDs.get {p : PR} : ∀ {ds : List D} {xs : List V} {i : Nat} {d : D}, RDs p ds xs → ds[i]? = some d → ∃ x, xs[i]? = some x ∧ RD p d x
  | [], xs, i, d, h, e => by simp at e
  | d' :: r, xs, 0, d, h, e => by
    obtain ⟨y, ys, e1, h1, h2⟩ := h
    have e' : d' = d := by simpa using e
    exact ⟨y, by rw [e1]; rfl, by rw [← e']; exact h1⟩
  | d' :: r, xs, i + 1, d, h, e => by
    obtain ⟨y, ys, e1, h1, h2⟩ := h
    obtain ⟨x, q1, q2⟩ := RDs.get (i := i) h2 (by simpa using e)
    exact ⟨x, by rw [e1]; simpa using q1, q2⟩
theorem RDs.getV {p : PR} : ∀ {ds : List D} {xs : List V} {i : Nat} {x : V}, RDs p ds xs → xs[i]? = some x → ∃ d, ds[i]? = some d ∧ RD p d x
  | [], xs, i, x, h, e => by
    have e1 : xs = [] := h
    rw [e1] at e
    simp at e
  | d' :: r, xs, 0, x, h, e => by
    obtain ⟨y, ys, e1, h1, h2⟩ := h
    rw [e1] at e
    have e' : y = x := by simpa using e
    exact ⟨d', rfl, by rw [← e']; exact h1⟩
  | d' :: r, xs, i + 1, x, h, e => by
    obtain ⟨y, ys, e1, h1, h2⟩ := h
    rw [e1] at e
    obtain ⟨d, q1, q2⟩ := RDs.getV (i := i) h2 (by simpa using e)
    exact ⟨d, by simpa using q1, q2⟩
theorem RDs.take {p : PR} : ∀ (n : Nat) {ds : List D} {xs : List V}, RDs p ds xs → RDs p (ds.take n) (xs.take n)
  | 0, _, _, _ => rfl
  | n + 1, [], xs, h => by
    have e1 : xs = [] := h
    rw [e1]
    rfl
  | n + 1, d :: r, xs, h => by
    obtain ⟨y, ys, e1, h1, h2⟩ := h
    rw [e1]
    exact ⟨y, ys.take n, rfl, h1, RDs.take n h2⟩
theorem RDs.drop {p : PR} : ∀ (n : Nat) {ds : List D} {xs : List V}, RDs p ds xs → RDs p (ds.drop n) (xs.drop n)
  | 0, _, _, h => h
  | n + 1, [], xs, h => by
    have e1 : xs = [] := h
    rw [e1]
    rfl
  | n + 1, d :: r, xs, h => by
    obtain ⟨y, ys, e1, h1, h2⟩ := h
    rw [e1]
    exact RDs.drop n h2
theorem RDs.nil_iff {p : PR} {ds : List D} {xs : List V} (h : RDs p ds xs) : ds = [] ↔ xs = [] := by
  have e := h.length
  constructor
  · intro z
    rw [z] at e
    exact List.eq_nil_of_length_eq_zero e.symm
  · intro z
    rw [z] at e
    exact List.eq_nil_of_length_eq_zero e

/-- a mutable object -/
def RM (p : PR) (a : Addr) : MO → Prop
  | .lst l => ∃ xs, p.H a = some (.lst xs) ∧ RDs p l xs
  | .ins c ns vs => ∃ C dx fs, p.H a = some (.ins C dx fs) ∧ p.mg c = some (.ref C) ∧ fs.map (·.1) = ns ∧ RDs p vs (fs.map (·.2))
abbrev pr0 (K : PySem.W.Frag) (mg : Str → Option Value) (H : Hp) (ρ : Rh) : PR := ⟨K, mg, H, ρ, fun _ _ => False⟩
/-- what is being made -/
def WkO (o : Option HO) : Prop := (∃ xs, o = some (.lst xs)) ∨ (∃ kvs, o = some (.dK kvs)) ∨ ∃ kvs, o = some (.dT kvs)
structure StoreOk (K : PySem.W.Frag) (mg : Str → Option Value) (H : Hp) (ρ : Rh) (S : Store) : Prop where
  len : ρ.l.length = S.length
  nd : ρ.l.Nodup
  ob : ∀ (k : Nat) (a : Addr) (m : MO), ρ.l[k]? = some a → S[k]? = some m → RM (pr0 K mg H ρ) a m
  wk : ∀ a ∈ ρ.w, WkO (H a) ∧ a ∉ ρ.l
section
variable {K : PySem.W.Frag} {mg : Str → Option Value} {H H' : Hp} {ρ ρ' : Rh} {S S' : Store}
theorem StoreOk.there (s : StoreOk K mg H ρ S) {a : Addr} (h : a ∈ ρ.l) : (∃ xs, H a = some (.lst xs)) ∨ ∃ C dx fs, H a = some (.ins C dx fs) := by
  obtain ⟨k, hk, e⟩ := List.mem_iff_getElem.mp h
  have e1 : ρ.l[k]? = some a := by rw [List.getElem?_eq_getElem hk, e]
  have hk2 : k < S.length := by rw [← s.len]; exact hk
  have := s.ob k a S[k] e1 (by rw [List.getElem?_eq_getElem hk2])
  cases q : S[k] with
  | lst l =>
    rw [q] at this
    obtain ⟨xs, h1, _⟩ := this
    exact .inl ⟨xs, h1⟩
  | ins c ns vs =>
    rw [q] at this
    obtain ⟨C, dx, fs, h1, _⟩ := this
    exact .inr ⟨C, dx, fs, h1⟩
theorem StoreOk.mut (s : StoreOk K mg H ρ S) : ∀ a ∈ ρ, Mut (H a) := fun a h => by
  rcases h with h | h
  · rcases s.there h with ⟨xs, e⟩ | ⟨C, dx, fs, e⟩ <;> rw [e] <;> trivial
  · rcases (s.wk a h).1 with ⟨xs, e⟩ | ⟨xs, e⟩ | ⟨xs, e⟩ <;> rw [e] <;> trivial
theorem StoreOk.nofn (s : StoreOk K mg H ρ S) : ∀ a φ, a ∈ ρ → H a = some (.ext φ) → False := fun a φ h q => by
  rcases h with h | h
  · rcases s.there h with ⟨xs, e⟩ | ⟨C, dx, fs, e⟩ <;> rw [e] at q <;> cases q
  · rcases (s.wk a h).1 with ⟨xs, e⟩ | ⟨xs, e⟩ | ⟨xs, e⟩ <;> rw [e] at q <;> cases q
theorem StoreOk.is (s : StoreOk K mg H ρ S) {a : Addr} (h : a ∈ ρ) : ∃ o, H a = some o := by
  rcases h with h | h
  · rcases s.there h with ⟨xs, e⟩ | ⟨C, dx, fs, e⟩ <;> exact ⟨_, e⟩
  · rcases (s.wk a h).1 with ⟨xs, e⟩ | ⟨xs, e⟩ | ⟨xs, e⟩ <;> exact ⟨_, e⟩
theorem StoreOk.ple {cp cp' : Addr → V → Prop} (s : StoreOk K mg H ρ S) (l : Le H ρ H' ρ') (hc : ∀ c v, cp c v → cp' c v) : PLe ⟨K, mg, H, ρ, cp⟩ ⟨K, mg, H', ρ', cp'⟩ :=
  ⟨rfl, rfl, fun a o h n t => l.keep a o h (fun z => n (.inl z)) t, fun a o h n => l.out h n, fun k a q => by
    obtain ⟨r, er, _⟩ := l.pre
    show ρ'.l[k]? = some a
    rw [er, List.getElem?_append_left (List.getElem?_eq_some_iff.mp q).1]
    exact q, hc, s.mut, s.nofn⟩
theorem RM.le {p p' : PR} (l : PLe p p') {a : Addr} {m : MO} (h : RM p a m) (e : p'.H a = p.H a) : RM p' a m := by
  cases m with
  | lst l' =>
    obtain ⟨xs, h1, h2⟩ := h
    exact ⟨xs, by rw [e]; exact h1, RDs.le l l' xs h2⟩
  | ins c ns vs =>
    obtain ⟨C, dx, fs, h1, h2, h3, h4⟩ := h
    exact ⟨C, dx, fs, by rw [e]; exact h1, by rw [l.mg]; exact h2, h3, RDs.le l vs _ h4⟩
theorem WkO.upd {p a : Addr} {o : HO} (h : H p = none) (w : WkO (H a)) : WkO (L2.upd H p o a) := by
  have ne : a ≠ p := fun z => by
    rw [z, h] at w
    rcases w with ⟨xs, e⟩ | ⟨xs, e⟩ | ⟨xs, e⟩ <;> cases e
  rw [upd_ne ne]
  exact w
/-- a new frozen thing -/
theorem StoreOk.upd {p : Addr} {o : HO} (s : StoreOk K mg H ρ S) (h : H p = none) : StoreOk K mg (L2.upd H p o) ρ S := by
  have pl : PLe (pr0 K mg H ρ) (pr0 K mg (L2.upd H p o) ρ) := s.ple (Le.upd h) fun _ _ z => z
  refine ⟨s.len, s.nd, fun k a m e1 e2 => ?_, fun a ha => ⟨(s.wk a ha).1.upd h, (s.wk a ha).2⟩⟩
  obtain ⟨o', ho⟩ := s.is (.inl (List.mem_of_getElem? e1))
  exact (s.ob k a m e1 e2).le pl (upd_ne (ne_of_none ho h))
theorem StoreOk.fresh {p : Addr} (s : StoreOk K mg H ρ S) (h : H p = none) : p ∉ ρ := fun z => by
  obtain ⟨o, e⟩ := s.is z
  rw [h] at e; cases e
/-- a new mutable thing -/
theorem StoreOk.new {p : Addr} {o : HO} {m : MO} (s : StoreOk K mg H ρ S) (h : H p = none) (hm : RM (pr0 K mg (L2.upd H p o) (ρ.add p)) p m) : StoreOk K mg (L2.upd H p o) (ρ.add p) (S ++ [m]) := by
  have pl : PLe (pr0 K mg H ρ) (pr0 K mg (L2.upd H p o) (ρ.add p)) := s.ple (Le.new h) fun _ _ z => z
  have np : p ∉ ρ := s.fresh h
  refine ⟨by show (ρ.l ++ [p]).length = _; rw [List.length_append, List.length_append, s.len]; rfl, ?_, fun k a m' e1 e2 => ?_, fun a ha => ?_⟩
  · show (ρ.l ++ [p]).Nodup
    rw [List.nodup_append]
    exact ⟨s.nd, by simp, fun a ha b hb z => by rw [List.mem_singleton.mp hb] at z; rw [z] at ha; exact np (.inl ha)⟩
  · have e1 : (ρ.l ++ [p])[k]? = some a := e1
    by_cases hk : k < ρ.l.length
    · rw [List.getElem?_append_left hk] at e1
      rw [List.getElem?_append_left (by rw [← s.len]; exact hk)] at e2
      obtain ⟨o', ho⟩ := s.is (.inl (List.mem_of_getElem? e1))
      exact (s.ob k a m' e1 e2).le pl (upd_ne (ne_of_none ho h))
    · have hk1 : k = ρ.l.length := by
        have := (List.getElem?_eq_some_iff.mp e1).1
        rw [List.length_append] at this
        have h1 : ([p] : List Addr).length = 1 := rfl
        omega
      subst hk1
      rw [List.getElem?_append_right (Nat.le_refl _), Nat.sub_self] at e1
      rw [List.getElem?_append_right (by rw [s.len]; exact Nat.le_refl _), s.len, Nat.sub_self] at e2
      have e1' : p = a := by simpa using e1
      have e2' : m = m' := by simpa using e2
      rw [← e1', ← e2']
      exact hm
  · have ha : a ∈ ρ.w := ha
    refine ⟨(s.wk a ha).1.upd h, fun z => ?_⟩
    have z : a ∈ ρ.l ++ [p] := z
    rcases List.mem_append.mp z with z | z
    · exact (s.wk a ha).2 z
    · rw [List.mem_singleton.mp z] at ha
      exact np (.inr ha)
theorem nodup_at {α : Type} : ∀ {l : List α} {i j : Nat} {x : α}, l.Nodup → l[i]? = some x → l[j]? = some x → i = j
  | [], _, _, _, _, h, _ => by simp at h
  | a :: l, 0, 0, _, _, _, _ => rfl
  | a :: l, 0, j + 1, x, n, h, h' => by
    have e : a = x := by simpa using h
    have h' : l[j]? = some x := by simpa using h'
    exact absurd (e ▸ List.mem_of_getElem? h') (List.nodup_cons.mp n).1
  | a :: l, i + 1, 0, x, n, h, h' => by
    have e : a = x := by simpa using h'
    have h : l[i]? = some x := by simpa using h
    exact absurd (e ▸ List.mem_of_getElem? h) (List.nodup_cons.mp n).1
  | a :: l, i + 1, j + 1, x, n, h, h' => by
    rw [nodup_at (i := i) (j := j) (List.nodup_cons.mp n).2 (by simpa using h) (by simpa using h')]
/-- a mutable thing is changed -/
theorem StoreOk.put {p : Addr} {k : Nat} {o : HO} {m : MO} (s : StoreOk K mg H ρ S) (h : ρ.l[k]? = some p) (hm : RM (pr0 K mg (L2.upd H p o) ρ) p m) : StoreOk K mg (L2.upd H p o) ρ (S.set k m) := by
  have hp : p ∈ ρ.l := List.mem_of_getElem? h
  have pl : PLe (pr0 K mg H ρ) (pr0 K mg (L2.upd H p o) ρ) := s.ple (Le.put hp) fun _ _ z => z
  refine ⟨by rw [List.length_set]; exact s.len, s.nd, fun j a m' e1 e2 => ?_, fun a ha => ?_⟩
  · by_cases hj : j = k
    · subst hj
      rw [h] at e1
      have e1' : p = a := by simpa using e1
      have hk2 : j < S.length := by rw [← s.len]; exact (List.getElem?_eq_some_iff.mp h).1
      rw [List.getElem?_set_self hk2] at e2
      have e2' : m = m' := by simpa using e2
      rw [← e1', ← e2']
      exact hm
    · rw [List.getElem?_set_ne (Ne.symm hj)] at e2
      have ne : a ≠ p := fun z => hj (nodup_at s.nd (by rw [← z]; exact e1) h)
      exact (s.ob j a m' e1 e2).le pl (upd_ne ne)
  · have ne : a ≠ p := fun z => (s.wk a ha).2 (by rw [z]; exact hp)
    rw [upd_ne ne]
    exact s.wk a ha
end

/-! ### worlds -/
/-- what a cell holds: by the slots of the running body, or since its entry -/
def CellP (X : Cx) (σ : L2.St) (c : Addr) (v : V) : Prop :=
  (∃ (i : Nat) (x : Str), X.N[i]? = some x ∧ (X.env.scope.names.lookup x = some .cell ∨ X.env.scope.names.lookup x = some .free) ∧ X.env.cells.lookup x = some c ∧ σ[i]? = some (some v)) ∨
    ∃ u, X.s_0.heap.IsCell c (some u) ∧ RelV v u ∧ X.H_0 c = none ∧ c ∉ X.ex
/-- .. by the state -/
def CellS (s : Shared) (H : Hp) (c : Addr) (v : V) : Prop := ∃ u, s.heap.IsCell c (some u) ∧ RelV v u ∧ H c = none
theorem cell_down {X : Cx} {pins : List (Addr × Obj)} {σ : L2.St} {H : Hp} {s : Shared} (I : Inv X pins σ H s) {c : Addr} {v : V} (h : CellP X σ c v) : CellS s H c v := by
  rcases h with ⟨i, x, h1, h2, h3, h4⟩ | ⟨u, h1, h2, h3, h4⟩
  · obtain ⟨m, hn, hl⟩ := I.loc
    obtain ⟨u, r, q⟩ := hl i x v h1 h4 (.inr h2)
    rcases q with ⟨k, _⟩ | ⟨_, c', e, z⟩
    · have k : X.env.scope.names.lookup x = some .local := k
      rcases h2 with h2 | h2 <;> rw [k] at h2 <;> cases h2
    · rw [h3] at e
      cases e
      exact ⟨u, z, r, I.freeC x _ h3⟩
  · obtain ⟨o, ho, hd⟩ := h1
    obtain ⟨sl, q⟩ := I.base.any ho h3 h4
    exact ⟨u, ⟨_, q, hd⟩, h2, I.base.free c o ho h3 h4⟩
abbrev pr (X : Cx) (σ : L2.St) (H : Hp) (ρ : Rh) : PR := ⟨X.K, X.mg, H, ρ, CellP X σ⟩
structure Wld (T : List (Addr × Str)) (X : Cx) (σ : L2.St) (H : Hp) (ρ : Rh) (δ : En) (S : Store) : Prop where
  slot : ∀ (i : Nat) (d : D), δ[i]? = some (some d) → ∃ v, σ[i]? = some (some v) ∧ RD (pr X σ H ρ) d v
  sto : StoreOk X.K X.mg H ρ S
  tabs : LamX.Tabs T H
  len : δ.length = σ.length
section
variable {T : List (Addr × Str)} {X : Cx} {σ : L2.St} {H H' : Hp} {ρ ρ' : Rh} {δ : En} {S S' : Store}
theorem Wld.ple (w : Wld T X σ H ρ δ S) (l : Le H ρ H' ρ') : PLe (pr X σ H ρ) (pr X σ H' ρ') := w.sto.ple l fun _ _ z => z
theorem Wld.next (w : Wld T X σ H ρ δ S) (l : Le H ρ H' ρ') (s : StoreOk X.K X.mg H' ρ' S') (t : LamX.Tabs T H') : Wld T X σ H' ρ' δ S' :=
  ⟨fun i d e => by
    obtain ⟨v, h1, h2⟩ := w.slot i d e
    exact ⟨v, h1, h2.le (w.ple l)⟩, s, t, w.len⟩
theorem tabs_upd {T : List (Addr × Str)} {p : Addr} {o : HO} (t : LamX.Tabs T H) (h : H p = none) : LamX.Tabs T (L2.upd H p o) := t.ext fun b u e => by rw [upd_ne (ne_of_none e h)]; exact e
theorem tabs_put {T : List (Addr × Str)} {p : Addr} {o u : HO} (t : LamX.Tabs T H) (h : H p = some u) (n : ∀ ps, u ≠ .tbl ps) (n2 : ∀ φ, u ≠ .ext φ) : LamX.Tabs T (L2.upd H p o) := fun q hq => by
  obtain ⟨ps, h1, h2, h3⟩ := t q hq
  have ne : q.1 ≠ p := fun z => by rw [z, h] at h1; exact n ps (Option.some.inj h1)
  refine ⟨ps, by rw [upd_ne ne]; exact h1, h2, fun pos cv hc => ?_⟩
  obtain ⟨c, e1, e2⟩ := h3 pos cv hc
  refine ⟨c, e1, ?_⟩
  rw [upd_ne]
  · exact e2
  · intro z
    rw [z, h] at e2
    exact n2 _ (Option.some.inj e2)
theorem Wld.upd {p : Addr} {o : HO} (w : Wld T X σ H ρ δ S) (h : H p = none) : Wld T X σ (L2.upd H p o) ρ δ S := w.next (Le.upd h) (w.sto.upd h) (tabs_upd w.tabs h)
end

/-! ### readings -/
/-- an exception's own dict -/
def XRep (p : PR) (dd : Option Addr) (ns : List Str) (vs : List D) : Prop := (dd = none ∧ ns = [] ∧ vs = []) ∨ ∃ d fs, dd = some d ∧ p.H d = some (.xd fs) ∧ fs.map (·.1) = ns ∧ RDs p vs (fs.map (·.2))
def GoodX (T : List (Addr × Str)) (X : Cx) (W : WX) (σ : L2.St) (H : Hp) (ρ : Rh) (δ : En) (c : Str) (ns : List Str) (vs : List D) (S : Store) : Prop :=
  ∀ H' ρ' C dd, Le H ρ H' ρ' → Wld T X σ H' ρ' δ S → X.mg c = some (.ref C) → XRep (pr X σ H' ρ') dd ns vs → W (.ref C) dd σ H'
/-- what is asked of a result; W: the wish about exceptions -/
def Good (T : List (Addr × Str)) (X : Cx) (W : WX) (σ : L2.St) (H : Hp) (ρ : Rh) (δ : En) (Q : VK) : Res D → Prop
  | .ok d S => ∀ v H' ρ', Le H ρ H' ρ' → Wld T X σ H' ρ' δ S → RD (pr X σ H' ρ') d v → Q v H'
  | .exc c ns vs S => GoodX T X W σ H ρ δ c ns vs S
  | .bad => False
def GoodL (T : List (Addr × Str)) (X : Cx) (W : WX) (σ : L2.St) (H : Hp) (ρ : Rh) (δ : En) (Q : List V → Hp → Prop) : Res (List D) → Prop
  | .ok ds S => ∀ vs H' ρ', Le H ρ H' ρ' → Wld T X σ H' ρ' δ S → RDs (pr X σ H' ρ') ds vs → Q vs H'
  | .exc c ns vs S => GoodX T X W σ H ρ δ c ns vs S
  | .bad => False
def embE (T : List (Addr × Str)) (X : Cx) (W : WX) (f : En → Store → Res D) : TE := fun σ H Q => ∃ ρ δ S, Wld T X σ H ρ δ S ∧ Good T X W σ H ρ δ Q (f δ S)
def embA (T : List (Addr × Str)) (X : Cx) (W : WX) (f : En → Store → Res (List D)) : TA := fun σ H Q => ∃ ρ δ S, Wld T X σ H ρ δ S ∧ GoodL T X W σ H ρ δ Q (f δ S)
/-- an expression does what f says -/
abbrev DE (T : List (Addr × Str)) (X : Cx) (W : WX) (e : Expr) (f : En → Store → Res D) : Prop := PE X e (embE T X W f)
abbrev DA (T : List (Addr × Str)) (X : Cx) (W : WX) (es : List Expr) (f : En → Store → Res (List D)) : Prop := PA X es (embA T X W f)
section
variable {T : List (Addr × Str)} {X : Cx} {W : WX} {σ : L2.St} {H H1 : Hp} {ρ ρ' : Rh} {δ : En} {S S1 : Store} {Q : VK} {e e2 : Expr} {f g : En → Store → Res D}
theorem PE_weak {t t' : TE} (h : PE X e t) (w : ∀ σ H Q, t' σ H Q → t σ H Q) : PE X e t' := ⟨fun pins s σ H Q I hq => h.run pins s σ H Q I (w σ H Q hq)⟩
theorem PA_weak {es : List Expr} {t t' : TA} (h : PA X es t) (w : ∀ σ H Q, t' σ H Q → t σ H Q) : PA X es t' := ⟨fun pos pins s σ H Q I hq => h.run pos pins s σ H Q I (w σ H Q hq)⟩
theorem GoodX.le {c : Str} {ns : List Str} {vs : List D} (h : GoodX T X W σ H ρ δ c ns vs S) (l : Le H ρ H1 ρ1) : GoodX T X W σ H1 ρ1 δ c ns vs S := fun H' ρ' C dd l' => h H' ρ' C dd (l.trans l')
theorem Good.le {r : Res D} (h : Good T X W σ H ρ δ Q r) (l : Le H ρ H1 ρ1) : Good T X W σ H1 ρ1 δ Q r := by
  cases r with
  | ok d S => exact fun v H' ρ' l' => h v H' ρ' (l.trans l')
  | exc _ _ _ _ => exact GoodX.le h l
  | bad => exact h
theorem GoodL.le {Q : List V → Hp → Prop} {r : Res (List D)} (h : GoodL T X W σ H ρ δ Q r) (l : Le H ρ H1 ρ1) : GoodL T X W σ H1 ρ1 δ Q r := by
  cases r with
  | ok d S => exact fun v H' ρ' l' => h v H' ρ' (l.trans l')
  | exc _ _ _ _ => exact GoodX.le h l
  | bad => exact h
/-- one after the other -/
theorem emb_bind {R : VK} {r : D → Store → Res D} {x : Res D} (h : Good T X W σ H ρ δ Q (x.bind r))
    (k : ∀ v H1 ρ1 d S1, Le H ρ H1 ρ1 → Wld T X σ H1 ρ1 δ S1 → RD (pr X σ H1 ρ1) d v → Good T X W σ H1 ρ1 δ Q (r d S1) → R v H1) : Good T X W σ H ρ δ R x := by
  cases x with
  | ok d S1 => exact fun v H1 ρ1 l w1 rd => k v H1 ρ1 d S1 l w1 rd (Good.le h l)
  | exc _ _ _ _ => exact h
  | bad => exact h
theorem emb_bindL {R : VK} {Q : List V → Hp → Prop} {r : D → Store → Res (List D)} {x : Res D} (h : GoodL T X W σ H ρ δ Q (x.bind r))
    (k : ∀ v H1 ρ1 d S1, Le H ρ H1 ρ1 → Wld T X σ H1 ρ1 δ S1 → RD (pr X σ H1 ρ1) d v → GoodL T X W σ H1 ρ1 δ Q (r d S1) → R v H1) : Good T X W σ H ρ δ R x := by
  cases x with
  | ok d S1 => exact fun v H1 ρ1 l w1 rd => k v H1 ρ1 d S1 l w1 rd (GoodL.le h l)
  | exc _ _ _ _ => exact h
  | bad => exact h
theorem embA_bind {R : List V → Hp → Prop} {r : List D → Store → Res D} {x : Res (List D)} (h : Good T X W σ H ρ δ Q (x.bind r))
    (k : ∀ vs H1 ρ1 ds S1, Le H ρ H1 ρ1 → Wld T X σ H1 ρ1 δ S1 → RDs (pr X σ H1 ρ1) ds vs → Good T X W σ H1 ρ1 δ Q (r ds S1) → R vs H1) : GoodL T X W σ H ρ δ R x := by
  cases x with
  | ok d S1 => exact fun v H1 ρ1 l w1 rd => k v H1 ρ1 d S1 l w1 rd (Good.le h l)
  | exc _ _ _ _ => exact h
  | bad => exact h
theorem embA_bindL {Q R : List V → Hp → Prop} {r : List D → Store → Res (List D)} {x : Res (List D)} (h : GoodL T X W σ H ρ δ Q (x.bind r))
    (k : ∀ vs H1 ρ1 ds S1, Le H ρ H1 ρ1 → Wld T X σ H1 ρ1 δ S1 → RDs (pr X σ H1 ρ1) ds vs → GoodL T X W σ H1 ρ1 δ Q (r ds S1) → R vs H1) : GoodL T X W σ H ρ δ R x := by
  cases x with
  | ok d S1 => exact fun v H1 ρ1 l w1 rd => k v H1 ρ1 d S1 l w1 rd (GoodL.le h l)
  | exc _ _ _ _ => exact h
  | bad => exact h
end
end MM
end
section
set_option Elab.async false
set_option linter.all false
set_option maxRecDepth 100000
set_option maxHeartbeats 4000000
/-! Expressions: operators, comparisons, displays, subscripts. -/
namespace MM
open PySem PySem.Spec PyProof.Rows L2
variable [Lams]
theorem line_eq : line = sizeLine := sizeLine_eq.symm
section
variable {T : List (Addr × Str)} {X : Cx} {W : WX} {σ : L2.St} {H : Hp} {ρ : Rh} {δ : En} {S : Store} {Q : VK}
theorem fin {d : D} {v : V} (h : Good T X W σ H ρ δ Q (.ok d S)) (w : Wld T X σ H ρ δ S) (r : RD (pr X σ H ρ) d v) : Q v H := h v H ρ Le.rfl' w r
theorem fin_new {d : D} {v : V} {p : Addr} {o : HO} (h : Good T X W σ H ρ δ Q (.ok d S)) (w : Wld T X σ H ρ δ S) (hp : H p = none) (r : RD (pr X σ (L2.upd H p o) ρ) d v) : Q v (L2.upd H p o) :=
  h v _ ρ (Le.upd hp) (w.upd hp) r
theorem ple_upd {p : Addr} {o : HO} (w : Wld T X σ H ρ δ S) (hp : H p = none) : PLe (pr X σ H ρ) (pr X σ (L2.upd H p o) ρ) := w.ple (Le.upd hp)
theorem RD.int {p : PR} {i : Int} {v : V} (h : RD p (.int i) v) : v = .int i := h
theorem RD.str {p : PR} {i : Str} {v : V} (h : RD p (.str i) v) : v = .str i := h
theorem RD.bl {p : PR} {i : Bool} {v : V} (h : RD p (.bl i) v) : v = .bl i := h

theorem StoreOk.out {K : PySem.W.Frag} {mg : Str → Option Value} {p : Addr} (s : StoreOk K mg H ρ S) (h : H p = none) : p ∉ ρ := s.fresh h
theorem asL_ok (w : Wld T X σ H ρ δ S) {d : D} {v : V} {l : List D} (r : RD (pr X σ H ρ) d v) (e : asL S d = some l) :
    ∃ a xs, v = .ref a ∧ H a = some (.lst xs) ∧ RDs (pr X σ H ρ) l xs := by
  unfold asL at e
  split at e
  · cases e
    obtain ⟨a, xs, e1, e2, _, e4⟩ := r
    exact ⟨a, xs, e1, e2, e4⟩
  · rename_i k
    split at e
    · rename_i l' hl
      cases e
      obtain ⟨a, e1, e2⟩ := r
      obtain ⟨xs, h1, h2⟩ := w.sto.ob k a _ e2 hl
      exact ⟨a, xs, e1, h1, h2.le (w.sto.ple Le.rfl' fun _ _ z => z.elim)⟩
    · cases e
  · cases e

/-! ### operators -/
theorem emb2 {r : R2} {op : Store → D → D → Res D} {fa fb : En → Store → Res D}
    (k : ∀ (σ : L2.St) (H : Hp) (ρ : Rh) (δ : En) (S : Store) (Q : VK) (a b : D) (x y : V), Wld T X σ H ρ δ S → RD (pr X σ H ρ) a x → RD (pr X σ H ρ) b y → Good T X W σ H ρ δ Q (op S a b) → r x y H Q) :
    ∀ σ H Q, embE T X W (fun δ S => (fa δ S).bind fun x S => (fb δ S).bind fun y S => op S x y) σ H Q → tOp r (embE T X W fa) (embE T X W fb) σ H Q := by
  rintro σ H Q ⟨ρ, δ, S, w, h⟩
  exact ⟨ρ, δ, S, w, emb_bind h fun v H1 ρ1 d S1 l1 w1 r1 h1 => ⟨ρ1, δ, S1, w1, emb_bind h1 fun v2 H2 ρ2 d2 S2 l2 w2 r2 h2 => k σ H2 ρ2 δ S2 Q d d2 v v2 w2 (r1.le (w1.ple l2)) r2 h2⟩⟩
abbrev rAddStr : R2 := fun x y H Q => ∃ i j, x = .str i ∧ y = .str j ∧ i.length + j.length ≤ sizeLine ∧ Q (.str (i ++ j)) H
theorem add_ok {a b : D} {x y : V} (w : Wld T X σ H ρ δ S) (ra : RD (pr X σ H ρ) a x) (rb : RD (pr X σ H ρ) b y) (h : Good T X W σ H ρ δ Q (opAdd S a b)) :
    rI0 (fun i j => .int (i + j)) x y H Q ∨ rAddStr x y H Q ∨ rCatA X.K x y H Q ∨ rCat x y H Q := by
  unfold opAdd at h
  split at h
  · exact .inl ⟨_, _, ra.int, rb.int, fin h w rfl⟩
  · split at h
    · rename_i hl
      exact .inr (.inl ⟨_, _, ra.str, rb.str, by rw [← line_eq]; exact hl, fin h w rfl⟩)
    · exact h.elim
  · split at h
    · rename_i l1 l2 hl
      obtain ⟨p, xs, e1, s1, r1⟩ := ra
      obtain ⟨q, ys, e2, s2, r2⟩ := rb
      refine .inr (.inr (.inl ⟨p, q, xs, ys, e1, e2, s1, s2, by rw [← line_eq, ← r1.length, ← r2.length]; exact hl, fun z => ?_, fun z z2 => ?_, fun z z2 t ht => ?_⟩))
      · have e : l1 = [] := r1.nil_iff.mpr z
        subst e
        exact fin h w ⟨q, ys, rfl, s2, r2⟩
      · have e : l2 = [] := r2.nil_iff.mpr z2
        subst e
        rw [List.append_nil] at h
        exact fin h w ⟨p, xs, rfl, s1, r1⟩
      · have pl := ple_upd (o := .tup (xs ++ ys)) w ht
        exact fin_new h w ht ⟨t, xs ++ ys, rfl, SqT.of upd_same, (r1.le pl).append (r2.le pl)⟩
    · exact h.elim
  · split at h
    · rename_i l1 l2 e1 e2
      obtain ⟨p, xs, rfl, s1, r1⟩ := asL_ok w ra e1
      obtain ⟨q, ys, rfl, s2, r2⟩ := asL_ok w rb e2
      split at h
      · rename_i hl
        refine .inr (.inr (.inr ⟨p, q, xs, ys, rfl, rfl, s1, s2, by rw [← line_eq, ← r1.length, ← r2.length]; exact hl, fun t ht => ?_⟩))
        have pl := ple_upd (o := .lst (xs ++ ys)) w ht
        exact fin_new h w ht ⟨t, xs ++ ys, rfl, upd_same, w.sto.out ht, (r1.le pl).append (r2.le pl)⟩
      · exact h.elim
    · exact h.elim
theorem ok_false {α : Prop} {d : Res D} (e : d = .bad) (h : Good T X W σ H ρ δ Q d) : α := by
  rw [e] at h
  exact h.elim
abbrev rBin (K : PySem.W.Frag) : Operator → R2
  | .Add => fun x y H Q => rI0 (fun i j => .int (i + j)) x y H Q ∨ rAddStr x y H Q ∨ rCatA K x y H Q ∨ rCat x y H Q
  | .Sub => rI0 fun i j => .int (i - j)
  | .Mult => rI CMulW fun i j => .int (i * j)
  | .FloorDiv => rI CDivW fun i j => .int (i / j)
  | .Mod => rI (fun _ j => 0 < j) fun i j => .int (i % j)
  | .Pow => rI CPow fun i j => .int (i ^ j.toNat)
  | _ => fun _ _ _ _ => False
theorem op_bin (op : Operator) : OpR X (binaryOp op) (rBin X.K op) := by
  cases op with
  | Add => exact op_add.or (op_add_str.or (op_catA.or op_cat))
  | Sub => exact op_sub
  | Mult => exact op_mulW
  | FloorDiv => exact op_fdivW
  | Mod => exact op_mod
  | Pow => exact op_pow
  | _ => exact fun _ _ _ _ _ _ _ _ _ _ _ _ h => False.elim h
theorem bin_ok (op : Operator) {a b : D} {x y : V} (w : Wld T X σ H ρ δ S) (ra : RD (pr X σ H ρ) a x) (rb : RD (pr X σ H ρ) b y) (h : Good T X W σ H ρ δ Q (opBin op S a b)) : rBin X.K op x y H Q := by
  unfold opBin at h
  cases op with
  | Add => exact add_ok w ra rb h
  | Sub =>
    dsimp only at h
    split at h
    · exact ⟨_, _, ra.int, rb.int, fin h w rfl⟩
    · exact h.elim
  | Mult =>
    dsimp only at h
    split at h
    · split at h
      · rename_i i j hm
        unfold mulOk at hm
        have := of_decide_eq_true hm
        exact ⟨_, _, ra.int, rb.int, by unfold CMulW; omega, fin h w rfl⟩
      · exact h.elim
    · exact h.elim
  | FloorDiv =>
    dsimp only at h
    split at h
    · split at h
      · rename_i i j hm
        unfold divOk at hm
        rw [Bool.and_eq_true] at hm
        exact ⟨_, _, ra.int, rb.int, ⟨of_decide_eq_true hm.1, of_decide_eq_true hm.2⟩, fin h w rfl⟩
      · exact h.elim
    · exact h.elim
  | Mod =>
    dsimp only at h
    split at h
    · split at h
      · rename_i i j hm
        exact ⟨_, _, ra.int, rb.int, hm, fin h w rfl⟩
      · exact h.elim
    · exact h.elim
  | Pow =>
    dsimp only at h
    split at h
    · split at h
      · rename_i i j hm
        exact ⟨_, _, ra.int, rb.int, hm, fin h w rfl⟩
      · exact h.elim
    · exact h.elim
  | _ => exact h.elim
theorem de_bin {e1 e2 : Expr} {op : Operator} {pos : Pos} {fa fb : En → Store → Res D} (ha : DE T X W e1 fa) (hb : DE T X W e2 fb) :
    DE T X W (.BinOp e1 op e2 pos) (fun δ S => (fa δ S).bind fun x S => (fb δ S).bind fun y S => opBin op S x y) :=
  PE_weak (pe_op (op_bin op) ha hb) (emb2 fun σ H ρ δ S Q a b x y w ra rb h => bin_ok op w ra rb h)

/-! ### data, comparisons -/
mutual
theorem dp_of {p : PR} : ∀ (d : D) (v : V) (q : PyData), RD p d v → d.py = some q → Dp p.K p.H v q
  | .non, v, q, r, e => by
    have e1 : v = .non := r
    unfold D.py at e
    cases e
    rw [e1]
    exact .non
  | .bl b, v, q, r, e => by
    have e1 : v = .bl b := r
    unfold D.py at e
    cases e
    rw [e1]
    exact .bl b
  | .int i, v, q, r, e => by
    have e1 : v = .int i := r
    unfold D.py at e
    cases e
    rw [e1]
    exact .int i
  | .str z, v, q, r, e => by
    have e1 : v = .str z := r
    unfold D.py at e
    cases e
    rw [e1]
    exact .str z
  | .tup l, v, q, r, e => by
    obtain ⟨a, xs, e1, s1, r1⟩ := r
    unfold D.py at e
    obtain ⟨ds, e2, e3⟩ := Option.map_eq_some_iff.mp e
    rw [e1, ← e3]
    exact .tup s1 (dps_of l xs ds r1 e2)
  | .lst l, v, q, r, e => by
    obtain ⟨a, xs, e1, s1, _, r1⟩ := r
    unfold D.py at e
    obtain ⟨ds, e2, e3⟩ := Option.map_eq_some_iff.mp e
    rw [e1, ← e3]
    exact .lst (SqL.of s1) (dps_of l xs ds r1 e2)
  | .dic _ _, _, _, _, e => by unfold D.py at e; cases e
  | .dct _ _, _, _, _, e => by unfold D.py at e; cases e
  | .obj _ _ _, _, _, _, e => by unfold D.py at e; cases e
  | .ref _, _, _, _, e => by unfold D.py at e; cases e
  | .scr _, _, _, _, e => by unfold D.py at e; cases e
  | .glo _, _, _, _, e => by unfold D.py at e; cases e
  | .ty _, _, _, _, e => by unfold D.py at e; cases e
  | .clo .., _, _, _, e => by unfold D.py at e; cases e
theorem dps_of {p : PR} : ∀ (ds : List D) (vs : List V) (qs : List PyData), RDs p ds vs → D.pyL ds = some qs → DpAll p.K p.H vs qs
  | [], vs, qs, r, e => by
    have e1 : vs = [] := r
    unfold D.pyL at e
    cases e
    rw [e1]
    exact .nil
  | d :: t, vs, qs, r, e => by
    obtain ⟨y, ys, e1, h1, h2⟩ := r
    unfold D.pyL at e
    split at e
    · rename_i q0 e2
      obtain ⟨qs', e3, e4⟩ := Option.map_eq_some_iff.mp e
      rw [e1, ← e4]
      exact .cons (dp_of d y q0 h1 e2) (dps_of t ys qs' h2 e3)
    · cases e
end
theorem data_ok (w : Wld T X σ H ρ δ S) {d : D} {v : V} {q : PyData} (r : RD (pr X σ H ρ) d v) (e : data S d = some q) : Dp X.K H v q := by
  unfold data at e
  split at e
  · rename_i k
    split at e
    · rename_i l hl
      obtain ⟨a, e1, e2⟩ := r
      obtain ⟨xs, h1, h2⟩ := w.sto.ob k a _ e2 hl
      unfold D.py at e
      obtain ⟨ds, e3, e4⟩ := Option.map_eq_some_iff.mp e
      rw [e1, ← e4]
      exact .lst (SqL.of h1) (dps_of (p := pr0 X.K X.mg H ρ) l xs ds h2 e3)
    · cases e
  · exact dp_of (p := pr X σ H ρ) d v q r e
def rInT (K : PySem.W.Frag) : R2 := fun x y H Q => ∃ d ds, Dp K H x d ∧ Dp K H y (.tuple ds) ∧ SeqAt.shaped d = true ∧ SeqAt.shaped (.tuple ds) = true ∧ Q (.bl (ds.any fun z => PyData.eqv z d)) H
def rNotInT (K : PySem.W.Frag) : R2 := fun x y H Q => ∃ d ds, Dp K H x d ∧ Dp K H y (.tuple ds) ∧ SeqAt.shaped d = true ∧ SeqAt.shaped (.tuple ds) = true ∧ Q (.bl (!ds.any fun z => PyData.eqv z d)) H
theorem op_inT (hu : X.A.units + 65 < cLine) : OpR X (compareOp .In) (rInT X.K) := by
  intro pins s σ H x y v u Q I rx ry h
  obtain ⟨d, ds, hd, he, sd, se, q⟩ := h
  obtain ⟨as, r1⟩ := Dp.reads I d x v hd rx
  obtain ⟨bs, r2⟩ := Dp.reads I (.tuple ds) y u he ry
  exact SeqAt.in_tuple_reads r2 r1 (SeqAt.canLay_of_shaped se) (SeqAt.canLay_of_shaped sd) (room_in_shaped sd hu) ⟨.bl _, H, I, rfl, q⟩
theorem op_notInT (hu : X.A.units + 65 < cLine) : OpR X (compareOp .NotIn) (rNotInT X.K) := by
  intro pins s σ H x y v u Q I rx ry h
  obtain ⟨d, ds, hd, he, sd, se, q⟩ := h
  obtain ⟨as, r1⟩ := Dp.reads I d x v hd rx
  obtain ⟨bs, r2⟩ := Dp.reads I (.tuple ds) y u he ry
  exact SeqAt.notIn_tuple_reads r2 r1 (SeqAt.canLay_of_shaped se) (SeqAt.canLay_of_shaped sd) (room_in_shaped sd hu) ⟨.bl _, H, I, rfl, q⟩
abbrev rInStr : R2 := fun x y H Q => ∃ i j, x = .str i ∧ y = .str j ∧ Q (.bl (!(Builtin.Str.occurrences j i 0 j.length 1).isEmpty)) H
abbrev rNotInStr : R2 := fun x y H Q => ∃ i j, x = .str i ∧ y = .str j ∧ Q (.bl (!(!(Builtin.Str.occurrences j i 0 j.length 1).isEmpty))) H
abbrev rLtStr : R2 := fun x y H Q => ∃ i j, x = .str i ∧ y = .str j ∧ Q (.bl (decide (i.cps.toList < j.cps.toList))) H
abbrev rLeStr : R2 := fun x y H Q => ∃ i j, x = .str i ∧ y = .str j ∧ Q (.bl (!decide (j.cps.toList < i.cps.toList))) H
abbrev rGtStr : R2 := fun x y H Q => ∃ i j, x = .str i ∧ y = .str j ∧ Q (.bl (decide (j.cps.toList < i.cps.toList))) H
abbrev rGeStr : R2 := fun x y H Q => ∃ i j, x = .str i ∧ y = .str j ∧ Q (.bl (!decide (i.cps.toList < j.cps.toList))) H
abbrev rIsN : R2 := fun x y H Q => y = .non ∧ Q (.bl (decide (x = .non))) H
abbrev rNotN : R2 := fun x y H Q => y = .non ∧ Q (.bl (!decide (x = .non))) H
def rLtAny (K : PySem.W.Frag) : R2 := fun x y H Q => ∃ d q, Dp K H x d ∧ Dp K H y q ∧ PySem.W.alike d q = true ∧ d ≠ .none ∧ d.depth < 60 ∧ Q (.bl (PySem.W.dataLt d q)) H
theorem op_ltAny (hu : X.A.units + 65 < cLine) : OpR X (compareOp .Lt) (rLtAny X.K) := by
  intro pins s σ H x y v u Q I rx ry h
  obtain ⟨d, q, hd, he, ha, hn, hz, hq⟩ := h
  obtain ⟨as, r1⟩ := Dp.reads I d x v hd rx
  obtain ⟨bs, r2⟩ := Dp.reads I q y u he ry
  have z := PySem.W.rcLt_alike d q X.A s v u as bs r1 r2 ha hn (by have := Nat.min_le_left d.depth q.depth; omega)
  show wpAny _ X.A (richCompare .Lt v u) _ _ s
  exact z X.prog X.w _ _ ⟨.bl _, H, I, rfl, hq⟩
abbrev rCmp (K : PySem.W.Frag) : CmpOp → R2
  | .Eq => rEqD K
  | .NotEq => rNeD K
  | .Lt => fun x y H Q => rI0 (fun i j => .bl (decide (i < j))) x y H Q ∨ rLtStr x y H Q ∨ rLtAny K x y H Q
  | .LtE => fun x y H Q => rI0 (fun i j => .bl (decide (i ≤ j))) x y H Q ∨ rLeStr x y H Q
  | .Gt => fun x y H Q => rI0 (fun i j => .bl (decide (j < i))) x y H Q ∨ rGtStr x y H Q
  | .GtE => fun x y H Q => rI0 (fun i j => .bl (decide (j ≤ i))) x y H Q ∨ rGeStr x y H Q
  | .In => fun x y H Q => rInStr x y H Q ∨ rInD K x y H Q ∨ rInT K x y H Q
  | .NotIn => fun x y H Q => rNotInStr x y H Q ∨ rNotInD K x y H Q ∨ rNotInT K x y H Q
  | .Is => rIsN
  | .IsNot => rNotN
theorem op_cmp (hu : X.A.units + 65 < cLine) (op : CmpOp) : OpR X (compareOp op) (rCmp X.K op) := by
  cases op with
  | Eq => exact op_eqD (by omega)
  | NotEq => exact op_neD (by omega)
  | Lt => exact op_lt.or (op_lt_str.or (op_ltAny hu))
  | LtE => exact op_le.or op_le_str
  | Gt => exact op_gt.or op_gt_str
  | GtE => exact op_ge.or op_ge_str
  | In => exact op_in_str.or ((op_inD hu).or (op_inT hu))
  | NotIn => exact op_notin_str.or ((op_notInD hu).or (op_notInT hu))
  | Is => exact op_isN
  | IsNot => exact op_notN
theorem eqD_ok {a b : D} {x y : V} {r : Bool} (w : Wld T X σ H ρ δ S) (ra : RD (pr X σ H ρ) a x) (rb : RD (pr X σ H ρ) b y) (e : eqD S a b = some r) :
    ∃ d q, Dp X.K H x d ∧ Dp X.K H y q ∧ SeqAt.shaped d = true ∧ SeqAt.shaped q = true ∧ PyData.eqv d q = r := by
  unfold eqD at e
  split at e
  · rename_i p q e1 e2
    split at e
    · rename_i hs
      rw [Bool.and_eq_true] at hs
      exact ⟨p, q, data_ok w ra e1, data_ok w rb e2, hs.1, hs.2, Option.some.inj e⟩
    · cases e
  · cases e
theorem ltD_ok {a b : D} {x y : V} {r : Bool} (ra : RD (pr X σ H ρ) a x) (rb : RD (pr X σ H ρ) b y) (e : ltD a b = some r) :
    (∃ i j, x = .int i ∧ y = .int j ∧ decide (i < j) = r) ∨ ∃ i j : Str, x = .str i ∧ y = .str j ∧ decide (i.cps.toList < j.cps.toList) = r := by
  unfold ltD at e
  split at e
  · exact .inl ⟨_, _, ra.int, rb.int, Option.some.inj e⟩
  · exact .inr ⟨_, _, ra.str, rb.str, Option.some.inj e⟩
  · cases e
theorem inD_ok {a b : D} {x y : V} {r : Bool} (w : Wld T X σ H ρ δ S) (ra : RD (pr X σ H ρ) a x) (rb : RD (pr X σ H ρ) b y) (e : inD S a b = some r) :
    (∃ i j, x = .str i ∧ y = .str j ∧ isIn i j = r) ∨ (∃ d ds, Dp X.K H x d ∧ Dp X.K H y (.list ds) ∧ SeqAt.shaped d = true ∧ SeqAt.shaped (.list ds) = true ∧ (ds.any fun z => PyData.eqv z d) = r) ∨
      ∃ d ds, Dp X.K H x d ∧ Dp X.K H y (.tuple ds) ∧ SeqAt.shaped d = true ∧ SeqAt.shaped (.tuple ds) = true ∧ (ds.any fun z => PyData.eqv z d) = r := by
  unfold inD at e
  split at e
  · exact .inl ⟨_, _, ra.str, rb.str, Option.some.inj e⟩
  · split at e
    · rename_i e1 e2
      split at e
      · rename_i hs
        rw [Bool.and_eq_true] at hs
        exact .inr (.inl ⟨_, _, data_ok w ra e1, data_ok w rb e2, hs.1, hs.2, Option.some.inj e⟩)
      · cases e
    · rename_i e1 e2
      split at e
      · rename_i hs
        rw [Bool.and_eq_true] at hs
        exact .inr (.inr ⟨_, _, data_ok w ra e1, data_ok w rb e2, hs.1, hs.2, Option.some.inj e⟩)
      · cases e
    · cases e
theorem non_iff {p : PR} {d : D} {v : V} (r : RD p d v) : decide (v = .non) = d.isNon := by
  cases d with
  | non => rw [show v = .non from r]; rfl
  | bl b => rw [show v = .bl b from r]; rfl
  | int b => rw [show v = .int b from r]; rfl
  | str b => rw [show v = .str b from r]; rfl
  | ty b => rw [show v = .ty b from r]; rfl
  | tup l => obtain ⟨a, xs, e, _⟩ := r; rw [e]; rfl
  | lst l => obtain ⟨a, xs, e, _⟩ := r; rw [e]; rfl
  | dic l _ => obtain ⟨a, _, e, _⟩ := r; rw [e]; rfl
  | dct l _ => obtain ⟨a, _, e, _⟩ := r; rw [e]; rfl
  | obj _ _ _ => obtain ⟨a, _, _, _, e, _⟩ := r; rw [e]; rfl
  | ref _ => obtain ⟨a, e, _⟩ := r; rw [e]; rfl
  | scr _ => obtain ⟨a, e, _⟩ := r; rw [e]; rfl
  | glo _ => obtain ⟨a, e, _⟩ := r; rw [e]; rfl
  | clo => obtain ⟨_, a, _, _, _, _, _, _, e, _⟩ := r; rw [e]; rfl
theorem not_lt_le (i j : Int) : (!decide (j < i)) = decide (i ≤ j) := by
  by_cases h : i ≤ j
  · rw [decide_eq_true h, decide_eq_false (by omega)]; rfl
  · rw [decide_eq_false h, decide_eq_true (by omega)]; rfl
theorem cmp_ok (op : CmpOp) {a b : D} {x y : V} (w : Wld T X σ H ρ δ S) (ra : RD (pr X σ H ρ) a x) (rb : RD (pr X σ H ρ) b y) (h : Good T X W σ H ρ δ Q (opCmp op S a b)) : rCmp X.K op x y H Q := by
  unfold opCmp at h
  cases op with
  | Eq =>
    dsimp only at h
    split at h
    · rename_i r e
      obtain ⟨d, q, h1, h2, h3, h4, h5⟩ := eqD_ok w ra rb e
      exact ⟨d, q, h1, h2, h3, h4, by rw [h5]; exact fin h w rfl⟩
    · exact h.elim
  | NotEq =>
    dsimp only at h
    split at h
    · rename_i r e
      obtain ⟨d, q, h1, h2, h3, h4, h5⟩ := eqD_ok w ra rb e
      exact ⟨d, q, h1, h2, h3, h4, by rw [h5]; exact fin h w rfl⟩
    · exact h.elim
  | Lt =>
    dsimp only at h
    split at h
    · rename_i r e
      rcases ltD_ok ra rb e with ⟨i, j, h1, h2, h3⟩ | ⟨i, j, h1, h2, h3⟩
      · exact .inl ⟨i, j, h1, h2, by show Q (V.bl _) H; rw [h3]; exact fin h w rfl⟩
      · exact .inr (.inl ⟨i, j, h1, h2, by rw [h3]; exact fin h w rfl⟩)
    · split at h
      · rename_i r e
        refine .inr (.inr ?_)
        unfold ltT at e
        split at e
        · split at e
          · rename_i p q e1 e2
            split at e
            · rename_i hs
              rw [Bool.and_eq_true, decide_eq_true_eq] at hs
              refine ⟨p, q, data_ok w ra e1, data_ok w rb e2, hs.1, fun z => ?_, hs.2, by rw [Option.some.inj e]; exact fin h w rfl⟩
              rw [z] at e1
              have e1 : (D.pyL _).map PyData.tuple = some .none := e1
              obtain ⟨_, _, z⟩ := Option.map_eq_some_iff.mp e1
              cases z
            · cases e
          · cases e
        · cases e
      · exact h.elim
  | Gt =>
    dsimp only at h
    split at h
    · rename_i r e
      rcases ltD_ok rb ra e with ⟨i, j, h1, h2, h3⟩ | ⟨i, j, h1, h2, h3⟩
      · exact .inl ⟨j, i, h2, h1, by show Q (V.bl _) H; rw [h3]; exact fin h w rfl⟩
      · exact .inr ⟨j, i, h2, h1, by rw [h3]; exact fin h w rfl⟩
    · exact h.elim
  | LtE =>
    dsimp only at h
    split at h
    · rename_i r e
      rcases ltD_ok rb ra e with ⟨i, j, h1, h2, h3⟩ | ⟨i, j, h1, h2, h3⟩
      · exact .inl ⟨j, i, h2, h1, by show Q (V.bl _) H; rw [← not_lt_le, h3]; exact fin h w rfl⟩
      · exact .inr ⟨j, i, h2, h1, by rw [h3]; exact fin h w rfl⟩
    · exact h.elim
  | GtE =>
    dsimp only at h
    split at h
    · rename_i r e
      rcases ltD_ok ra rb e with ⟨i, j, h1, h2, h3⟩ | ⟨i, j, h1, h2, h3⟩
      · exact .inl ⟨i, j, h1, h2, by show Q (V.bl _) H; rw [← not_lt_le, h3]; exact fin h w rfl⟩
      · exact .inr ⟨i, j, h1, h2, by rw [h3]; exact fin h w rfl⟩
    · exact h.elim
  | In =>
    dsimp only at h
    split at h
    · rename_i r e
      rcases inD_ok w ra rb e with ⟨i, j, h1, h2, h3⟩ | ⟨d, ds, h1, h2, h3, h4, h5⟩ | ⟨d, ds, h1, h2, h3, h4, h5⟩
      · exact .inl ⟨i, j, h1, h2, by unfold isIn at h3; rw [h3]; exact fin h w rfl⟩
      · exact .inr (.inl ⟨d, ds, h1, h2, h3, h4, by rw [h5]; exact fin h w rfl⟩)
      · exact .inr (.inr ⟨d, ds, h1, h2, h3, h4, by rw [h5]; exact fin h w rfl⟩)
    · exact h.elim
  | NotIn =>
    dsimp only at h
    split at h
    · rename_i r e
      rcases inD_ok w ra rb e with ⟨i, j, h1, h2, h3⟩ | ⟨d, ds, h1, h2, h3, h4, h5⟩ | ⟨d, ds, h1, h2, h3, h4, h5⟩
      · exact .inl ⟨i, j, h1, h2, by unfold isIn at h3; rw [h3]; exact fin h w rfl⟩
      · exact .inr (.inl ⟨d, ds, h1, h2, h3, h4, by rw [h5]; exact fin h w rfl⟩)
      · exact .inr (.inr ⟨d, ds, h1, h2, h3, h4, by rw [h5]; exact fin h w rfl⟩)
    · exact h.elim
  | Is =>
    dsimp only at h
    split at h
    · exact ⟨rb, by rw [non_iff ra]; exact fin h w rfl⟩
    · exact h.elim
  | IsNot =>
    dsimp only at h
    split at h
    · exact ⟨rb, by rw [non_iff ra]; exact fin h w rfl⟩
    · exact h.elim
theorem de_cmp {e1 e2 : Expr} {op : CmpOp} {pos : Pos} {fa fb : En → Store → Res D} (hu : X.A.units + 65 < cLine) (hm : behindInMarks op e2 = false) (ha : DE T X W e1 fa) (hb : DE T X W e2 fb) :
    DE T X W (.Compare e1 [op] [e2] pos) (fun δ S => (fa δ S).bind fun x S => (fb δ S).bind fun y S => opCmp op S x y) :=
  PE_weak (pe_cmpR (op_cmp hu op) ha hb hm) (emb2 fun σ H ρ δ S Q a b x y w ra rb h => cmp_ok op w ra rb h)
/-- a chain of two -/
theorem de_chn {e1 e2 e3 : Expr} {op op' : CmpOp} {pos : Pos} {fa fb fc : En → Store → Res D} (hu : X.A.units + 65 < cLine) (hm : lastMarks [op, op'] [e2, e3] = false) (ha : DE T X W e1 fa) (hb : DE T X W e2 fb) (hc : DE T X W e3 fc) :
    DE T X W (.Compare e1 [op, op'] [e2, e3] pos) (fun δ S => (fa δ S).bind fun x S => (fb δ S).bind fun y S => (opCmp op S x y).bind fun r S => match r with
      | .bl true => (fc δ S).bind fun z S => opCmp op' S y z
      | .bl false => .ok (.bl false) S
      | _ => .bad) := by
  refine PE_weak (pe_chain (op_cmp hu op) (op_cmp hu op') ha hb hc hm) ?_
  rintro σ H Q ⟨ρ, δ, S, w, h⟩
  refine ⟨ρ, δ, S, w, emb_bind h fun v H1 ρ1 d S1 l1 w1 r1 h1 => ⟨ρ1, δ, S1, w1, emb_bind h1 fun v2 H2 ρ2 d2 S2 l2 w2 r2 h2 => ?_⟩⟩
  refine cmp_ok op w2 (r1.le (w1.ple l2)) r2 (emb_bind h2 fun v3 H3 ρ3 d3 S3 l3 w3 r3 h3 => ?_)
  cases d3 with
  | bl k =>
    refine ⟨k, r3, ?_⟩
    cases k with
    | true =>
      rw [if_pos rfl]
      exact ⟨ρ3, δ, S3, w3, emb_bind h3 fun v4 H4 ρ4 d4 S4 l4 w4 r4 h4 => cmp_ok op' w4 ((r2.le (w2.ple l3)).le (w3.ple l4)) r4 h4⟩
    | false =>
      rw [if_neg Bool.false_ne_true]
      exact fin h3 w3 rfl
  | _ => exact h3.elim
end
end MM
end
section
set_option Elab.async false
set_option linter.all false
set_option maxRecDepth 100000
set_option maxHeartbeats 4000000
/-! Expressions: names, logic, displays, subscripts. -/
namespace MM
open PySem PySem.Spec PyProof.Rows L2
variable [Lams]
/-- a test -/
def embT (T : List (Addr × Str)) (X : Cx) (W : WX) (f : En → Store → Res D) : TT := fun σ H Q => embE T X W f σ H fun v H' => ∃ b, v = .bl b ∧ Q b H'
abbrev DT (T : List (Addr × Str)) (X : Cx) (W : WX) (e : Expr) (f : En → Store → Res D) : Prop := PT X e (embT T X W f)
abbrev DW (T : List (Addr × Str)) (X : Cx) (W : WX) (e : Expr) (f : En → Store → Res D) : Prop := PW X e (embT T X W f)
section
variable {T : List (Addr × Str)} {X : Cx} {W : WX} {σ : L2.St} {H : Hp} {ρ : Rh} {δ : En} {S : Store} {Q : VK} {g : GE}
theorem PT_weak {e : Expr} {t t' : TT} (h : PT X e t) (w : ∀ σ H Q, t' σ H Q → t σ H Q) : PT X e t' := ⟨fun pins s σ H Q I hq => h.run pins s σ H Q I (w σ H Q hq)⟩
theorem PW_weak {e : Expr} {t t' : TT} (h : PW X e t) (w : ∀ σ H Q, t' σ H Q → t σ H Q) : PW X e t' := ⟨fun wh pins s σ H Q I hq => h.run wh pins s σ H Q I (w σ H Q hq)⟩
theorem Good.mono {R : VK} {r : Res D} (h : Good T X W σ H ρ δ Q r) (k : ∀ v H', Q v H' → R v H') : Good T X W σ H ρ δ R r := by
  cases r with
  | ok d S => exact fun v H' ρ' l w r => k v H' (h v H' ρ' l w r)
  | exc _ _ _ _ => exact h
  | bad => exact h

theorem itT {A B : Prop} (h : A) : if (true : Bool) = true then A else B := by rw [if_pos rfl]; exact h
theorem itF {A B : Prop} (h : B) : if (false : Bool) = true then A else B := by rw [if_neg Bool.false_ne_true]; exact h

/-! ### names, constants -/
theorem de_var {i : Nat} {x : Str} {pos : Pos} (hN : X.N[i]? = some x) (hv : Vis X.env.scope x) (hd : (x == ("__debug__" : Str)) = false) (hcd : (x == ("__classdict__" : Str)) = false) : DE T X W (.Name x pos) (ev g (.var i)) := by
  refine PE_weak (pe_var hN hv hd hcd) ?_
  rintro σ H Q ⟨ρ, δ, S, w, h⟩
  unfold ev at h
  split at h
  · rename_i d e
    obtain ⟨v, h1, h2⟩ := w.slot i d e
    exact ⟨v, h1, fin h w h2⟩
  · exact h.elim
theorem de_const {e : Expr} {v : V} {d : D} (he : PE X e (tC v)) (r : ∀ p, RD p d v) : DE T X W e (fun _ S => .ok d S) := by
  refine PE_weak he ?_
  rintro σ H Q ⟨ρ, δ, S, w, h⟩
  exact fin h w (r _)
theorem de_int {i : Int} {j : Nat} {pos : Pos} : DE T X W (.Constant (.int i) j pos) (ev g (.cint i)) := de_const pe_int fun _ => rfl
theorem de_bl {b : Bool} {j : Nat} {pos : Pos} : DE T X W (.Constant (.bool b) j pos) (ev g (.cbl b)) := de_const pe_bl fun _ => rfl
theorem de_non {j : Nat} {pos : Pos} : DE T X W (.Constant .none j pos) (ev g .cnon) := de_const pe_non fun _ => rfl
theorem de_str {x : Str} {j : Nat} {pos : Pos} : DE T X W (.Constant (.str x) j pos) (ev g (.cstr x)) := de_const pe_str fun _ => rfl
/-- a built-in class as a value -/
theorem de_typ {x : Str} {n : String} {pos : Pos} (hg : Gl X x) (hm : X.mg x = none) (hv : bootBuiltins x = some (.type n)) (hn : x ≠ "__name__") (hd : (x == ("__debug__" : Str)) = false) : DE T X W (.Name x pos) (ev g (.typ n)) :=
  de_const (pe_bltn (v := .ty n) hg hm hv rfl hn hd) fun _ => rfl
/-- what the module's constants are -/
def ConOk (X : Cx) (g : GE) : Prop := ∀ (x : Str) (d : D), g.con x = some d → ∃ v u, X.mg x = some u ∧ RelV v u ∧ ∀ H ρ cp, (∀ a, Mut (H a) → True) → RD ⟨X.K, X.mg, H, ρ, cp⟩ d v
theorem de_glb {x : Str} {pos : Pos} (C : ConOk X g) (hg : Gl X x) (hd : (x == ("__debug__" : Str)) = false) : DE T X W (.Name x pos) (ev g (.glb x)) := by
  refine ⟨fun pins s σ H Q I h => ?_⟩
  obtain ⟨ρ, δ, S, w, h⟩ := h
  unfold ev at h
  cases e : g.con x with
  | none =>
    rw [e] at h
    exact h.elim
  | some d =>
    rw [e] at h
    obtain ⟨v, u, hm, r, rd⟩ := C x d e
    exact (pe_glob (v := v) hg hm r hd).run pins s σ H Q I (fin h w (rd _ _ _ fun _ _ => True.intro))

/-! ### logic -/
theorem de_neg {e : Expr} {pos : Pos} {f : En → Store → Res D} (he : DE T X W e f) : DE T X W (.UnaryOp .USub e pos) (fun δ S => (f δ S).bind fun x S => match x with
    | .int i => .ok (.int (-i)) S
    | _ => .bad) := by
  refine PE_weak (pe_un un_neg he) ?_
  rintro σ H Q ⟨ρ, δ, S, w, h⟩
  refine ⟨ρ, δ, S, w, emb_bind h fun v H1 ρ1 d S1 l1 w1 r1 h1 => ?_⟩
  split at h1
  · exact ⟨_, r1.int, fin h1 w1 rfl⟩
  · exact h1.elim
theorem de_not {e : Expr} {pos : Pos} {f : En → Store → Res D} (he : DT T X W e f) (hne : DE T X W e f) : DE T X W (.UnaryOp .Not e pos) (fun δ S => (f δ S).bind fun x S => match x with
    | .bl b => .ok (.bl (!b)) S
    | _ => .bad) := by
  refine PE_weak (pe_not hne) ?_
  rintro σ H Q ⟨ρ, δ, S, w, h⟩
  refine ⟨ρ, δ, S, w, emb_bind h fun v H1 ρ1 d S1 l1 w1 r1 h1 => ?_⟩
  split at h1
  · exact ⟨_, r1.bl, fin h1 w1 rfl⟩
  · exact h1.elim
theorem dt_not {e : Expr} {pos : Pos} {f : En → Store → Res D} (he : DT T X W e f) : DT T X W (.UnaryOp .Not e pos) (fun δ S => (f δ S).bind fun x S => match x with
    | .bl b => .ok (.bl (!b)) S
    | _ => .bad) := by
  refine PT_weak (pt_not he) ?_
  rintro σ H Q ⟨ρ, δ, S, w, h⟩
  refine ⟨ρ, δ, S, w, emb_bind h fun v H1 ρ1 d S1 l1 w1 r1 h1 => ?_⟩
  split at h1
  · rename_i b
    obtain ⟨b', e1, q⟩ := fin h1 w1 (v := .bl (!b)) rfl
    cases e1
    exact ⟨b, r1.bl, q⟩
  · exact h1.elim
/-- an expression with a value of True or False -/
theorem dt_val {e : Expr} {f : En → Store → Res D} (he : DE T X W e f) (hw : ∀ whole, isTrue e X.env whole = (do let v ← whole; standAt e.pos; holding [v] (truthy v))) : DT T X W e f :=
  PT_weak (pt_val he hw) fun σ H Q h => h
abbrev fAnd (fa fb : En → Store → Res D) : En → Store → Res D := fun δ S => (fa δ S).bind fun x S => match x with
    | .bl true => fb δ S
    | .bl false => .ok (.bl false) S
    | _ => .bad
abbrev fOr (fa fb : En → Store → Res D) : En → Store → Res D := fun δ S => (fa δ S).bind fun x S => match x with
    | .bl true => .ok (.bl true) S
    | .bl false => fb δ S
    | _ => .bad
section
variable {a b : Expr} {rest : List Expr} {pos : Pos} {fa fb fc : En → Store → Res D}
theorem de_and (ha : DE T X W a fa) (hb : DE T X W (.BoolOp .And (b :: rest) pos) fb) : DE T X W (.BoolOp .And (a :: b :: rest) pos) (fAnd fa fb) := by
  refine PE_weak (pe_and ha hb) ?_
  rintro σ H Q ⟨ρ, δ, S, w, h⟩
  refine ⟨ρ, δ, S, w, emb_bind h fun v H1 ρ1 d S1 l1 w1 r1 h1 => ?_⟩
  split at h1
  · exact ⟨true, r1.bl, itT (⟨ρ1, δ, S1, w1, h1⟩)⟩
  · exact ⟨false, r1.bl, itF (fin h1 w1 rfl)⟩
  · exact h1.elim
theorem de_or (ha : DE T X W a fa) (hb : DE T X W (.BoolOp .Or (b :: rest) pos) fb) : DE T X W (.BoolOp .Or (a :: b :: rest) pos) (fOr fa fb) := by
  refine PE_weak (pe_or ha hb) ?_
  rintro σ H Q ⟨ρ, δ, S, w, h⟩
  refine ⟨ρ, δ, S, w, emb_bind h fun v H1 ρ1 d S1 l1 w1 r1 h1 => ?_⟩
  split at h1
  · exact ⟨true, r1.bl, itT (fin h1 w1 rfl)⟩
  · exact ⟨false, r1.bl, itF (⟨ρ1, δ, S1, w1, h1⟩)⟩
  · exact h1.elim
theorem de_one {op : BoolOp} (ha : DE T X W a fa) : DE T X W (.BoolOp op [a] pos) fa := pe_one ha
theorem dw_and (ha : DT T X W a fa) (hb : DW T X W (.BoolOp .And (b :: rest) pos) fb) : DW T X W (.BoolOp .And (a :: b :: rest) pos) (fAnd fa fb) := by
  refine PW_weak (pw_and ha hb) ?_
  rintro σ H Q ⟨ρ, δ, S, w, h⟩
  refine ⟨ρ, δ, S, w, emb_bind h fun v H1 ρ1 d S1 l1 w1 r1 h1 => ?_⟩
  split at h1
  · exact ⟨true, r1.bl, itT (⟨ρ1, δ, S1, w1, h1⟩)⟩
  · obtain ⟨b', e1, q⟩ := fin h1 w1 (v := .bl false) rfl
    cases e1
    exact ⟨false, r1.bl, itF (q)⟩
  · exact h1.elim
theorem dw_or (ha : DT T X W a fa) (hb : DW T X W (.BoolOp .Or (b :: rest) pos) fb) : DW T X W (.BoolOp .Or (a :: b :: rest) pos) (fOr fa fb) := by
  refine PW_weak (pw_or ha hb) ?_
  rintro σ H Q ⟨ρ, δ, S, w, h⟩
  refine ⟨ρ, δ, S, w, emb_bind h fun v H1 ρ1 d S1 l1 w1 r1 h1 => ?_⟩
  split at h1
  · obtain ⟨b', e1, q⟩ := fin h1 w1 (v := .bl true) rfl
    cases e1
    exact ⟨true, r1.bl, itT (q)⟩
  · exact ⟨false, r1.bl, itF (⟨ρ1, δ, S1, w1, h1⟩)⟩
  · exact h1.elim
theorem dw_and1 (ha : DT T X W a fa) : DW T X W (.BoolOp .And [a] pos) fa := pw_and1 ha
theorem dw_or1 (ha : DT T X W a fa) : DW T X W (.BoolOp .Or [a] pos) fa := pw_or1 ha
abbrev fIte (fc fa fb : En → Store → Res D) : En → Store → Res D := fun δ S => (fc δ S).bind fun x S => match x with
    | .bl true => fa δ S
    | .bl false => fb δ S
    | _ => .bad
theorem de_ite {c : Expr} (hc : DT T X W c fc) (ha : DE T X W a fa) (hb : DE T X W b fb) : DE T X W (.IfExp c a b pos) (fIte fc fa fb) := by
  refine PE_weak (pe_ifExp hc ha hb) ?_
  rintro σ H Q ⟨ρ, δ, S, w, h⟩
  refine ⟨ρ, δ, S, w, emb_bind h fun v H1 ρ1 d S1 l1 w1 r1 h1 => ?_⟩
  split at h1
  · exact ⟨true, r1.bl, itT (⟨ρ1, δ, S1, w1, h1⟩)⟩
  · exact ⟨false, r1.bl, itF (⟨ρ1, δ, S1, w1, h1⟩)⟩
  · exact h1.elim
/-- comparisons as tests -/
theorem dt_cmp {op : CmpOp} (hu : X.A.units + 65 < cLine) (hm : behindInMarks op b = false) (ha : DE T X W a fa) (hb : DE T X W b fb) :
    DT T X W (.Compare a [op] [b] pos) (fun δ S => (fa δ S).bind fun x S => (fb δ S).bind fun y S => opCmp op S x y) :=
  PT_weak (pt_cmpR (op_cmp hu op) ha hb hm) fun σ H Q h => emb2 (r := rCmp X.K op) (fun σ H ρ δ S Q a b x y w ra rb h => cmp_ok op w ra rb h) σ H _ h
theorem dt_chn {c : Expr} {op op' : CmpOp} (hu : X.A.units + 65 < cLine) (hm : lastMarks [op, op'] [b, c] = false) (ha : DE T X W a fa) (hb : DE T X W b fb) (hc : DE T X W c fc) :
    DT T X W (.Compare a [op, op'] [b, c] pos) (fun δ S => (fa δ S).bind fun x S => (fb δ S).bind fun y S => (opCmp op S x y).bind fun r S => match r with
      | .bl true => (fc δ S).bind fun z S => opCmp op' S y z
      | .bl false => .ok (.bl false) S
      | _ => .bad) := by
  refine PT_weak (pt_chain (op_cmp hu op) (op_cmp hu op') ha hb hc hm) ?_
  rintro σ H Q ⟨ρ, δ, S, w, h⟩
  refine ⟨ρ, δ, S, w, emb_bind h fun v H1 ρ1 d S1 l1 w1 r1 h1 => ⟨ρ1, δ, S1, w1, emb_bind h1 fun v2 H2 ρ2 d2 S2 l2 w2 r2 h2 => ?_⟩⟩
  refine cmp_ok op w2 (r1.le (w1.ple l2)) r2 (emb_bind h2 fun v3 H3 ρ3 d3 S3 l3 w3 r3 h3 => ?_)
  cases d3 with
  | bl k =>
    refine ⟨k, r3, ?_⟩
    cases k with
    | true =>
      rw [if_pos rfl]
      exact ⟨ρ3, δ, S3, w3, emb_bind h3 fun v4 H4 ρ4 d4 S4 l4 w4 r4 h4 => cmp_ok op' w4 ((r2.le (w2.ple l3)).le (w3.ple l4)) r4 h4⟩
    | false =>
      rw [if_neg Bool.false_ne_true]
      exact fin h3 w3 rfl
  | _ => exact h3.elim
end

/-! ### displays -/
abbrev fNil : En → Store → Res (List D) := fun _ S => .ok [] S
abbrev fCons (fa : En → Store → Res D) (fr : En → Store → Res (List D)) : En → Store → Res (List D) := fun δ S => (fa δ S).bind fun x S => (fr δ S).bind fun xs S => .ok (x :: xs) S
theorem da_nil : DA T X W [] fNil := by
  refine PA_weak pa_nil ?_
  rintro σ H Q ⟨ρ, δ, S, w, h⟩
  exact h [] H ρ Le.rfl' w rfl
theorem da_cons {e : Expr} {es : List Expr} {fa : En → Store → Res D} {fr : En → Store → Res (List D)} (hs : starEach (e :: es) X.env = (false, eval e X.env) :: starEach es X.env) (ha : DE T X W e fa) (hr : DA T X W es fr) : DA T X W (e :: es) (fCons fa fr) := by
  refine PA_weak (pa_cons ha hr hs) ?_
  rintro σ H Q ⟨ρ, δ, S, w, h⟩
  refine ⟨ρ, δ, S, w, emb_bindL h fun v H1 ρ1 d S1 l1 w1 r1 h1 => ⟨ρ1, δ, S1, w1, embA_bindL h1 fun vs H2 ρ2 ds S2 l2 w2 r2 h2 => ?_⟩⟩
  exact h2 _ H2 ρ2 Le.rfl' w2 ⟨v, vs, rfl, r1.le (w1.ple l2), r2⟩
theorem de_tup {es : List Expr} {x1 : Nat} {pos : Pos} {f : En → Store → Res (List D)} (h : DA T X W es f) : DE T X W (.Tuple es x1 pos) (fun δ S => (f δ S).bind fun xs S => if xs.length ≤ line then .ok (.tup xs) S else .bad) := by
  refine PE_weak (pe_tup h) ?_
  rintro σ H Q ⟨ρ, δ, S, w, h⟩
  refine ⟨ρ, δ, S, w, embA_bind h fun vs H1 ρ1 ds S1 l1 w1 r1 h1 => ?_⟩
  split at h1
  · rename_i hl
    refine ⟨by rw [← line_eq, ← r1.length]; exact hl, fun p hp => ?_⟩
    exact fin_new h1 w1 hp ⟨p, vs, rfl, SqT.of upd_same, r1.le (ple_upd w1 hp)⟩
  · exact h1.elim
mutual
theorem RD.noclo {p p' : PR} (hK : p'.K = p.K) (hm : p'.mg = p.mg) (hH : p'.H = p.H) (hρ : p'.ρ = p.ρ) : ∀ (d : D) (v : V), d.hasClo = false → RD p d v → RD p' d v
  | .non, v, _, h => h
  | .bl b, v, _, h => h
  | .int i, v, _, h => h
  | .str s, v, _, h => h
  | .tup ds, v, c, h => by
    obtain ⟨a, xs, e, q, r⟩ := h
    exact ⟨a, xs, e, by rw [hK, hH]; exact q, RDs.noclo hK hm hH hρ ds xs (by unfold D.hasClo at c; exact c) r⟩
  | .lst ds, v, c, h => by
    obtain ⟨a, xs, e, q, n, r⟩ := h
    exact ⟨a, xs, e, by rw [hH]; exact q, by rw [hρ]; exact n, RDs.noclo hK hm hH hρ ds xs (by unfold D.hasClo at c; exact c) r⟩
  | .dic ks vs, v, c, h => by
    obtain ⟨a, kvs, e, n, q1, q2, q3⟩ := h
    exact ⟨a, kvs, e, by rw [hρ]; exact n, by rw [hH]; exact q1, q2, RDs.noclo hK hm hH hρ vs _ (by unfold D.hasClo at c; exact c) q3⟩
  | .dct ks vs, v, c, h => by
    obtain ⟨a, kvs, e, n, q1, q2, q3⟩ := h
    exact ⟨a, kvs, e, by rw [hρ]; exact n, by rw [hH]; exact q1, q2, RDs.noclo hK hm hH hρ vs _ (by unfold D.hasClo at c; exact c) q3⟩
  | .obj c ns vs, v, cc, h => by
    obtain ⟨a, C, dx, fs, e, q, n, m, en, r⟩ := h
    exact ⟨a, C, dx, fs, e, by rw [hH]; exact q, by rw [hρ]; exact n, by rw [hm]; exact m, en, RDs.noclo hK hm hH hρ vs _ (by unfold D.hasClo at cc; exact cc) r⟩
  | .ref k, v, _, h => by
    obtain ⟨a, e, q⟩ := h
    exact ⟨a, e, by rw [hρ]; exact q⟩
  | .scr ns, v, _, h => by
    obtain ⟨a, e, q⟩ := h
    exact ⟨a, e, by rw [hK, hH, hρ]; exact q⟩
  | .glo x, v, _, h => by
    obtain ⟨a, e, q⟩ := h
    exact ⟨a, e, by rw [hm]; exact q⟩
  | .ty n, v, _, h => h
  | .clo .., v, c, _ => by unfold D.hasClo at c; cases c
theorem RDs.noclo {p p' : PR} (hK : p'.K = p.K) (hm : p'.mg = p.mg) (hH : p'.H = p.H) (hρ : p'.ρ = p.ρ) : ∀ (ds : List D) (xs : List V), D.hasCloL ds = false → RDs p ds xs → RDs p' ds xs
  | [], xs, _, h => h
  | d :: r, xs, c, h => by
    obtain ⟨y, ys, e, h1, h2⟩ := h
    unfold D.hasCloL at c
    rw [Bool.or_eq_false_iff] at c
    exact ⟨y, ys, e, RD.noclo hK hm hH hρ d y c.1 h1, RDs.noclo hK hm hH hρ r ys c.2 h2⟩
end
theorem de_lst {es : List Expr} {m : Bool} {pos : Pos} {f : En → Store → Res (List D)} (h : DA T X W es f) : DE T X W (.List es pos) (fun δ S => (f δ S).bind fun xs S => if xs.length ≤ line then (if m then (if D.hasCloL xs then .bad else .ok (.ref S.length) (S ++ [.lst xs])) else .ok (.lst xs) S) else .bad) := by
  refine PE_weak (pe_lst h) ?_
  rintro σ H Q ⟨ρ, δ, S, w, h⟩
  refine ⟨ρ, δ, S, w, embA_bind h fun vs H1 ρ1 ds S1 l1 w1 r1 h1 => ?_⟩
  split at h1
  · rename_i hl
    refine ⟨by rw [← line_eq, ← r1.length]; exact hl, fun p hp => ?_⟩
    split at h1
    · split at h1
      · exact h1.elim
      · rename_i hc
        have hc : D.hasCloL ds = false := by simpa using hc
        have le := Le.new (ρ := ρ1) (o := .lst vs) hp
        have so := w1.sto.new (m := .lst ds) (o := .lst vs) hp ⟨vs, upd_same, RDs.noclo (p := pr X σ (L2.upd H1 p (.lst vs)) (ρ1.add p)) (p' := pr0 X.K X.mg (L2.upd H1 p (.lst vs)) (ρ1.add p)) rfl rfl rfl rfl ds vs hc (r1.le (w1.ple le))⟩
        exact h1 _ _ _ le (w1.next le so (tabs_upd w1.tabs hp)) ⟨p, rfl, by show (ρ1.l ++ [p])[S1.length]? = some p; rw [← w1.sto.len, List.getElem?_append_right (Nat.le_refl _), Nat.sub_self]; rfl⟩
    · exact fin_new h1 w1 hp ⟨p, vs, rfl, upd_same, w1.sto.out hp, r1.le (ple_upd w1 hp)⟩
  · exact h1.elim

/-! ### subscripts, slices -/
theorem RDs.atI {p : PR} {ds : List D} {xs : List V} {i : Int} {d : D} (h : RDs p ds xs) (e : L2.atI ds i = some d) : ∃ x, L2.atI xs i = some x ∧ RD p d x := by
  unfold L2.atI at e ⊢
  rw [← h.length]
  cases q : ixN ds.length i with
  | none => rw [q] at e; cases e
  | some j =>
    rw [q] at e
    exact h.get (show ds[j]? = some d from e)
theorem RDs.cut {p : PR} {ds : List D} {xs : List V} (h : RDs p ds xs) (lo hi : Option Int) : RDs p (cutD ds lo hi) (cutV xs lo hi) := by
  unfold cutD cutV
  rw [← h.length]
  exact (h.drop _).take _
theorem RDs.ints {p : PR} : ∀ (l : List Int), RDs p (l.map .int) (l.map V.int)
  | [] => rfl
  | i :: r => ⟨.int i, r.map V.int, rfl, rfl, RDs.ints r⟩
theorem scr_ok {p : PR} {l : List Int} {v : V} (r : RD p (.scr l) v) : ∃ a, v = .ref a ∧ SqL p.K p.H a (l.map V.int) := by
  obtain ⟨a, e, q⟩ := r
  refine ⟨a, e, ?_⟩
  rcases q with ⟨q, _⟩ | q
  · exact .inl q
  · rcases q with (q | ⟨o, q⟩) | q
    · cases q
    · cases q
    · exact .inr q
theorem cutD_map {α β : Type} (f : α → β) (l : List α) (lo hi : Option Int) : cutD (l.map f) lo hi = (cutD l lo hi).map f := by
  unfold cutD
  rw [List.length_map, ← List.map_drop, ← List.map_take]
theorem ixL_ok {a : D} {x : V} {i : Int} (w : Wld T X σ H ρ δ S) (ra : RD (pr X σ H ρ) a x) (h : Good T X W σ H ρ δ Q (match asL S a with
      | some l => match L2.atI l i with
        | some d => .ok d S
        | none => .bad
      | none => .bad)) : rIx X.K x (.int i) H Q := by
  cases hl : asL S a with
  | none =>
    rw [hl] at h
    exact h.elim
  | some l =>
    rw [hl] at h
    dsimp only at h
    cases e : L2.atI l i with
    | none =>
      rw [e] at h
      exact h.elim
    | some d =>
      rw [e] at h
      obtain ⟨p, xs, rfl, s1, r1⟩ := asL_ok w ra hl
      obtain ⟨z, h1, h2⟩ := r1.atI e
      exact .inl ⟨p, xs, i, z, rfl, rfl, SqL.of s1, h1, fin h w h2⟩
theorem ix_ok {a b : D} {x y : V} (w : Wld T X σ H ρ δ S) (ra : RD (pr X σ H ρ) a x) (rb : RD (pr X σ H ρ) b y) (h : Good T X W σ H ρ δ Q (opIx S a b)) : rIx X.K x y H Q := by
  unfold opIx at h
  cases b with
  | int i =>
    rw [rb.int]
    cases a with
    | tup l =>
      dsimp only at h
      cases e : L2.atI l i with
      | none =>
        rw [e] at h
        exact h.elim
      | some d =>
        rw [e] at h
        obtain ⟨p, xs, e1, s1, r1⟩ := ra
        obtain ⟨z, h1, h2⟩ := r1.atI e
        exact .inr (.inl ⟨p, xs, i, z, e1, rfl, s1, h1, fin h w h2⟩)
    | str z =>
      dsimp only at h
      split at h
      · rename_i hz
        cases e : L2.atI z.cps.toList i with
        | none =>
          rw [e] at h
          exact h.elim
        | some c =>
          rw [e] at h
          exact .inr (.inr ⟨z, i, c, ra.str, rfl, by rw [← line_eq]; exact hz, e, fin h w rfl⟩)
      · exact h.elim
    | scr l =>
      dsimp only at h
      cases e : L2.atI l i with
      | none =>
        rw [e] at h
        exact h.elim
      | some d =>
        rw [e] at h
        obtain ⟨p, e1, s1⟩ := scr_ok ra
        have e2 : L2.atI (List.map V.int l) i = some (V.int d) := by
          unfold L2.atI at e ⊢
          rw [List.length_map]
          cases q : ixN l.length i with
          | none => rw [q] at e; cases e
          | some j =>
            rw [q] at e
            have e : l[j]? = some d := e
            show (List.map V.int l)[j]? = _
            rw [List.getElem?_map, e]
            rfl
        exact .inl ⟨p, _, i, V.int d, e1, rfl, s1, e2, fin h w rfl⟩
    | _ => exact ixL_ok w ra h
  | _ => exact h.elim
theorem de_ix {a b : Expr} {pos : Pos} {fa fb : En → Store → Res D} (ha : DE T X W a fa) (hb : DE T X W b fb) (hs : PlainIx b) :
    DE T X W (.Subscript a b pos) (fun δ S => (fa δ S).bind fun x S => (fb δ S).bind fun y S => opIx S x y) :=
  PE_weak (pe_ix ix_seq ha hb hs) (emb2 fun σ H ρ δ S Q a b x y w ra rb h => ix_ok w ra rb h)
/-- a part of a slice -/
abbrev fNoP : En → Store → Res (Option Int) := fun _ S => .ok none S
abbrev fPart (f : En → Store → Res D) : En → Store → Res (Option Int) := fun δ S => (f δ S).bind partD
def GoodO (T : List (Addr × Str)) (X : Cx) (W : WX) (σ : L2.St) (H : Hp) (ρ : Rh) (δ : En) (Q : Option Int → Hp → Prop) : Res (Option Int) → Prop
  | .ok o S => ∀ H' ρ', Le H ρ H' ρ' → Wld T X σ H' ρ' δ S → Q o H'
  | .exc c ns vs S => GoodX T X W σ H ρ δ c ns vs S
  | .bad => False
def embO (T : List (Addr × Str)) (X : Cx) (W : WX) (f : En → Store → Res (Option Int)) : TO := fun σ H Q => ∃ ρ δ S, Wld T X σ H ρ δ S ∧ GoodO T X W σ H ρ δ Q (f δ S)
abbrev DO (T : List (Addr × Str)) (X : Cx) (W : WX) (e : Option Expr) (f : En → Store → Res (Option Int)) : Prop := PO X e (embO T X W f)
theorem PO_weak {e : Option Expr} {t t' : TO} (h : PO X e t) (w : ∀ σ H Q, t' σ H Q → t σ H Q) : PO X e t' := ⟨fun pins s σ H Q I hq => h.run pins s σ H Q I (w σ H Q hq)⟩
theorem do_none : DO T X W none fNoP := by
  refine PO_weak po_none ?_
  rintro σ H Q ⟨ρ, δ, S, w, h⟩
  exact h H ρ Le.rfl' w
theorem do_some {e : Expr} {f : En → Store → Res D} (he : DE T X W e f) : DO T X W (some e) (fPart f) := by
  refine PO_weak (po_some he) ?_
  rintro σ H Q ⟨ρ, δ, S, w, h⟩
  refine ⟨ρ, δ, S, w, ?_⟩
  unfold fPart at h
  generalize f δ S = r at h
  cases r with
  | ok d S' =>
    intro v H' ρ' l w' r
    cases d with
    | int i => exact ⟨i, r, h H' ρ' l w'⟩
    | _ => exact h.elim
  | exc _ _ _ _ => exact h
  | bad => exact h
theorem embO_bind {R : Option Int → Hp → Prop} {r : Option Int → Store → Res D} {x : Res (Option Int)} (h : Good T X W σ H ρ δ Q (x.bind r))
    (k : ∀ o H1 ρ1 S1, Le H ρ H1 ρ1 → Wld T X σ H1 ρ1 δ S1 → Good T X W σ H1 ρ1 δ Q (r o S1) → R o H1) : GoodO T X W σ H ρ δ R x := by
  cases x with
  | ok d S1 => exact fun H1 ρ1 l w1 => k d H1 ρ1 S1 l w1 (Good.le h l)
  | exc _ _ _ _ => exact h
  | bad => exact h
abbrev rSl (K : PySem.W.Frag) : V → Option Int → Option Int → Hp → VK → Prop := fun x lo hi H Q => rSlA K x lo hi H Q ∨ rSlS x lo hi H Q ∨ rSlL K x lo hi H Q
theorem sl_ok {a : D} {x : V} {lo hi : Option Int} (w : Wld T X σ H ρ δ S) (ra : RD (pr X σ H ρ) a x) (h : Good T X W σ H ρ δ Q (opSl S a lo hi)) : rSl X.K x lo hi H Q := by
  have lst : ∀ (h : Good T X W σ H ρ δ Q (match asL S a with
      | some l => .ok (.lst (cutD l lo hi)) S
      | none => .bad)), rSl X.K x lo hi H Q := fun h => by
    cases hl : asL S a with
    | none =>
      rw [hl] at h
      exact h.elim
    | some l =>
      rw [hl] at h
      obtain ⟨p, xs, rfl, s1, r1⟩ := asL_ok w ra hl
      exact .inr (.inr ⟨p, xs, rfl, SqL.of s1, fun t ht => fin_new h w ht ⟨t, _, rfl, upd_same, w.sto.out ht, (r1.le (ple_upd w ht)).cut lo hi⟩⟩)
  unfold opSl at h
  cases a with
  | tup l =>
    obtain ⟨p, xs, e1, s1, r1⟩ := ra
    refine .inl ⟨p, xs, e1, s1, fun z => ?_, fun z t ht => ?_⟩
    · refine fin h w ⟨p, xs, rfl, s1, ?_⟩
      have e : cutD l lo hi = l := by
        unfold cutD
        rw [r1.length, z.1, z.2, List.drop_zero, Nat.sub_zero, ← r1.length, List.take_length]
      rw [e]
      exact r1
    · exact fin_new h w ht ⟨t, _, rfl, SqT.of upd_same, (r1.le (ple_upd w ht)).cut lo hi⟩
  | str z =>
    dsimp only at h
    split at h
    · rename_i hz
      exact .inr (.inl ⟨z, ra.str, by rw [← line_eq]; exact hz, fin h w rfl⟩)
    · exact h.elim
  | scr l =>
    obtain ⟨p, e1, s1⟩ := scr_ok ra
    refine .inr (.inr ⟨p, _, e1, s1, fun t ht => fin_new h w ht ⟨t, _, rfl, upd_same, w.sto.out ht, ?_⟩⟩)
    have e : cutV (List.map V.int l) lo hi = (cutD l lo hi).map V.int := by
      show cutD (List.map V.int l) lo hi = _
      exact cutD_map V.int l lo hi
    rw [e]
    exact RDs.ints _
  | _ => exact lst h
theorem de_sl {a : Expr} {lo hi : Option Expr} {pos p2 : Pos} {fa : En → Store → Res D} {fl fh : En → Store → Res (Option Int)} (ha : DE T X W a fa) (hl : DO T X W lo fl) (hh : DO T X W hi fh) :
    DE T X W (.Subscript a (.Slice lo hi none p2) pos) (fun δ S => (fa δ S).bind fun x S => (fl δ S).bind fun l S => (fh δ S).bind fun h S => opSl S x l h) := by
  refine PE_weak (pe_slice (sl_tupA.or (sl_str.or sl_list)) ha hl hh) ?_
  rintro σ H Q ⟨ρ, δ, S, w, h⟩
  refine ⟨ρ, δ, S, w, emb_bind h fun v H1 ρ1 d S1 l1 w1 r1 h1 => ⟨ρ1, δ, S1, w1, embO_bind h1 fun o H2 ρ2 S2 l2 w2 h2 => ⟨ρ2, δ, S2, w2, embO_bind h2 fun o2 H3 ρ3 S3 l3 w3 h3 => ?_⟩⟩⟩
  exact sl_ok w3 ((r1.le (w1.ple l2)).le (w2.ple l3)) h3

end
end MM
end
section
set_option Elab.async false
set_option linter.all false
set_option maxRecDepth 100000
set_option maxHeartbeats 4000000
/-! Calls of built-in functions. -/
namespace MM
open PySem PySem.Spec PyProof.Rows L2
variable [Lams]
/-- what of the text is known of the own classes -/
structure ClsOk (K : PySem.W.Frag) (C : Addr) : Prop where
  cl : Cls K C
  ha : PySem.W.findIn K (.ref C) "__class__" = some (some (.builtin "object.__class__"))
  hn : PySem.W.specialIn K (.builtin "object.__class__") "__get__" = some (some (.builtin "getset_descriptor.__get__"))
  htk : PySem.W.takesIn K (.builtin "object.__class__") = some true
  hm : PySem.W.mroIn K C (.type "object") = some true
structure KitOk (K : PySem.W.Frag) (mg : Str → Option Value) (g : GE) : Prop where
  cls : ∀ c C, g.cls.contains c = true → mg c = some (.ref C) → ClsOk K C
  ct : ∀ c C n, g.cls.contains c = true → mg c = some (.ref C) → (n == "int" || n == "bool" || n == "str" || n == "tuple" || n == "list" || n == "dict") = true → PySem.W.kitOne K (.ref C) (.type n) = some false
  tc : ∀ c C t, g.cls.contains c = true → mg c = some (.ref C) → (t = "NoneType" ∨ t = "bool" ∨ t = "int" ∨ t = "str" ∨ t = "tuple" ∨ t = "list" ∨ t = "dict") → PySem.W.kitOne K (.type t) (.ref C) = some false
  cc : ∀ c C k C', g.cls.contains c = true → g.cls.contains k = true → mg c = some (.ref C) → mg k = some (.ref C') → PySem.W.kitOne K (.ref C) (.ref C') = some (g.sub c k)
section
variable {T : List (Addr × Str)} {X : Cx} {W : WX} {σ : L2.St} {H : Hp} {ρ : Rh} {δ : En} {S : Store} {Q : VK} {g : GE}
theorem sqT_ty {v : Addr} {xs : List V} (h : SqT X.K H v xs) (hk : ∀ o, X.K.lookup v = some o → False) : ∃ xs, H v = some (.tup xs) ∨ ∃ o, H v = some (.frz o (.tup xs)) := by
  rcases h with (h | h) | ⟨o, _, _, h, _⟩
  · exact ⟨xs, .inl h⟩
  · exact ⟨xs, .inr h⟩
  · exact (hk o h).elim
/-- isinstance, by values: the type as the deciders take it, and the heap's tuples of the written part -/
theorem isinst_any {pins : List (Addr × Obj)} {σ : L2.St} {s : Shared} {u t c : Value} {v : V} {b : Bool} {A : Around} {E : Value → Shared → Prop} {Q : Value → Shared → Prop} (I : Inv X pins σ H s) (rv : RelV v u)
    (ty : TyOf X.K H v t ∨ (t = .type "tuple" ∧ ∃ a xs, v = .ref a ∧ SqT X.K H a xs) ∨ (t = .type "list" ∧ ∃ a xs, v = .ref a ∧ SqL X.K H a xs)) (e : PySem.W.kitOne X.K t c = some b) (h : ∀ tk, Q (.bool b) { s with toks := tk }) :
    wpAny (model X.prog X.w) A (call (.builtin "isinstance") [u, c]) Q E s := by
  rcases ty with ty | ⟨et, a, xs, ev, hs⟩ | ⟨et, a, xs, ev, hs⟩
  · exact isinst_ok I rv ty e h
  · subst et ev
    obtain rfl : u = Value.ref a := rv
    obtain ⟨its, _, ⟨o, h1, h2, _⟩, _⟩ := I.tuple hs
    exact PySem.W.kia_one PySem.W.kitx_tuple I.kIn ⟨o, h1, h2⟩ e (fun z => nomatch z) h
  · subst et ev
    obtain rfl : u = Value.ref a := rv
    obtain ⟨its, _, ⟨o, n, h1, h2, _⟩, _⟩ := I.list hs
    exact PySem.W.kia_one PySem.W.kitx_list I.kIn ⟨o, h1, h2⟩ e (fun z => nomatch z) h
abbrev TyP (K : PySem.W.Frag) (H : Hp) (v : V) (t : Value) : Prop := TyOf K H v t ∨ (t = .type "tuple" ∧ ∃ a xs, v = .ref a ∧ SqT K H a xs) ∨ (t = .type "list" ∧ ∃ a xs, v = .ref a ∧ SqL K H a xs)
theorem tyP_ty (w : Wld T X σ H ρ δ S) {d : D} {v : V} {t : String} (r : RD (pr X σ H ρ) d v) (e : tyName S d = some t) : TyP X.K H v (.type t) ∧ (t = "NoneType" ∨ t = "bool" ∨ t = "int" ∨ t = "str" ∨ t = "tuple" ∨ t = "list" ∨ t = "dict") := by
  unfold tyName at e
  cases d with
  | non =>
    cases e
    rw [show v = .non from r]
    exact ⟨.inl .non, .inl rfl⟩
  | bl b =>
    cases e
    rw [show v = .bl b from r]
    exact ⟨.inl (.bl b), .inr (.inl rfl)⟩
  | int b =>
    cases e
    rw [show v = .int b from r]
    exact ⟨.inl (.int b), .inr (.inr (.inl rfl))⟩
  | str b =>
    cases e
    rw [show v = .str b from r]
    exact ⟨.inl (.str b), .inr (.inr (.inr (.inl rfl)))⟩
  | tup l =>
    cases e
    obtain ⟨a, xs, e1, s1, _⟩ := r
    exact ⟨.inr (.inl ⟨rfl, a, xs, e1, s1⟩), .inr (.inr (.inr (.inr (.inl rfl))))⟩
  | lst l =>
    cases e
    obtain ⟨a, xs, e1, s1, _⟩ := r
    exact ⟨.inr (.inr ⟨rfl, a, xs, e1, SqL.of s1⟩), .inr (.inr (.inr (.inr (.inr (.inl rfl)))))⟩
  | scr l =>
    cases e
    obtain ⟨a, e1, s1⟩ := scr_ok r
    exact ⟨.inr (.inr ⟨rfl, a, _, e1, s1⟩), .inr (.inr (.inr (.inr (.inr (.inl rfl)))))⟩
  | dic ks vs =>
    cases e
    obtain ⟨a, kvs, e1, _, q, _⟩ := r
    rw [e1]
    exact ⟨.inl (.dK q), .inr (.inr (.inr (.inr (.inr (.inr rfl)))))⟩
  | dct ks vs =>
    cases e
    obtain ⟨a, kvs, e1, _, q, _⟩ := r
    rw [e1]
    exact ⟨.inl (.dT q), .inr (.inr (.inr (.inr (.inr (.inr rfl)))))⟩
  | ref k =>
    dsimp only at e
    split at e
    · rename_i l hl
      cases e
      obtain ⟨a, e1, e2⟩ := r
      obtain ⟨xs, h1, _⟩ := w.sto.ob k a _ e2 hl
      exact ⟨.inr (.inr ⟨rfl, a, xs, e1, SqL.of h1⟩), .inr (.inr (.inr (.inr (.inr (.inl rfl)))))⟩
    · cases e
  | _ => cases e
theorem cls_at (w : Wld T X σ H ρ δ S) {d : D} {v : V} {c : Str} (r : RD (pr X σ H ρ) d v) (e : clsName S d = some c) : ∃ a C dx fs, v = .ref a ∧ H a = some (.ins C dx fs) ∧ X.mg c = some (.ref C) := by
  unfold clsName at e
  cases d with
  | obj c' ns vs =>
    cases e
    obtain ⟨a, C, dx, fs, e1, e2, _, e4, _⟩ := r
    exact ⟨a, C, dx, fs, e1, e2, e4⟩
  | ref k =>
    dsimp only at e
    split at e
    · rename_i c' ns vs hl
      cases e
      obtain ⟨a, e1, e2⟩ := r
      obtain ⟨C, dx, fs, h1, h2, _⟩ := w.sto.ob k a _ e2 hl
      exact ⟨a, C, dx, fs, e1, h1, h2⟩
    · cases e
  | _ => cases e
abbrev rIsI (K : PySem.W.Frag) : List V → Hp → VK → Prop := fun vs H Q => ∃ x cv t c b, vs = [x, cv] ∧ TyP K H x t ∧ RelV cv c ∧ (∀ u, RelV cv u → u = c) ∧ PySem.W.kitOne K t c = some b ∧ Q (.bl b) H
theorem call_isI : CallR X (.builtin "isinstance") (rIsI X.K) := by
  intro pins s σ H xs us Q I r h
  obtain ⟨x, cv, t, c, b, rfl, ty, rc, uq, k, q⟩ := h
  obtain ⟨u, c', rfl, r1, r2⟩ := vals2 r
  rw [uq c' r2]
  exact isinst_any I r1 ty k fun tk => ⟨.bl b, H, I.tok _, rfl, q⟩
theorem isI_ok (kit : KitOk X.K X.mg g) {x c : D} {vx vc : V} {b : Bool} (w : Wld T X σ H ρ δ S) (rx : RD (pr X σ H ρ) x vx) (rc : RD (pr X σ H ρ) c vc) (e : isInst g S x c = some b) (q : Q (.bl b) H) : rIsI X.K [vx, vc] H Q := by
  unfold isInst at e
  cases c with
  | ty n =>
    have ec : vc = .ty n := rc
    subst ec
    dsimp only at e
    cases h : tyName S x with
    | some t =>
      rw [h] at e
      obtain ⟨h1, _⟩ := tyP_ty w rx h
      exact ⟨vx, .ty n, .type t, .type n, b, rfl, h1, rfl, fun u hu => hu, kit_ty e, q⟩
    | none =>
      rw [h] at e
      dsimp only at e
      cases h2 : clsName S x with
      | none =>
        rw [h2] at e
        cases e
      | some k' =>
        rw [h2] at e
        dsimp only at e
        split at e
        · rename_i hc
          cases e
          rw [Bool.and_eq_true] at hc
          obtain ⟨a, C, dx, fs, e1, e2, e3⟩ := cls_at w rx h2
          have ck := kit.cls k' C hc.1 e3
          exact ⟨vx, .ty n, .ref C, .type n, false, rfl, .inl (by rw [e1]; exact .ins e2 ck.cl ck.ha ck.hn ck.htk ck.hm), rfl, fun u hu => hu, kit.ct k' C n hc.1 e3 hc.2, q⟩
        · cases e
  | glo k =>
    obtain ⟨ac, ec, mc⟩ := rc
    subst ec
    dsimp only at e
    split at e
    · rename_i hk
      cases h : tyName S x with
      | some t =>
        rw [h] at e
        cases e
        obtain ⟨h1, h2⟩ := tyP_ty w rx h
        exact ⟨vx, .ref ac, .type t, .ref ac, false, rfl, h1, rfl, fun u hu => hu, kit.tc k ac t hk mc h2, q⟩
      | none =>
        rw [h] at e
        dsimp only at e
        cases h2 : clsName S x with
        | none =>
          rw [h2] at e
          cases e
        | some k' =>
          rw [h2] at e
          dsimp only at e
          split at e
          · rename_i hc
            cases e
            obtain ⟨a, C, dx, fs, e1, e2, e3⟩ := cls_at w rx h2
            have ck := kit.cls k' C hc e3
            exact ⟨vx, .ref ac, .ref C, .ref ac, _, rfl, .inl (by rw [e1]; exact .ins e2 ck.cl ck.ha ck.hn ck.htk ck.hm), rfl, fun u hu => hu, kit.cc k' C k ac hc hk e3 mc, q⟩
          · cases e
    · cases e
  | _ => cases e

/-! ### the others -/
theorem bls_of {p : PR} : ∀ {l : List D} {xs : List V} {bs : List Bool}, RDs p l xs → blsD l = some bs → xs = bs.map V.bl
  | [], xs, bs, r, e => by
    unfold blsD at e
    cases e
    exact r
  | d :: l, xs, bs, r, e => by
    obtain ⟨y, ys, e1, h1, h2⟩ := r
    cases d with
    | bl b =>
      unfold blsD at e
      obtain ⟨cs, e2, e3⟩ := Option.map_eq_some_iff.mp e
      rw [e1, ← e3, show y = .bl b from h1, bls_of h2 e2]
      rfl
    | _ => unfold blsD at e; cases e
theorem ints_of {p : PR} : ∀ {l : List D} {xs : List V} {bs : List Int}, RDs p l xs → intsD l = some bs → xs = bs.map V.int
  | [], xs, bs, r, e => by
    unfold intsD at e
    cases e
    exact r
  | d :: l, xs, bs, r, e => by
    obtain ⟨y, ys, e1, h1, h2⟩ := r
    cases d with
    | int b =>
      unfold intsD at e
      obtain ⟨cs, e2, e3⟩ := Option.map_eq_some_iff.mp e
      rw [e1, ← e3, show y = .int b from h1, ints_of h2 e2]
      rfl
    | _ => unfold intsD at e; cases e
theorem strs_of {p : PR} : ∀ {l : List D} {xs : List V} {bs : List Str}, RDs p l xs → strsD l = some bs → xs = bs.map V.str
  | [], xs, bs, r, e => by
    unfold strsD at e
    cases e
    exact r
  | d :: l, xs, bs, r, e => by
    obtain ⟨y, ys, e1, h1, h2⟩ := r
    cases d with
    | str b =>
      unfold strsD at e
      obtain ⟨cs, e2, e3⟩ := Option.map_eq_some_iff.mp e
      rw [e1, ← e3, show y = .str b from h1, strs_of h2 e2]
      rfl
    | _ => unfold strsD at e; cases e
theorem RDs.strs {p : PR} : ∀ (l : List Str), RDs p (l.map D.str) (l.map V.str)
  | [] => rfl
  | i :: r => ⟨.str i, r.map V.str, rfl, rfl, RDs.strs r⟩
theorem RDs.one {p : PR} {d : D} {vs : List V} (h : RDs p [d] vs) : ∃ v, vs = [v] ∧ RD p d v := by
  obtain ⟨v, r, e, h1, h2⟩ := h
  have e2 : r = [] := h2
  rw [e2] at e
  exact ⟨v, e, h1⟩
theorem RDs.two {p : PR} {d d2 : D} {vs : List V} (h : RDs p [d, d2] vs) : ∃ v v2, vs = [v, v2] ∧ RD p d v ∧ RD p d2 v2 := by
  obtain ⟨v, r, e, h1, h2⟩ := h
  obtain ⟨v2, e2, h3⟩ := h2.one
  rw [e2] at e
  exact ⟨v, v2, e, h1, h3⟩
theorem optR_some {o : Option D} (h : Good T X W σ H ρ δ Q (optR S o)) : ∃ d, o = some d ∧ Good T X W σ H ρ δ Q (.ok d S) := by
  cases o with
  | none => exact h.elim
  | some d => exact ⟨d, rfl, h⟩
theorem asL_sq (w : Wld T X σ H ρ δ S) {d : D} {v : V} {l : List D} (r : RD (pr X σ H ρ) d v) (e : asL S d = some l) : ∃ a xs, v = .ref a ∧ SqL X.K H a xs ∧ RDs (pr X σ H ρ) l xs := by
  obtain ⟨a, xs, h1, h2, h3⟩ := asL_ok w r e
  exact ⟨a, xs, h1, SqL.of h2, h3⟩
abbrev rLen1 (K : PySem.W.Frag) : List V → Hp → VK → Prop := fun xs H Q => ∃ x n, xs = [x] ∧ LenV K x H n ∧ Q (.int n) H
theorem len_ok {ds : List D} {vs : List V} (w : Wld T X σ H ρ δ S) (r : RDs (pr X σ H ρ) ds vs) (h : Good T X W σ H ρ δ Q (bLen S ds)) : rLen1 X.K vs H Q := by
  match ds, r, h with
  | [x], r, h =>
    obtain ⟨v, rfl, rx⟩ := r.one
    obtain ⟨d, e, h⟩ := optR_some h
    obtain ⟨n, e1, rfl⟩ := Option.map_eq_some_iff.mp e
    have q : Q (.int n) H := fin h w rfl
    refine ⟨v, n, rfl, ?_, q⟩
    unfold lenD at e1
    cases x with
    | str y =>
      dsimp only at e1
      split at e1
      · rename_i hl
        cases e1
        rw [show v = .str y from rx]
        exact ⟨by rw [← line_eq]; exact hl, rfl⟩
      · cases e1
    | tup l =>
      cases e1
      obtain ⟨a, xs, ev, s1, r1⟩ := rx
      rw [ev]
      exact .inr ⟨xs, s1, r1.length⟩
    | scr l =>
      cases e1
      obtain ⟨a, ev, s1⟩ := scr_ok rx
      rw [ev]
      exact .inl ⟨_, s1, by rw [List.length_map]⟩
    | _ =>
      obtain ⟨l, e2, e3⟩ := Option.map_eq_some_iff.mp e1
      obtain ⟨a, xs, ev, s1, r1⟩ := asL_sq w rx e2
      rw [ev, ← e3]
      exact .inl ⟨xs, s1, r1.length⟩
  | [], _, h => exact h.elim
  | _ :: _ :: _, _, h => exact h.elim
theorem all_ok {ds : List D} {vs : List V} (w : Wld T X σ H ρ δ S) (r : RDs (pr X σ H ρ) ds vs) (h : Good T X W σ H ρ δ Q (bAll S ds)) : rAll X.K vs H Q := by
  match ds, r, h with
  | [x], r, h =>
    obtain ⟨v, rfl, rx⟩ := r.one
    obtain ⟨d, e, h⟩ := optR_some h
    obtain ⟨n, e1, rfl⟩ := Option.map_eq_some_iff.mp e
    obtain ⟨l, e2, e3⟩ := Option.bind_eq_some_iff.mp e1
    obtain ⟨a, xs, ev, s1, r1⟩ := asL_sq w rx e2
    rw [ev]
    refine ⟨a, n, rfl, ?_, fin h w rfl⟩
    rw [bls_of r1 e3] at s1
    exact s1
  | [], _, h => exact h.elim
  | _ :: _ :: _, _, h => exact h.elim
theorem any_ok {ds : List D} {vs : List V} (w : Wld T X σ H ρ δ S) (r : RDs (pr X σ H ρ) ds vs) (h : Good T X W σ H ρ δ Q (bAny S ds)) : rAny X.K vs H Q := by
  match ds, r, h with
  | [x], r, h =>
    obtain ⟨v, rfl, rx⟩ := r.one
    obtain ⟨d, e, h⟩ := optR_some h
    obtain ⟨n, e1, rfl⟩ := Option.map_eq_some_iff.mp e
    obtain ⟨l, e2, e3⟩ := Option.bind_eq_some_iff.mp e1
    obtain ⟨a, xs, ev, s1, r1⟩ := asL_sq w rx e2
    rw [ev]
    refine ⟨a, n, rfl, ?_, fin h w rfl⟩
    rw [bls_of r1 e3] at s1
    exact s1
  | [], _, h => exact h.elim
  | _ :: _ :: _, _, h => exact h.elim
theorem sum_ok {ds : List D} {vs : List V} (w : Wld T X σ H ρ δ S) (r : RDs (pr X σ H ρ) ds vs) (h : Good T X W σ H ρ δ Q (bSum S ds)) : rSum X.K vs H Q := by
  match ds, r, h with
  | [x], r, h =>
    obtain ⟨v, rfl, rx⟩ := r.one
    obtain ⟨d, e, h⟩ := optR_some h
    obtain ⟨n, e1, rfl⟩ := Option.map_eq_some_iff.mp e
    obtain ⟨l, e2, e3⟩ := Option.bind_eq_some_iff.mp e1
    obtain ⟨a, xs, ev, s1, r1⟩ := asL_sq w rx e2
    rw [ev]
    refine ⟨a, n, rfl, ?_, fin h w rfl⟩
    rw [ints_of r1 e3] at s1
    exact s1
  | [], _, h => exact h.elim
  | _ :: _ :: _, _, h => exact h.elim
abbrev rIsIn (K : PySem.W.Frag) := rIsI K
theorem isin_ok (kit : KitOk X.K X.mg g) {ds : List D} {vs : List V} (w : Wld T X σ H ρ δ S) (r : RDs (pr X σ H ρ) ds vs) (h : Good T X W σ H ρ δ Q (bIsI g S ds)) : rIsI X.K vs H Q := by
  match ds, r, h with
  | [x, c], r, h =>
    obtain ⟨v, v2, rfl, rx, rc⟩ := r.two
    obtain ⟨d, e, h⟩ := optR_some h
    obtain ⟨b, e1, rfl⟩ := Option.map_eq_some_iff.mp e
    exact isI_ok kit w rx rc e1 (fin h w rfl)
  | [], _, h => exact h.elim
  | [_], _, h => exact h.elim
  | _ :: _ :: _ :: _, _, h => exact h.elim
abbrev rAbs : List V → Hp → VK → Prop := fun xs H Q => ∃ i, xs = [.int i] ∧ Q (.int (if i < 0 then -i else i)) H
theorem abs_ok {ds : List D} {vs : List V} (w : Wld T X σ H ρ δ S) (r : RDs (pr X σ H ρ) ds vs) (h : Good T X W σ H ρ δ Q (bAbs S ds)) : rAbs vs H Q := by
  unfold bAbs at h
  split at h
  · rename_i i
    obtain ⟨v, rfl, rx⟩ := r.one
    exact ⟨i, by rw [rx.int], fin h w rfl⟩
  · exact h.elim
abbrev rMax2 : List V → Hp → VK → Prop := fun xs H Q => ∃ i j, xs = [.int i, .int j] ∧ Q (.int (if j > i then j else i)) H
theorem max_ok {ds : List D} {vs : List V} (w : Wld T X σ H ρ δ S) (r : RDs (pr X σ H ρ) ds vs) (h : Good T X W σ H ρ δ Q (bMax S ds)) : rMax2 vs H Q := by
  unfold bMax at h
  split at h
  · rename_i i j
    obtain ⟨v, v2, rfl, rx, ry⟩ := r.two
    exact ⟨i, j, by rw [rx.int, ry.int], fin h w rfl⟩
  · exact h.elim
abbrev rMin2 : List V → Hp → VK → Prop := fun xs H Q => ∃ i j, xs = [.int i, .int j] ∧ Q (.int (if j < i then j else i)) H
theorem min_ok {ds : List D} {vs : List V} (w : Wld T X σ H ρ δ S) (r : RDs (pr X σ H ρ) ds vs) (h : Good T X W σ H ρ δ Q (bMin S ds)) : rMin2 vs H Q := by
  unfold bMin at h
  split at h
  · rename_i i j
    obtain ⟨v, v2, rfl, rx, ry⟩ := r.two
    exact ⟨i, j, by rw [rx.int, ry.int], fin h w rfl⟩
  · exact h.elim
abbrev rInt : List V → Hp → VK → Prop := fun xs H Q => ((∃ i, xs = [.int i] ∧ Q (.int i) H) ∨ ∃ k, xs = [.bl k] ∧ Q (.int (if k then 1 else 0)) H) ∨ ∃ a n, xs = [.str a] ∧ PySem.intText? a = some n ∧ a.length ≤ 640 ∧ Q (.int n) H
theorem int_ok {ds : List D} {vs : List V} (w : Wld T X σ H ρ δ S) (r : RDs (pr X σ H ρ) ds vs) (h : Good T X W σ H ρ δ Q (bInt S ds)) : rInt vs H Q := by
  unfold bInt at h
  split at h
  · rename_i i
    obtain ⟨v, rfl, rx⟩ := r.one
    exact .inl (.inl ⟨i, by rw [rx.int], fin h w rfl⟩)
  · rename_i z
    obtain ⟨v, rfl, rx⟩ := r.one
    split at h
    · rename_i n e
      split at h
      · rename_i hl
        exact .inr ⟨z, n, by rw [rx.str], e, hl, fin h w rfl⟩
      · exact h.elim
    · exact h.elim
  · exact h.elim
abbrev rStr1 : List V → Hp → VK → Prop := fun xs H Q => ∃ i, xs = [.int i] ∧ i.natAbs.log2 < 1920 ∧ Q (.str (toString i)) H
theorem str_ok {ds : List D} {vs : List V} (w : Wld T X σ H ρ δ S) (r : RDs (pr X σ H ρ) ds vs) (h : Good T X W σ H ρ δ Q (bStr S ds)) : rStr1 vs H Q := by
  unfold bStr at h
  split at h
  · rename_i i
    obtain ⟨v, rfl, rx⟩ := r.one
    split at h
    · rename_i hl
      exact ⟨i, by rw [rx.int], hl, fin h w rfl⟩
    · exact h.elim
  · exact h.elim
abbrev rTup1 (K : PySem.W.Frag) : List V → Hp → VK → Prop := fun xs H Q => ∃ p ys, xs = [.ref p] ∧ ((SqL K H p ys ∧ ∀ l, H l = none → Q (.ref l) (upd H l (.tup ys))) ∨ (SqT K H p ys ∧ Q (.ref p) H))
theorem seqD_cases {d : D} {l : List D} (e : seqD S d = some l) : d = .tup l ∨ asL S d = some l := by
  unfold seqD at e
  split at e
  · exact .inl (by rw [Option.some.inj e])
  · exact .inr e
theorem tuple_ok {ds : List D} {vs : List V} (w : Wld T X σ H ρ δ S) (r : RDs (pr X σ H ρ) ds vs) (h : Good T X W σ H ρ δ Q (bTuple S ds)) : rTup1 X.K vs H Q := by
  unfold bTuple at h
  split at h
  · obtain ⟨v, rfl, rx⟩ := r.one
    obtain ⟨d, e, h⟩ := optR_some h
    obtain ⟨l, e1, rfl⟩ := Option.map_eq_some_iff.mp e
    rcases seqD_cases e1 with e2 | e2
    · rw [e2] at rx
      obtain ⟨a, xs, ev, s1, r1⟩ := rx
      rw [ev]
      exact ⟨a, xs, rfl, .inr ⟨s1, fin h w ⟨a, xs, rfl, s1, r1⟩⟩⟩
    · obtain ⟨a, xs, ev, s1, r1⟩ := asL_sq w rx e2
      rw [ev]
      exact ⟨a, xs, rfl, .inl ⟨s1, fun t ht => fin_new h w ht ⟨t, xs, rfl, SqT.of upd_same, r1.le (ple_upd w ht)⟩⟩⟩
  · exact h.elim
abbrev rList1 (K : PySem.W.Frag) : List V → Hp → VK → Prop := fun xs H Q => ∃ p ys, xs = [.ref p] ∧ (SqL K H p ys ∨ SqT K H p ys) ∧ ∀ l, H l = none → Q (.ref l) (upd H l (.lst ys))
theorem list_ok {ds : List D} {vs : List V} (w : Wld T X σ H ρ δ S) (r : RDs (pr X σ H ρ) ds vs) (h : Good T X W σ H ρ δ Q (bList S ds)) : rList1 X.K vs H Q := by
  unfold bList at h
  split at h
  · obtain ⟨v, rfl, rx⟩ := r.one
    obtain ⟨d, e, h⟩ := optR_some h
    obtain ⟨l, e1, rfl⟩ := Option.map_eq_some_iff.mp e
    rcases seqD_cases e1 with e2 | e2
    · rw [e2] at rx
      obtain ⟨a, xs, ev, s1, r1⟩ := rx
      rw [ev]
      exact ⟨a, xs, rfl, .inr s1, fun t ht => fin_new h w ht ⟨t, xs, rfl, upd_same, w.sto.out ht, r1.le (ple_upd w ht)⟩⟩
    · obtain ⟨a, xs, ev, s1, r1⟩ := asL_sq w rx e2
      rw [ev]
      exact ⟨a, xs, rfl, .inl s1, fun t ht => fin_new h w ht ⟨t, xs, rfl, upd_same, w.sto.out ht, r1.le (ple_upd w ht)⟩⟩
  · exact h.elim
abbrev rDivmod : List V → Hp → VK → Prop := fun xs H Q => ∃ i j, xs = [.int i, .int j] ∧ CDiv i j ∧ ∀ p, H p = none → Q (.ref p) (upd H p (.tup [.int (i / j), .int (i % j)]))
theorem divmod_ok {ds : List D} {vs : List V} (w : Wld T X σ H ρ δ S) (r : RDs (pr X σ H ρ) ds vs) (h : Good T X W σ H ρ δ Q (bDivmod S ds)) : rDivmod vs H Q := by
  unfold bDivmod at h
  split at h
  · rename_i i j
    obtain ⟨v, v2, rfl, rx, ry⟩ := r.two
    split at h
    · rename_i hc
      exact ⟨i, j, by rw [rx.int, ry.int], hc, fun t ht => fin_new h w ht ⟨t, _, rfl, SqT.of upd_same, .int (i / j), [.int (i % j)], rfl, rfl, .int (i % j), [], rfl, rfl, rfl⟩⟩
    · exact h.elim
  · exact h.elim
theorem gcd_ok {ds : List D} {vs : List V} (w : Wld T X σ H ρ δ S) (r : RDs (pr X σ H ρ) ds vs) (h : Good T X W σ H ρ δ Q (bGcd S ds)) : rGcd vs H Q := by
  unfold bGcd at h
  split at h
  · rename_i i j
    obtain ⟨v, v2, rfl, rx, ry⟩ := r.two
    exact ⟨i, j, by rw [rx.int, ry.int], fin h w rfl⟩
  · exact h.elim
/-! sorting of texts: one answer -/
theorem list_lt_total (a b : List Nat) : a < b ∨ a = b ∨ b < a := by
  by_cases h : a < b
  · exact .inl h
  · by_cases h2 : b < a
    · exact .inr (.inr h2)
    · exact .inr (.inl (List.le_antisymm (List.not_lt.mp h2) (List.not_lt.mp h)))
end
end MM
end
section
set_option Elab.async false
set_option linter.all false
set_option maxRecDepth 100000
set_option maxHeartbeats 4000000
/-! Calls by name, methods of the built-in types, f-strings. -/
namespace MM
open PySem PySem.Spec PyProof.Rows L2
variable [Lams]
section
variable {T : List (Addr × Str)} {X : Cx} {W : WX} {σ : L2.St} {H : Hp} {ρ : Rh} {δ : En} {S : Store} {Q : VK} {g : GE}
/-- the reading of a call by values -/
theorem embCB {r : List V → Hp → VK → Prop} {b : Store → List D → Res D} {fs : En → Store → Res (List D)}
    (k : ∀ (σ : L2.St) (H : Hp) (ρ : Rh) (δ : En) (S : Store) (Q : VK) (ds : List D) (vs : List V), Wld T X σ H ρ δ S → RDs (pr X σ H ρ) ds vs → Good T X W σ H ρ δ Q (b S ds) → r vs H Q) :
    ∀ σ H Q, embE T X W (fun δ S => (fs δ S).bind fun xs S => b S xs) σ H Q → tCB r (embA T X W fs) σ H Q := by
  rintro σ H Q ⟨ρ, δ, S, w, h⟩
  exact ⟨ρ, δ, S, w, embA_bind h fun vs H1 ρ1 ds S1 l1 w1 r1 h1 => k σ H1 ρ1 δ S1 Q ds vs w1 r1 h1⟩
/-- where a built-in function stands -/
inductive BiAt (X : Cx) (x : Str) : Value → Prop where
  | blt {id : String} (hm : X.mg x = none) (hv : bootBuiltins x = some (.builtin id)) (hn : x ≠ "__name__") : BiAt X x (.builtin id)
  | ty {n : String} (hm : X.mg x = none) (hv : bootBuiltins x = some (.type n)) (hn : x ≠ "__name__") : BiAt X x (.type n)
  | own {id : String} (hm : X.mg x = some (.builtin id)) : BiAt X x (.builtin id)
theorem de_callV {x : Str} {p pos : Pos} {e : Expr} {es : List Expr} {f : Value} {r : List V → Hp → VK → Prop} {b : Store → List D → Res D} {fs : En → Store → Res (List D)} (hat : BiAt X x f) (hc : CallR X f r)
    (k : ∀ (σ : L2.St) (H : Hp) (ρ : Rh) (δ : En) (S : Store) (Q : VK) (ds : List D) (vs : List V), Wld T X σ H ρ δ S → RDs (pr X σ H ρ) ds vs → Good T X W σ H ρ δ Q (b S ds) → r vs H Q)
    (hg : Gl X x) (hdb : (x == ("__debug__" : Str)) = false) (he : starEach (e :: es) X.env = (false, eval e X.env) :: starEach es X.env) (hpl : (backTo pos (starEach es X.env)).any (·.1) = false)
    (ha : DA T X W (e :: es) fs) : DE T X W (.Call (.Name x p) (e :: es) [] pos) (fun δ S => (fs δ S).bind fun xs S => b S xs) := by
  cases hat with
  | blt hm hv hn => exact PE_weak (pe_callB hc hg hm hv ha hn hdb he hpl) (embCB k)
  | ty hm hv hn => exact PE_weak (pe_callTy hc hg hm hv ha hn hdb he hpl) (embCB k)
  | own hm => exact PE_weak (pe_callBfun hc hg hm ha hdb he hpl) (embCB k)
def biV : Bi → Value
  | .isinstance => .builtin "isinstance" | .len => .builtin "len" | .all => .builtin "all" | .any => .builtin "any" | .sum => .builtin "sum" | .abs => .builtin "abs"
  | .max => .builtin "max" | .min => .builtin "min" | .int => .type "int" | .str => .type "str" | .tuple => .type "tuple" | .list => .type "list" | .divmod => .builtin "divmod"
  | .sorted => .builtin "sorted" | .gcd => .builtin "math.gcd"
/-! sorting -/
theorem strLe_trans (a b c : Str) (h1 : strLe a b = true) (h2 : strLe b c = true) : strLe a c = true := by
  unfold strLe at *
  have h1 : ¬ b.cps.toList < a.cps.toList := by simpa using h1
  have h2 : ¬ c.cps.toList < b.cps.toList := by simpa using h2
  have : ¬ c.cps.toList < a.cps.toList := List.not_lt.mpr (List.le_trans (List.not_lt.mp h1) (List.not_lt.mp h2))
  simpa using this
theorem strLe_total (a b : Str) : (strLe a b || strLe b a) = true := by
  unfold strLe
  rcases list_lt_total a.cps.toList b.cps.toList with h | h | h
  · have : ¬ b.cps.toList < a.cps.toList := List.not_lt.mpr (List.le_of_lt h)
    simp [this]
  · rw [h]
    have : ¬ b.cps.toList < b.cps.toList := List.lt_irrefl _
    simp [this]
  · have : ¬ a.cps.toList < b.cps.toList := List.not_lt.mpr (List.le_of_lt h)
    simp [this]
theorem strLe_anti (a b : Str) (h1 : strLe a b = true) (h2 : strLe b a = true) : a = b := by
  unfold strLe at *
  have h1 : ¬ b.cps.toList < a.cps.toList := by simpa using h1
  have h2 : ¬ a.cps.toList < b.cps.toList := by simpa using h2
  have e := List.le_antisymm (List.not_lt.mp h1) (List.not_lt.mp h2)
  obtain ⟨⟨x⟩⟩ := a
  obtain ⟨⟨y⟩⟩ := b
  have e : x = y := e
  rw [e]
theorem ltCps_iff : ∀ a b : List Nat, ltCps a b = decide (a < b) := by
  intro a b
  first
    | rfl
    | (induction a generalizing b with
       | nil => cases b <;> simp [ltCps]
       | cons x a ih => cases b with
         | nil => simp [ltCps]
         | cons y b =>
           have e : (x == y) = decide (x = y) := by by_cases h : x = y <;> simp [h]
           simp [ltCps, ih, List.cons_lt_cons_iff, e])
theorem risingS_pw : ∀ (l : List Str) (p : Str), risingS p l = true → (p :: l).Pairwise (fun a b => strLe a b = true)
  | [], p, _ => by simp
  | x :: r, p, h => by
    unfold risingS at h
    rw [Bool.and_eq_true] at h
    have ih := risingS_pw r x h.2
    have e : strLe p x = true := by
      unfold strLe
      rw [ltCps_iff] at h
      exact h.1
    rw [List.pairwise_cons]
    refine ⟨fun b hb => ?_, ih⟩
    rcases List.mem_cons.mp hb with z | z
    · rw [z]
      exact e
    · exact strLe_trans p x b e (List.rel_of_pairwise_cons ih z)
theorem sortedS_pw {l : List Str} (h : sortedS l = true) : l.Pairwise (fun a b => strLe a b = true) := by
  cases l with
  | nil => exact List.Pairwise.nil
  | cons x r => exact risingS_pw r x h
theorem sort_one {ys ss : List Str} (hp : ys.Perm ss) (hs : sortedS ys = true) : ys = ss.mergeSort strLe := by
  refine List.Perm.eq_of_pairwise (le := fun a b => strLe a b = true) (fun a b _ _ h1 h2 => strLe_anti a b h1 h2) (sortedS_pw hs) (List.pairwise_mergeSort strLe_trans strLe_total ss) ?_
  exact hp.trans (List.mergeSort_perm ss strLe).symm
theorem sorted_ok {ds : List D} {vs : List V} (w : Wld T X σ H ρ δ S) (r : RDs (pr X σ H ρ) ds vs) (h : Good T X W σ H ρ δ Q (bSorted S ds)) : rSortedS X.K vs H Q := by
  unfold bSorted at h
  split at h
  · obtain ⟨v, rfl, rx⟩ := r.one
    split at h
    · rename_i ss e
      split at h
      · rename_i hl
        obtain ⟨l, e2, e3⟩ := Option.bind_eq_some_iff.mp e
        obtain ⟨a, xs, ev, s1, r1⟩ := asL_sq w rx e2
        rw [ev]
        rw [strs_of r1 e3] at s1
        refine ⟨a, ss, rfl, s1, hl, fun ys t hp hs ht => ?_⟩
        rw [sort_one hp hs]
        exact fin_new h w ht ⟨t, _, rfl, upd_same, w.sto.out ht, RDs.strs _⟩
      · exact h.elim
    · exact h.elim
  · exact h.elim
/-- a call of a built-in function -/
theorem de_blt {x : Str} {p pos : Pos} {e : Expr} {es : List Expr} {f : Bi} {fs : En → Store → Res (List D)} (hcalm : X.calm = true) (kit : KitOk X.K X.mg g) (hat : BiAt X x (biV f))
    (hg : Gl X x) (hdb : (x == ("__debug__" : Str)) = false) (he : starEach (e :: es) X.env = (false, eval e X.env) :: starEach es X.env) (hpl : (backTo pos (starEach es X.env)).any (·.1) = false)
    (ha : DA T X W (e :: es) fs) : DE T X W (.Call (.Name x p) (e :: es) [] pos) (fun δ S => (fs δ S).bind fun xs S => opBlt g f xs S) := by
  cases f with
  | isinstance => exact de_callV (b := bIsI g) hat call_isI (fun σ H ρ δ S Q ds vs w r h => isin_ok kit w r h) hg hdb he hpl ha
  | len => exact de_callV (b := bLen) hat call_len (fun σ H ρ δ S Q ds vs w r h => len_ok w r h) hg hdb he hpl ha
  | all => exact de_callV (b := bAll) hat (cr_all hcalm) (fun σ H ρ δ S Q ds vs w r h => all_ok w r h) hg hdb he hpl ha
  | any => exact de_callV (b := bAny) hat (cr_any hcalm) (fun σ H ρ δ S Q ds vs w r h => any_ok w r h) hg hdb he hpl ha
  | sum => exact de_callV (b := bSum) hat (cr_sum hcalm) (fun σ H ρ δ S Q ds vs w r h => sum_ok w r h) hg hdb he hpl ha
  | abs => exact de_callV (b := bAbs) hat call_abs (fun σ H ρ δ S Q ds vs w r h => abs_ok w r h) hg hdb he hpl ha
  | max => exact de_callV (b := bMax) hat (call_max2 hcalm) (fun σ H ρ δ S Q ds vs w r h => max_ok w r h) hg hdb he hpl ha
  | min => exact de_callV (b := bMin) hat (call_min2 hcalm) (fun σ H ρ δ S Q ds vs w r h => min_ok w r h) hg hdb he hpl ha
  | int => exact de_callV (b := bInt) hat (call_int1.or call_int_str) (fun σ H ρ δ S Q ds vs w r h => int_ok w r h) hg hdb he hpl ha
  | str => exact de_callV (b := bStr) hat call_str_int (fun σ H ρ δ S Q ds vs w r h => str_ok w r h) hg hdb he hpl ha
  | tuple => exact de_callV (b := bTuple) hat call_tuple_of (fun σ H ρ δ S Q ds vs w r h => tuple_ok w r h) hg hdb he hpl ha
  | list => exact de_callV (b := bList) hat call_list_of (fun σ H ρ δ S Q ds vs w r h => list_ok w r h) hg hdb he hpl ha
  | divmod => exact de_callV (b := bDivmod) hat call_divmod (fun σ H ρ δ S Q ds vs w r h => divmod_ok w r h) hg hdb he hpl ha
  | sorted => exact de_callV (b := bSorted) hat cr_sortedS (fun σ H ρ δ S Q ds vs w r h => sorted_ok w r h) hg hdb he hpl ha
  | gcd => exact de_callV (b := bGcd) hat cr_gcd (fun σ H ρ δ S Q ds vs w r h => gcd_ok w r h) hg hdb he hpl ha

/-! ### methods of the built-in types -/
theorem embBM {ty : String} {r : V → List V → Hp → VK → Prop} {b : Store → D → List D → Res D} {fo : En → Store → Res D} {fs : En → Store → Res (List D)}
    (kt : ∀ (σ : L2.St) (H : Hp) (ρ : Rh) (δ : En) (S : Store) (Q : VK) (x : D) (v : V), Wld T X σ H ρ δ S → RD (pr X σ H ρ) x v → Good T X W σ H ρ δ Q ((fs δ S).bind fun xs S => b S x xs) → tyV X.K ty v H)
    (k : ∀ (σ : L2.St) (H : Hp) (ρ : Rh) (δ : En) (S : Store) (Q : VK) (x : D) (ds : List D) (v : V) (vs : List V), Wld T X σ H ρ δ S → RD (pr X σ H ρ) x v → RDs (pr X σ H ρ) ds vs → Good T X W σ H ρ δ Q (b S x ds) → r v vs H Q) :
    ∀ σ H Q, embE T X W (fun δ S => (fo δ S).bind fun x S => (fs δ S).bind fun xs S => b S x xs) σ H Q → tBM X.K ty r (embE T X W fo) (embA T X W fs) σ H Q := by
  rintro σ H Q ⟨ρ, δ, S, w, h⟩
  exact ⟨ρ, δ, S, w, emb_bind h fun v H1 ρ1 d S1 l1 w1 r1 h1 => ⟨kt σ H1 ρ1 δ S1 Q d v w1 r1 h1, ρ1, δ, S1, w1, embA_bind h1 fun vs H2 ρ2 ds S2 l2 w2 r2 h2 => k σ H2 ρ2 δ S2 Q d ds v vs w2 (r1.le (w1.ple l2)) r2 h2⟩⟩
end
end MM
end
section
set_option Elab.async false
set_option linter.all false
set_option maxRecDepth 100000
set_option maxHeartbeats 4000000
/-! Methods of the built-in types, f-strings, argument lists. -/
namespace MM
open PySem PySem.Spec PyProof.Rows L2
variable [Lams]
def notStar : Expr → Bool
  | .Starred _ _ => false
  | _ => true
theorem starEach_plain {e : Expr} {es : List Expr} {env : Env} (h : notStar e = true) : starEach (e :: es) env = (false, eval e env) :: starEach es env := by
  cases e <;> first | rfl | (unfold notStar at h; cases h)
theorem starEach_any {es : List Expr} {env : Env} {pos : Pos} (h : es.all notStar = true) : (backTo pos (starEach es env)).any (·.1) = false := by
  induction es with
  | nil => rfl
  | cons e r ih =>
    rw [List.all_cons, Bool.and_eq_true] at h
    rw [starEach_plain h.1]
    show (false || (backTo pos (starEach r env)).any (·.1)) = false
    rw [ih h.2]
    rfl
theorem starEach_all {es : List Expr} {env : Env} {pos : Pos} (h : es.all notStar = true) : (backTo pos (starEach es env)).all (fun x => !x.1) = true := by
  induction es with
  | nil => rfl
  | cons e r ih =>
    rw [List.all_cons, Bool.and_eq_true] at h
    rw [starEach_plain h.1]
    show (!false && (backTo pos (starEach r env)).all (fun x => !x.1)) = true
    rw [ih h.2]
    rfl
/-- no super().m -/
def attrPlain : Expr → Bool
  | .Call (.Name id _) [] [] _ => id != ("super" : Str)
  | _ => true
theorem attrBase {o : Expr} {m : Str} {env : Env} {whole : Sem Value} (h : attrPlain o = true) : attributeBase o m env whole = whole := by
  unfold attributeBase
  split
  · rename_i id _ _
    have h2 : (id != ("super" : Str)) = true := h
    have h2 : (id != Str.ofString "super") = true := h2
    rw [h2]
    simp
  · rfl
section
variable {T : List (Addr × Str)} {X : Cx} {W : WX} {σ : L2.St} {H : Hp} {ρ : Rh} {δ : En} {S : Store} {Q : VK} {g : GE}
theorem good_if {c : Prop} [Decidable c] {r : Res D} (h : Good T X W σ H ρ δ Q (if c then r else .bad)) : c ∧ Good T X W σ H ρ δ Q r := by
  split at h
  · exact ⟨‹_›, h⟩
  · exact h.elim
theorem de_mthB {ty : String} {id : String} {name : Str} {r : V → List V → Hp → VK → Prop} {m : Mt} {o e : Expr} {es : List Expr} {apos cpos : Pos} {fo : En → Store → Res D} {fs : En → Store → Res (List D)}
    (pa : PlainAttrs ty) (slot : Slot ty name id) (hty : typeOf (.builtin id) = pure (.type "method_descriptor")) (hm : MtR X id r)
    (kt : ∀ (σ : L2.St) (H : Hp) (ρ : Rh) (δ : En) (S : Store) (x : D) (v : V), Wld T X σ H ρ δ S → RD (pr X σ H ρ) x v → mtOk S m x = true → tyV X.K ty v H)
    (k : ∀ (σ : L2.St) (H : Hp) (ρ : Rh) (δ : En) (S : Store) (Q : VK) (x : D) (ds : List D) (v : V) (vs : List V), Wld T X σ H ρ δ S → RD (pr X σ H ρ) x v → RDs (pr X σ H ρ) ds vs → Good T X W σ H ρ δ Q (opMth m S x ds) → r v vs H Q)
    (hb : attrPlain o = true) (hl : (apos.endLine == cpos.line) = true) (hn : (e :: es).length < 30) (hs : (e :: es).all notStar = true) (ho : DE T X W o fo) (ha : DA T X W (e :: es) fs) :
    DE T X W (.Call (.Attribute o name apos) (e :: es) [] cpos) (fun δ S => (fo δ S).bind fun x S => if mtOk S m x then (fs δ S).bind fun xs S => opMth m S x xs else .bad) := by
  have hs' := hs
  rw [List.all_cons, Bool.and_eq_true] at hs'
  refine PE_weak (pe_bm pa slot hty hm ho ha (attrBase hb) ?_ hl (starEach_plain hs'.1) (starEach_any hs'.2)) ?_
  · rw [starEach_all hs]
    show (true && true && decide ((e :: es).length + 0 + 0 < 30)) = true
    rw [decide_eq_true (by omega)]
    rfl
  · rintro σ H Q ⟨ρ, δ, S, w, h⟩
    refine ⟨ρ, δ, S, w, emb_bind h fun v H1 ρ1 d S1 l1 w1 r1 h1 => ?_⟩
    obtain ⟨hc, h1⟩ := good_if h1
    exact ⟨kt σ H1 ρ1 δ S1 d v w1 r1 hc, ρ1, δ, S1, w1, embA_bind h1 fun vs H2 ρ2 ds S2 l2 w2 r2 h2 => k σ H2 ρ2 δ S2 Q d ds v vs w2 (r1.le (w1.ple l2)) r2 h2⟩
abbrev rSplit : V → List V → Hp → VK → Prop := fun x xs H Q => ∃ a b, x = .str a ∧ xs = [.str b] ∧ (b.length == 0) = false ∧ a.length + 2 ≤ sizeLine ∧ rNewStrs (Txt.split a b) H Q
theorem str_ty {m : Mt} {x : D} {v : V} (hm : m = .split ∨ m = .join) (r : RD (pr X σ H ρ) x v) (h : mtOk S m x = true) : tyV X.K "str" v H := by
  cases x with
  | str z => rw [show v = .str z from r]; rfl
  | _ => rcases hm with hm | hm <;> rw [hm] at h <;> cases h
theorem lst_ty {m : Mt} {x : D} {v : V} (hm : m = .append ∨ m = .extend) (w : Wld T X σ H ρ δ S) (r : RD (pr X σ H ρ) x v) (h : mtOk S m x = true) : tyV X.K "list" v H := by
  cases x with
  | ref k =>
    have e : ∃ l, S[k]? = some (.lst l) := by
      rcases hm with hm | hm <;> rw [hm] at h <;> unfold mtOk at h <;> dsimp only at h <;> split at h <;> first | exact ⟨_, ‹_›⟩ | cases h
    obtain ⟨l, hl⟩ := e
    obtain ⟨a, e1, e2⟩ := r
    obtain ⟨xs, h1, _⟩ := w.sto.ob k a _ e2 hl
    rw [e1]
    exact .inl ⟨rfl, xs, SqL.of h1⟩
  | _ => rcases hm with hm | hm <;> rw [hm] at h <;> cases h
theorem split_ok {x : D} {ds : List D} {v : V} {vs : List V} (w : Wld T X σ H ρ δ S) (rx : RD (pr X σ H ρ) x v) (r : RDs (pr X σ H ρ) ds vs) (h : Good T X W σ H ρ δ Q (mSplit S x ds)) : rSplit v vs H Q := by
  unfold mSplit at h
  split at h
  · rename_i a b
    obtain ⟨y, rfl, ry⟩ := r.one
    split at h
    · exact h.elim
    · rename_i hb
      obtain ⟨hl, h⟩ := good_if h
      exact ⟨a, b, rx.str, by rw [ry.str], by simpa using hb, by rw [← line_eq]; exact hl, fun t ht => fin_new h w ht ⟨t, _, rfl, upd_same, w.sto.out ht, RDs.strs _⟩⟩
  · exact h.elim
theorem append_ok {x : D} {ds : List D} {v : V} {vs : List V} (w : Wld T X σ H ρ δ S) (rx : RD (pr X σ H ρ) x v) (r : RDs (pr X σ H ρ) ds vs) (h : Good T X W σ H ρ δ Q (mAppend S x ds)) : rAppend v vs H Q := by
  unfold mAppend at h
  split at h
  · rename_i k d
    obtain ⟨y, rfl, ry⟩ := r.one
    split at h
    · rename_i xs hl
      obtain ⟨a, e1, e2⟩ := rx
      obtain ⟨us, h1, h2⟩ := w.sto.ob k a _ e2 hl
      split at h
      · exact h.elim
      · rename_i hc
        have hc : d.hasClo = false := by simpa using hc
        obtain ⟨hz, h⟩ := good_if h
        have hp : a ∈ ρ.l := List.mem_of_getElem? e2
        have le : Le H ρ (L2.upd H a (.lst (us ++ [y]))) ρ := Le.put hp
        have so := w.sto.put (m := .lst (xs ++ [d])) (o := .lst (us ++ [y])) e2 ⟨us ++ [y], upd_same, (h2.le (w.sto.ple le fun _ _ z => z)).append ⟨y, [], rfl, RD.noclo (p := pr X σ (L2.upd H a (.lst (us ++ [y]))) ρ) (p' := pr0 X.K X.mg (L2.upd H a (.lst (us ++ [y]))) ρ) rfl rfl rfl rfl d y hc (ry.le (w.ple le)), rfl⟩⟩
        refine ⟨a, us, y, e1, rfl, h1, by rw [← line_eq, ← h2.length]; exact hz, ?_⟩
        exact h _ _ ρ le (w.next le so (tabs_put w.tabs h1 (fun _ z => by cases z) (fun _ z => by cases z))) rfl
    · exact h.elim
  · exact h.elim
theorem extend_ok {x : D} {ds : List D} {v : V} {vs : List V} (w : Wld T X σ H ρ δ S) (rx : RD (pr X σ H ρ) x v) (r : RDs (pr X σ H ρ) ds vs) (h : Good T X W σ H ρ δ Q (mExtend S x ds)) : rExtend v vs H Q := by
  unfold mExtend at h
  split at h
  · rename_i k ys
    obtain ⟨y, rfl, ry⟩ := r.one
    split at h
    · rename_i xs hl
      obtain ⟨a, e1, e2⟩ := rx
      obtain ⟨us, h1, h2⟩ := w.sto.ob k a _ e2 hl
      obtain ⟨b, zs, e3, h3, nb, h4⟩ := ry
      split at h
      · exact h.elim
      · rename_i hc
        have hc : D.hasCloL ys = false := by simpa using hc
        obtain ⟨hz, h⟩ := good_if h
        have hp : a ∈ ρ.l := List.mem_of_getElem? e2
        have le : Le H ρ (L2.upd H a (.lst (us ++ zs))) ρ := Le.put hp
        have so := w.sto.put (m := .lst (xs ++ ys)) (o := .lst (us ++ zs)) e2 ⟨us ++ zs, upd_same, (h2.le (w.sto.ple le fun _ _ z => z)).append (RDs.noclo (p := pr X σ (L2.upd H a (.lst (us ++ zs))) ρ) (p' := pr0 X.K X.mg (L2.upd H a (.lst (us ++ zs))) ρ) rfl rfl rfl rfl ys zs hc (h4.le (w.ple le)))⟩
        refine ⟨a, b, us, zs, e1, by rw [e3], h1, h3, by rw [← line_eq, ← h2.length, ← h4.length]; exact hz, ?_⟩
        exact h _ _ ρ le (w.next le so (tabs_put w.tabs h1 (fun _ z => by cases z) (fun _ z => by cases z))) rfl
    · exact h.elim
  · exact h.elim
abbrev rJoin (K : PySem.W.Frag) : V → List V → Hp → VK → Prop := fun x xs H Q => ∃ a p, ∃ ys : List Str, x = .str a ∧ xs = [.ref p] ∧ (SqL K H p (ys.map V.str) ∨ SqT K H p (ys.map V.str)) ∧
  (ys.map (·.length)).sum + ys.length * a.length ≤ 16777216 ∧ Q (.str (Txt.join a ys)) H
theorem join_ok {x : D} {ds : List D} {v : V} {vs : List V} (w : Wld T X σ H ρ δ S) (rx : RD (pr X σ H ρ) x v) (r : RDs (pr X σ H ρ) ds vs) (h : Good T X W σ H ρ δ Q (mJoin S x ds)) : rJoin X.K v vs H Q := by
  unfold mJoin at h
  split at h
  · rename_i a y
    obtain ⟨u, rfl, ru⟩ := r.one
    split at h
    · rename_i ys e
      obtain ⟨hz, h⟩ := good_if h
      unfold strJoin at e
      split at e
      · obtain ⟨p, xs, ev, s1, r1⟩ := ru
        rw [strs_of r1 e] at s1
        rw [ev]
        exact ⟨a, p, ys, rx.str, rfl, .inr s1, hz, fin h w rfl⟩
      · obtain ⟨l, e2, e3⟩ := Option.bind_eq_some_iff.mp e
        obtain ⟨p, xs, ev, s1, r1⟩ := asL_sq w ru e2
        rw [strs_of r1 e3] at s1
        rw [ev]
        exact ⟨a, p, ys, rx.str, rfl, .inl s1, hz, fin h w rfl⟩
    · exact h.elim
  · exact h.elim

/-! ### d.get(k, x) -/
theorem get_dic {κ : Type} [DecidableEq κ] {p : PR} : ∀ (kvs : List (κ × V)) (vs : List D) (k : κ) (y : D) (u : V), RDs p vs (kvs.map (·.2)) → RD p y u → RD p ((dicGet (kvs.map (·.1)) vs k).getD y) ((valV kvs k).getD u)
  | [], vs, k, y, u, h, hy => by
    have e : vs = [] := h.nil_iff.mpr rfl
    rw [e]
    exact hy
  | (k', v) :: r, [], k, y, u, h, hy => by
    have e : v :: r.map (·.2) = [] := h
    cases e
  | (k', v) :: r, d :: vs, k, y, u, h, hy => by
    obtain ⟨v', ys, e, h1, h2⟩ := h
    have e : v :: r.map (·.2) = v' :: ys := e
    injection e with e1 e2
    subst e1
    subst e2
    rw [List.map_cons]
    unfold dicGet
    by_cases z : k' = k
    · rw [if_pos z, valV_pos z]
      exact h1
    · rw [if_neg z, valV_neg z]
      exact get_dic r vs k y u h2 hy
theorem toKey_ok {p : PR} {d : D} {v : V} {k : Key} (r : RD p d v) (e : toKey d = some k) : v = kV k := by
  unfold toKey at e
  split at e <;> cases e <;> exact r
theorem toKeysL_ok {p : PR} : ∀ {ds : List D} {vs : List V} {ks : List Key}, RDs p ds vs → toKeysL ds = some ks → vs = ks.map kV
  | [], vs, ks, r, e => by
    have e1 : vs = [] := r
    cases e
    rw [e1]
    rfl
  | d :: ds, vs, ks, r, e => by
    obtain ⟨y, ys, e1, h1, h2⟩ := r
    unfold toKeysL at e
    split at e
    · rename_i k hk
      obtain ⟨ks', e2, e3⟩ := Option.map_eq_some_iff.mp e
      rw [e1, ← e3, toKey_ok h1 hk, toKeysL_ok h2 e2]
      rfl
    · cases e
theorem key_ofT {X : Cx} {pins : List (Addr × Obj)} {σ : L2.St} {H : Hp} {s : Shared} {a : Addr} {ks : List Key} (I : Inv X pins σ H s) (e : SqT X.K H a (ks.map kV)) : (tupleKind (mixKind X.prog X.w)).is s.heap ks a := by
  rcases e with e | ⟨o, its, n, h1, h2, h3, h4, h5⟩
  · obtain ⟨_, its, r, o, h1, h2, n, h3⟩ := (show ObjOk X.prog X.w H s.heap a (.tup (ks.map kV)) from rd_of I.hok e)
    exact ⟨o, its.toArray, n, h1, h2, h3, by simpa using items_are r⟩
  · exact ⟨o, its, n, I.kIn _ _ h1, h2, h3, by simpa using items_are h5⟩
/-- what a dict holds at a key, keys that are tuples of any kind -/
def DGetT (K : PySem.W.Frag) (H : Hp) (a : Addr) (y : V) (r : Option V) : Prop :=
  (∃ kvs k, H a = some (.dK kvs) ∧ y = kV k ∧ r = valV kvs k) ∨ ∃ kvs k b, H a = some (.dT kvs) ∧ y = .ref b ∧ SqT K H b (k.map kV) ∧ r = valV kvs k
theorem d_get2T {X : Cx} {pins : List (Addr × Obj)} {σ : L2.St} {H : Hp} {s : Shared} {a : Addr} {y d : V} {u r : Value} {o : Option V} {A : Around} {E : Value → Shared → Prop} {Q : Value → Shared → Prop} (hu : A.units + 1 < cLine) (I : Inv X pins σ H s) (g : DGetT X.K H a y o) (ry : RelV y u) (rd : RelV d r)
    (h : ∀ w' s', Inv X pins σ H s' → RelV (o.getD d) w' → Q w' s') : wpAny (model X.prog X.w) A (call (.builtin "dict.get") [.ref a, u, r]) Q E s := by
  rcases g with ⟨kvs, k, e, ey, l⟩ | ⟨kvs, k, b, e, ey, eb, l⟩
  · exact d_get2 hu I (.inl ⟨kvs, k, .inl e, ey, l⟩) ry rd h
  · subst ey
    cases (show u = Value.ref b from ry)
    obtain ⟨z, hd, xs, rel, dd⟩ := dt_of I.hok e
    refine call_meetsIn PySem.F.slot_dict_get dd.typeIs PySem.F.entry_dict_get (PySem.F.args_dict_get_3 _ _ _) (meetsH_dict_get_default (tupleKind (mixKind X.prog X.w)) a b hd r) ⟨tupleKind_room_in1 hu, k, xs, key_ofT I eb, dd, h _ _ (I.tok _) ?_⟩
    rw [l]
    exact (rel.val k).getD rd
theorem pe_dgetT {X : Cx} {o e f : Expr} {apos cpos : Pos} {td : TE} {tx : TA} (hu : X.A.units + 1 < cLine) (ho : PE X o td) (ha : PA X [e, f] tx) (m : M2 X o "get" apos e f cpos) : PE X (.Call (.Attribute o "get" apos) [e, f] [] cpos)
    (fun σ H Q => td σ H fun x H1 => ∃ a, x = .ref a ∧ IsD H1 a ∧ tx σ H1 fun ys H3 => ∃ y z o, ys = [y, z] ∧ DGetT X.K H3 a y o ∧ Q (o.getD z) H3) := by
  refine ⟨fun pins s σ H Q I h => ?_⟩
  refine wpAny_Call_method m.base m.few m.line PySem.F.plainAttrs_dict PySem.F.slot_dict_get PySem.F.type_dict_get (thn (ho.run pins s σ H _ I h) fun u s1 ⟨x, H1, I1, rx, a, ex, d, q1⟩ => ?_)
  subst ex
  obtain rfl : u = Value.ref a := rx
  obtain ⟨t1, t2, _⟩ := isD_at I1 d
  refine ⟨t1, t2, ?_⟩
  have hr := ha.run cpos pins s1 σ H1 _ I1 q1
  rw [m.trees] at hr ⊢
  refine Calls.callWith_builtin rfl (Calls.evalArgs_plain (thn hr ?_))
  rintro us s3 ⟨ys, H3, I3, rys, y, z, ov, rfl, g, q3⟩
  cases rys with
  | cons ry r2 =>
    cases r2 with
    | cons rz r3 =>
      cases r3
      exact d_get2T hu I3 g ry rz fun w' s4 I4 rw' => ⟨_, H3, I4, rw', q3⟩
theorem de_get {o e f : Expr} {apos cpos : Pos} {fo : En → Store → Res D} {fs : En → Store → Res (List D)} (hu : X.A.units + 1 < cLine) (hb : attrPlain o = true) (hl : (apos.endLine == cpos.line) = true) (hs : [e, f].all notStar = true) (ho : DE T X W o fo) (ha : DA T X W [e, f] fs) :
    DE T X W (.Call (.Attribute o "get" apos) [e, f] [] cpos) (fun δ S => (fo δ S).bind fun x S => if mtOk S .get x then (fs δ S).bind fun xs S => opMth .get S x xs else .bad) := by
  have hs' := hs
  rw [List.all_cons, List.all_cons, Bool.and_eq_true, Bool.and_eq_true] at hs'
  refine PE_weak (pe_dgetT hu ho ha ⟨attrBase hb, ?_, hl, ?_⟩) ?_
  · rw [starEach_all hs]
    rfl
  · rw [starEach_plain hs'.1, starEach_plain hs'.2.1]
    rfl
  · rintro σ H Q ⟨ρ, δ, S, w, h⟩
    refine ⟨ρ, δ, S, w, emb_bind h fun v H1 ρ1 d S1 l1 w1 r1 h1 => ?_⟩
    obtain ⟨hc, h1⟩ := good_if h1
    have hd : ∃ a, v = .ref a ∧ IsD H1 a := by
      cases d with
      | dic ks vs => obtain ⟨a, kvs, e, _, q, _⟩ := r1; exact ⟨a, e, .inl ⟨kvs, .inl q⟩⟩
      | dct ks vs => obtain ⟨a, kvs, e, _, q, _⟩ := r1; exact ⟨a, e, .inr ⟨kvs, .inl q⟩⟩
      | _ => cases hc
    obtain ⟨a, ev', hi⟩ := hd
    refine ⟨a, ev', hi, ρ1, δ, S1, w1, embA_bind h1 fun vs H2 ρ2 ds S2 l2 w2 r2 h2 => ?_⟩
    have r1' := r1.le (w1.ple l2)
    have h2 : Good T X W σ H2 ρ2 δ Q (mGet S2 d ds) := h2
    unfold mGet at h2
    split at h2
    · rename_i ks vs x y
      obtain ⟨u, z, rfl, ru, rz⟩ := r2.two
      split at h2
      · rename_i k hk
        obtain ⟨a', kvs, e', _, q, ek, rv⟩ := r1'
        rw [ev'] at e'
        cases e'
        refine ⟨u, z, _, rfl, .inl ⟨kvs, k, q, toKey_ok ru hk, rfl⟩, fin h2 w2 ?_⟩
        rw [ek]
        exact get_dic kvs _ k _ _ rv rz
      · exact h2.elim
    · rename_i ks vs x y
      obtain ⟨u, z, rfl, ru, rz⟩ := r2.two
      split at h2
      · rename_i k hk
        obtain ⟨a', kvs, e', _, q, ek, rv⟩ := r1'
        rw [ev'] at e'
        cases e'
        have hkk : ∃ b, u = .ref b ∧ SqT X.K H2 b (k.map kV) := by
          unfold toKeys at hk
          split at hk
          · obtain ⟨b, xs, e1, s1, r3⟩ := ru
            rw [toKeysL_ok r3 hk] at s1
            exact ⟨b, e1, s1⟩
          · cases hk
        obtain ⟨b, eb, sb⟩ := hkk
        refine ⟨u, z, _, rfl, .inr ⟨kvs, k, b, q, eb, sb, rfl⟩, fin h2 w2 ?_⟩
        rw [ek]
        exact get_dic kvs _ k _ _ rv rz
      · exact h2.elim
    · exact h2.elim
/-- the built-in methods -/
theorem de_mth {m : Mt} {nm : Str} {o e : Expr} {es : List Expr} {apos cpos : Pos} {fo : En → Store → Res D} {fs : En → Store → Res (List D)} (hu : X.A.units + 1 < cLine) (hnm : (m = .split ∧ nm = "split") ∨ (m = .join ∧ nm = "join") ∨ (m = .append ∧ nm = "append") ∨ (m = .extend ∧ nm = "extend") ∨ (m = .get ∧ nm = "get" ∧ es.length = 1))
    (hb : attrPlain o = true) (hl : (apos.endLine == cpos.line) = true) (hn : (e :: es).length < 30) (hs : (e :: es).all notStar = true) (ho : DE T X W o fo) (ha : DA T X W (e :: es) fs) :
    DE T X W (.Call (.Attribute o nm apos) (e :: es) [] cpos) (fun δ S => (fo δ S).bind fun x S => if mtOk S m x then (fs δ S).bind fun xs S => opMth m S x xs else .bad) := by
  rcases hnm with ⟨rfl, rfl⟩ | ⟨rfl, rfl⟩ | ⟨rfl, rfl⟩ | ⟨rfl, rfl⟩ | ⟨rfl, rfl, h1⟩
  · exact de_mthB PySem.F.plainAttrs_str PySem.F.slot_str_split PySem.F.type_str_split mt_split (fun σ H ρ δ S x v w r h => str_ty (.inl rfl) r h) (fun σ H ρ δ S Q x ds v vs w rx r h => split_ok w rx r h) hb hl hn hs ho ha
  · exact de_mthB PySem.F.plainAttrs_str PySem.F.slot_str_join PySem.F.type_str_join mt_join (fun σ H ρ δ S x v w r h => str_ty (.inr rfl) r h) (fun σ H ρ δ S Q x ds v vs w rx r h => join_ok w rx r h) hb hl hn hs ho ha
  · exact de_mthB PySem.F.plainAttrs_list PySem.F.slot_list_append PySem.F.type_list_append mt_append (fun σ H ρ δ S x v w r h => lst_ty (.inl rfl) w r h) (fun σ H ρ δ S Q x ds v vs w rx r h => append_ok w rx r h) hb hl hn hs ho ha
  · exact de_mthB PySem.F.plainAttrs_list PySem.F.slot_list_extend PySem.F.type_list_extend mt_extend (fun σ H ρ δ S x v w r h => lst_ty (.inr rfl) w r h) (fun σ H ρ δ S Q x ds v vs w rx r h => extend_ok w rx r h) hb hl hn hs ho ha
  · obtain ⟨f, rfl⟩ : ∃ f, es = [f] := by
      cases es with
      | nil => cases h1
      | cons f r => cases r with
        | nil => exact ⟨f, rfl⟩
        | cons _ _ => simp at h1
    exact de_get hu hb hl hs ho ha

/-! ### f-strings -/
theorem de_fmt {e : Expr} {pos : Pos} {fe : En → Store → Res D} (he : DE T X W e fe) : DE T X W (.FormattedValue e (-1) none pos) (fun δ S => (fe δ S).bind fmtR) := by
  refine PE_weak (pe_fmt he) ?_
  rintro σ H Q ⟨ρ, δ, S, w, h⟩
  refine ⟨ρ, δ, S, w, emb_bind h fun v H1 ρ1 d S1 l1 w1 r1 h1 => ?_⟩
  unfold fmtR at h1
  split at h1
  · rename_i y hy
    unfold fmtD at hy
    split at hy
    · split at hy
      · rename_i hz
        cases hy
        exact .inl ⟨_, r1, by rw [← line_eq]; exact hz, fin h1 w1 rfl⟩
      · cases hy
    · split at hy
      · rename_i hz
        cases hy
        exact .inr ⟨_, r1, hz, fin h1 w1 rfl⟩
      · cases hy
    · cases hy
  · exact h1.elim
end
end MM
end
section
set_option Elab.async false
set_option linter.all false
set_option maxRecDepth 100000
set_option maxHeartbeats 4000000
/-! f-strings, written dicts. -/
namespace MM
open PySem PySem.Spec PyProof.Rows L2
variable [Lams]
section
variable {T : List (Addr × Str)} {X : Cx} {W : WX} {σ : L2.St} {H : Hp} {ρ : Rh} {δ : En} {S : Store} {Q : VK} {g : GE}
def evFf : List (En → Store → Res D) → Str → En → Store → Res Str
  | [], acc, _, S => .ok acc S
  | t :: r, acc, δ, S => (t δ S).bind fun x S => match x with
    | .str y => if (acc ++ y).length ≤ line then evFf r (acc ++ y) δ S else .bad
    | _ => .bad
theorem evF_eq (g : GE) : ∀ (ts : List Tm) (acc : Str) (δ : En) (S : Store), evF g ts acc δ S = evFf (ts.map fun t δ S => (ev g t δ S).bind fmtR) acc δ S
  | [], acc, δ, S => by
    unfold evF
    rfl
  | t :: r, acc, δ, S => by
    unfold evF
    show _ = Res.bind _ _
    congr 1
    funext x S'
    cases x with
    | str y =>
      dsimp only
      rw [evF_eq g r]
    | _ => rfl
inductive DJ (T : List (Addr × Str)) (X : Cx) (W : WX) : List Expr → List (En → Store → Res D) → Prop where
  | nil : DJ T X W [] []
  | cons {e : Expr} {f : En → Store → Res D} {es : List Expr} {fs : List (En → Store → Res D)} (h : DE T X W e f) (r : DJ T X W es fs) : DJ T X W (e :: es) (f :: fs)
theorem DJ.pj {es : List Expr} {fs : List (En → Store → Res D)} (h : DJ T X W es fs) : PJ X es (fs.map (embE T X W)) := by
  induction h with
  | nil => exact .nil
  | cons h r ih => exact .cons h ih
theorem dj_run : ∀ (fs : List (En → Store → Res D)) (acc : Str) (H : Hp) (ρ : Rh) (S : Store) (R : Str → Hp → Prop), Wld T X σ H ρ δ S →
    Good T X W σ H ρ δ (fun v H' => ∃ y, v = .str y ∧ R y H') ((evFf fs acc δ S).bind fun s S => .ok (.str s) S) → tJs (fs.map (embE T X W)) acc σ H R
  | [], acc, H, ρ, S, R, w, h => by
    obtain ⟨y, e, q⟩ := fin h w rfl
    cases e
    exact q
  | f :: r, acc, H, ρ, S, R, w, h => by
    refine ⟨ρ, δ, S, w, ?_⟩
    have h : Good T X W σ H ρ δ (fun v H' => ∃ y, v = .str y ∧ R y H') ((f δ S).bind fun x S => (match x with
      | .str y => if (acc ++ y).length ≤ line then evFf r (acc ++ y) δ S else .bad
      | _ => .bad : Res Str).bind fun s S => .ok (.str s) S) := by
      unfold evFf at h
      generalize f δ S = z at h ⊢
      cases z with
      | ok d S' => exact h
      | exc _ _ _ _ => exact h
      | bad => exact h
    refine emb_bind h fun v H1 ρ1 d S1 l1 w1 r1 h1 => ?_
    cases d with
    | str y =>
      dsimp only at h1
      by_cases hz : (acc ++ y).length ≤ line
      · rw [if_pos hz] at h1
        exact ⟨y, r1, by rw [← line_eq]; exact hz, dj_run r (acc ++ y) H1 ρ1 S1 R w1 h1⟩
      · rw [if_neg hz] at h1
        exact h1.elim
    | _ => exact h1.elim
theorem de_fstr {v1 v2 : Expr} {rest : List Expr} {pos : Pos} {fs : List (En → Store → Res D)} (h : DJ T X W (v1 :: v2 :: rest) fs) : DE T X W (.JoinedStr (v1 :: v2 :: rest) pos) (fun δ S => (evFf fs Str.empty δ S).bind fun s S => .ok (.str s) S) := by
  refine PE_weak (pe_joined h.pj) ?_
  rintro σ H Q ⟨ρ, δ, S, w, h⟩
  refine dj_run fs Str.empty H ρ S _ w ?_
  have h : Good T X W σ H ρ δ Q ((evFf fs Str.empty δ S).bind fun s S => .ok (.str s) S) := h
  generalize (evFf fs Str.empty δ S) = z at h ⊢
  cases z with
  | ok d S' => exact fun v H' ρ' l w' r => ⟨d, r, by rw [← show v = .str d from r]; exact h v H' ρ' l w' r⟩
  | exc _ _ _ _ => exact h
  | bad => exact h
theorem de_fstr1 {v1 : Expr} {pos : Pos} {f : En → Store → Res D} (h : DE T X W v1 f) : DE T X W (.JoinedStr [v1] pos) (fun δ S => (evFf [f] Str.empty δ S).bind fun s S => .ok (.str s) S) := by
  refine PE_weak (pe_joined1 h) ?_
  rintro σ H Q ⟨ρ, δ, S, w, h⟩
  refine ⟨ρ, δ, S, w, ?_⟩
  have h : Good T X W σ H ρ δ Q ((evFf [f] Str.empty δ S).bind fun s S => .ok (.str s) S) := h
  unfold evFf at h
  generalize f δ S = z at h ⊢
  cases z with
  | ok d S' =>
    cases d with
    | str y =>
      have h : Good T X W σ H ρ δ Q ((if (Str.empty ++ y).length ≤ line then evFf [] (Str.empty ++ y) δ S' else .bad : Res Str).bind fun s S => .ok (.str s) S) := h
      have e : Str.empty ++ y = y := by
        obtain ⟨⟨l⟩⟩ := y
        show Str.mk (#[] ++ ⟨l⟩) = _
        simp
      rw [e] at h
      split at h
      · exact h
      · exact h.elim
    | _ => exact h.elim
  | exc _ _ _ _ => exact h
  | bad => exact h.elim
/-- a constant part -/
theorem de_fcon {x : Str} {j : Nat} {pos : Pos} : True := trivial

/-! ### written dicts -/
/-- what holds of the written dicts -/
structure KdOk (K : PySem.W.Frag) (w : World) (mg : Str → Option Value) (g : GE) : Prop where
  ex : ∀ x kvs, g.kd x = some kvs → ∃ d es n, mg x = some (.ref d) ∧ KDict K w d es n ∧ ∀ z, ∃ r, PySem.W.nsIn K d z = some r ∧ r.isSome = (kvs.lookup z).isSome ∧ ∀ dv u, kvs.lookup z = some dv → r = some u → ∃ v, RelV v u ∧ ∀ H ρ cp, RD ⟨K, mg, H, ρ, cp⟩ dv v
theorem de_kin {ng : Bool} {x : Str} {a : Expr} {p pos : Pos} {f : En → Store → Res D} (ok : KdOk X.K X.w X.mg g) (hg : Gl X x) (hd : (x == ("__debug__" : Str)) = false) (ha : DE T X W a f) :
    DE T X W (.Compare a [if ng then .NotIn else .In] [.Name x p] pos) (fun δ S => (f δ S).bind fun y S => match g.kd x, y with
      | some kvs, .str z => .ok (.bl (ng != (kvs.lookup z).isSome)) S
      | _, _ => .bad) := by
  cases hk : g.kd x with
  | none =>
    refine ⟨fun pins s σ H Q I h => ?_⟩
    obtain ⟨ρ, δ, S, w, h⟩ := h
    refine wpAny_Compare1 (thn (ha.run pins s σ H (fun v H1 => False) I ⟨ρ, δ, S, w, emb_bind h fun v H1 ρ1 d S1 l1 w1 r1 h1 => h1.elim⟩) fun v s1 ⟨_, _, _, _, z⟩ => z.elim) ?_
    cases ng <;> rfl
  | some kvs =>
    obtain ⟨d, es, n, hm, D, hz⟩ := ok.ex x kvs hk
    have hb : PE X (.Name x p) (tC (.ref d)) := pe_glob (v := .ref d) hg hm rfl hd
    cases ng with
    | false =>
      refine PE_weak (pe_cmpR (op_in_kd D) ha hb rfl) ?_
      rintro σ H Q ⟨ρ, δ, S, w, h⟩
      refine ⟨ρ, δ, S, w, emb_bind h fun v H1 ρ1 dv S1 l1 w1 r1 h1 => ?_⟩
      cases dv with
      | str z =>
        obtain ⟨r, e1, e2, _⟩ := hz z
        exact ⟨z, r, r1, rfl, e1, fin h1 w1 (by rw [e2]; simp [RD])⟩
      | _ => exact h1.elim
    | true =>
      refine PE_weak (pe_cmpR (op_notIn_kd D) ha hb rfl) ?_
      rintro σ H Q ⟨ρ, δ, S, w, h⟩
      refine ⟨ρ, δ, S, w, emb_bind h fun v H1 ρ1 dv S1 l1 w1 r1 h1 => ?_⟩
      cases dv with
      | str z =>
        obtain ⟨r, e1, e2, _⟩ := hz z
        exact ⟨z, r, r1, rfl, e1, fin h1 w1 (by rw [e2]; simp [RD])⟩
      | _ => exact h1.elim
theorem de_kget {x : Str} {b : Expr} {p pos : Pos} {kvs : List (Str × D)} {f : En → Store → Res D} (ok : KdOk X.K X.w X.mg g) (hk : g.kd x = some kvs) (hg : Gl X x) (hd : (x == ("__debug__" : Str)) = false) (hb : DE T X W b f) (hs : PlainIx b) :
    DE T X W (.Subscript (.Name x p) b pos) (fun δ S => (f δ S).bind fun y S => match g.kd x, y with
      | some kvs, .str z => optR S (kvs.lookup z)
      | _, _ => .bad) := by
    obtain ⟨d, es, n, hm, D, hz⟩ := ok.ex x kvs hk
    rw [hk]
    have ha : PE X (.Name x p) (tC (.ref d)) := pe_glob (v := .ref d) hg hm rfl hd
    refine PE_weak (pe_ix ix_kdict ha hb hs) ?_
    rintro σ H Q ⟨ρ, δ, S, w, h⟩
    refine ⟨ρ, δ, S, w, emb_bind h fun v H1 ρ1 dv S1 l1 w1 r1 h1 => ?_⟩
    cases dv with
    | str z =>
      obtain ⟨r, e1, e2, e3⟩ := hz z
      dsimp only at h1
      cases el : kvs.lookup z with
      | none =>
        rw [el] at h1
        exact h1.elim
      | some dv =>
        rw [el] at h1
        rw [el] at e2
        cases r with
        | none => cases e2
        | some u =>
          obtain ⟨v0, h3, h4⟩ := e3 dv u el rfl
          exact ⟨d, z, v0, rfl, r1, ⟨es, n, u, D.at_, D.lit, e1, h3⟩, fin h1 w1 (h4 _ _ _)⟩
    | _ => exact h1.elim
end
end MM
end
section
set_option Elab.async false
set_option linter.all false
set_option maxRecDepth 100000
set_option maxHeartbeats 4000000
/-! enumerate of a tuple. -/
namespace MM
open PySem PySem.Spec PyProof.Rows L2
variable [Lams]
theorem meets_enumerate_new1 {v : Value} {o : Obj} {H : Heap → Prop} (B : Begins v o H) :
    Meets (Builtin.«enumerate.__new__» ⟨[.type "enumerate", v], []⟩) (fun _ R s => H s.heap ∧
      R (.ok (.ret (.ref (s.heap.push o).objs.size))) { s with heap := (s.heap.push o).push { cls := .type "enumerate", data := .fields #[.none, .bool false, .ref s.heap.objs.size, rawInt 0, .none, .none] } }) :=
  .of_wp fun prog w A R s h => by
    obtain ⟨hp, g, d, tk, os⟩ := s; obtain ⟨h1, h⟩ := h
    have hsub := sub_enumerate
    have q1 : ∀ {A' : Around} {E : Value → Shared → Prop} {Q : Value → Shared → Prop}, Q (.ref hp.objs.size) ⟨hp.push o, g, d, tk, os⟩ → wpAny (model prog w) A' (pyIter v) Q E ⟨hp, g, d, tk, os⟩ :=
      fun q => B.iter prog w _ _ ⟨hp, g, d, tk, os⟩ _ h1 q
    wp_walk using q1
    refine wpAny_stack_any fun st => wpAny_pure ?_
    split
    · rename_i c _ _ _ _ _
      cases (c == Value.type "enumerate")
      · wp_walk using q1
        exact ⟨_, rfl, h⟩
      · wp_walk using q1
        exact ⟨_, rfl, h⟩
    · wp_walk using q1
      exact ⟨_, rfl, h⟩
section
variable {prog : Program} {w : World} {A : Around} {E : Value → Shared → Prop} {s : Shared}
theorem enum1_begins {v : Value} {o : Obj} {H : Heap → Prop} {Q : Value → Shared → Prop} (B : Begins v o H) (h1 : H s.heap)
    (h : ∀ h', IsEnum h' (s.heap.objs.size + 1) s.heap.objs.size 0 .none → h'.get? s.heap.objs.size = some o → h'.objs.size = s.heap.objs.size + 2 →
      (∀ b o, s.heap.get? b = some o → h'.get? b = some o) → Q (.ref (s.heap.objs.size + 1)) { s with heap := h' }) :
    wpAny (model prog w) A (call (.type "enumerate") [v]) Q E s := by
  refine callType_new F.called_enumerate (by decide) (F.typeCall_enumerate_1 _) (F.newCall_enumerate_1 _) (fun obj => F.args_object_init_2 obj _) F.entry_enumerate_new
    (meets_enumerate_new1 B) ⟨h1, ?_⟩
  have hz : (s.heap.push o).objs.size = s.heap.objs.size + 1 := Heap.size_push ..
  show _ ∧ _
  rw [hz]
  have he : IsEnum ((s.heap.push o).push { cls := .type "enumerate", data := .fields #[.none, .bool false, .ref s.heap.objs.size, rawInt 0, .none, .none] }) (s.heap.objs.size + 1) s.heap.objs.size 0 .none := by
    have := Heap.get?_push_size (s.heap.push o) (o := { cls := .type "enumerate", data := .fields #[.none, .bool false, .ref s.heap.objs.size, rawInt 0, .none, .none] }) rfl
    rw [hz] at this; exact this
  exact ⟨⟨_, he, rfl⟩, h _ he (Heap.get?_push_of_some _ (Heap.get?_push_size _ B.free)) (by rw [Heap.size_push, hz]) fun b o x => Heap.get?_push_of_some _ (Heap.get?_push_of_some _ x)⟩
end
/-- the tuple at a, each item in a new pair -/
def IteT (K : PySem.W.Frag) (a : Addr) : It :=
  ⟨fun i H => ∃ (xs : List V) (x : V), SqT K H a xs ∧ xs[i]? = some x, fun i H v H' => ∃ T x, v = .ref T ∧ H T = none ∧ H' = L2.upd H T (.tup [.int (i : Nat), x]) ∧ ∀ xs, SqT K H a xs → xs[i]? = some x, fun i H => ∃ xs : List V, SqT K H a xs ∧ xs.length ≤ i⟩
theorem turn_enumT {P : Program} {w : World} {K : PySem.W.Frag} {elts : List Expr} {kk : Nat} {tpos : Pos} (a e it : Addr) :
    Turn P w K (.Tuple elts kk tpos) (IteT K a) [e, it] e (fun i h => (∃ old, IsEnum h e it ((i : Nat) : Int) old) ∧ h.IsTupleIter it a i ∧ e ≠ it) where
  mem := by simp
  obj := fun i h st b hb => by
    obtain ⟨⟨old, he⟩, ⟨o, ho, hc, hd⟩, _⟩ := st
    have e' : b = e ∨ b = it := by simpa using hb
    rcases e' with z | z
    · rw [z]; exact ⟨_, he, fun v q => nomatch q⟩
    · rw [z]; exact ⟨o, ho, fun v q => by rw [hd] at q; cases q⟩
  keep := fun i h h' st k => let ⟨⟨old, he⟩, hi, hne⟩ := st; ⟨⟨old, k e (by simp) _ he⟩, hi.at fun o q => k it (by simp) o q, hne⟩
  item := by
    intro X hP hw hK hc i pins s σ H E I hf st hg
    subst hP hw hK
    obtain ⟨⟨old, he⟩, hit, hne⟩ := st
    obtain ⟨xs, x, hq, hx⟩ := hg
    obtain ⟨its, rv, p, _⟩ := I.tuple hq
    obtain ⟨u, hu, ru⟩ := rv.get hx
    have hel : e < s.heap.objs.size := Heap.lt_size he
    have hil : it < s.heap.objs.size := by obtain ⟨_, q, _⟩ := hit; exact Heap.lt_size q
    have hai : a ≠ it := fun z => by
      obtain ⟨o1, e1, c1, _⟩ := id p
      obtain ⟨o2, e2, c2, _⟩ := id hit
      rw [z, e2] at e1
      cases e1
      rw [c2] at c1
      exact absurd c1 (by decide)
    have hea : e ≠ a := fun z => by
      obtain ⟨o1, e1, c1, _⟩ := id p
      rw [← z] at e1
      have e1 := e1.symm.trans he
      cases e1
      have c1 : (Value.type "enumerate") = .type "tuple" := c1
      exact absurd c1 (by decide)
    have D := Draws.tuple (prog := X.prog) (w := X.w) (A := X.A.in1) (I.ok.hd hc) it a hai its.toArray
    have hlt : i < its.toArray.size := by
      have := (List.getElem?_eq_some_iff.mp hu).1
      simpa using this
    refine wpAny_pyNext_enum_itemD D he ⟨hit, p⟩ hlt hne (by simp [hne, hea]) fun y h' tk hy ho hst hT hsz hk => ?_
    have ey : y = u := by
      have hy : its.toArray[i]? = some y := hy
      have hu' : its.toArray[i]? = some u := by simpa using hu
      rw [hu'] at hy
      cases hy
      rfl
    subst ey
    refine ⟨_, rfl, wpAny_letOwnedTupleGo_enum (s := { s with heap := h', toks := tk + 1 }) ho fun h'' he' sb => ?_⟩
    have hT2 : h''.get? s.heap.objs.size = some { cls := .type "tuple", data := .seq #[.int i tk, y] } := (sb.2 _ (Nat.ne_of_gt hel)).trans hT
    have new : ObjOk X.prog X.w (L2.upd H s.heap.objs.size (.tup [.int (i : Nat), x])) h'' s.heap.objs.size (.tup [.int (i : Nat), x]) :=
      ⟨by show 2 ≤ sizeLine; decide, [.int i tk, y], .cons ⟨_, rfl⟩ (.cons ru .nil), ⟨_, hT2, rfl, _, rfl⟩⟩
    have I1 : Inv X pins σ (L2.upd H s.heap.objs.size (.tup [.int (i : Nat), x])) { s with heap := h'', toks := tk + 1 } :=
      I.turnedNew (ch := [e, it]) (fun b ob hb q => (sb.2 b (fun z => hb (by simp [z]))).trans (hk b ob (fun z => hb (by simp [z])) (fun z => hb (by simp [z])) q)) hf (Nat.le_refl _) new
    refine ⟨.ref s.heap.objs.size, _, I1, rfl, ⟨_, x, rfl, I.hok.fresh (Nat.le_refl _), rfl, fun ys hy => by rw [I.tuple_inj hy hq]; exact hx⟩, ⟨⟨y, ?_⟩, hst.1.at fun o q => (sb.2 it (Ne.symm hne)).trans q, hne⟩, fun b hb => ?_⟩
    · have e1 : ((i + 1 : Nat) : Int) = (i : Int) + 1 := by omega
      rw [e1]; exact he'
    · have hb' : b < s.heap.objs.size := by
        have e' : b = e ∨ b = it := by simpa using hb
        rcases e' with z | z
        · rw [z]; exact hel
        · rw [z]; exact hil
      rw [upd_ne (Nat.ne_of_lt hb')]
      exact (hf b hb).1
  done := by
    intro X hP hw hK hc i pins s σ H E I hf st hg
    subst hP hw hK
    obtain ⟨⟨old, he⟩, hit, hne⟩ := st
    obtain ⟨xs, hq, hx⟩ := hg
    obtain ⟨its, rv, p, hz⟩ := I.tuple hq
    obtain ⟨f0, f1, f2, f3, f4, f5⟩ := hf it (by simp)
    have hl := rv.length
    have hai : a ≠ it := fun z => by
      obtain ⟨o1, e1, c1, _⟩ := id p
      obtain ⟨o2, e2, c2, _⟩ := id hit
      rw [z, e2] at e1
      cases e1
      rw [c2] at c1
      exact absurd c1 (by decide)
    have hT : s.TypeIs (.ref e) "enumerate" := ⟨_, he, rfl⟩
    unfold pyNext
    refine wpAny_bind (wpAny_attempt (wpAny_callSpecial?_slot (name := Str.ofString "__next__") hT F.slot_enumerate_next
      (wpAny_call_entry F.slot_enumerate_next hT F.entry_enumerate_next ?_ (F.args_enumerate_next_1 _))))
    show wpAny _ _ (field (.ref e) 2 >>= _) _ _ _
    refine wpAny_bind (wpAny_field he rfl (x := .ref it) rfl ?_)
    refine wpAny_bind (wpAny_nextOf_tuple_end (A := X.A.in1) (I.ok.hd hc) hit p (by simp; omega) fun h' x he' hx' => ?_)
    obtain ⟨o, ho, hc'⟩ := hx'
    refine wpAny_bind (wpAny_isInstance (T := "StopIteration") (b := true) ⟨o, ho, hc'⟩ isSubtype_stop ?_)
    exact wpAny_pure ⟨rfl, I.turned (t' := s.toks) (fun b o hb q => he' b o hb q) f0 f1 f3 f4 f5⟩
  self := fun A i s Q E st h => let ⟨⟨_, he⟩, _⟩ := st; wpAny_pyIter_enum he h
/-- enumerate of a list or a tuple -/
def iEnumA (K : PySem.W.Frag) (ta : TA) : TI := fun σ H R => ta σ H fun vs H1 => ∃ a xs, vs = [.ref a] ∧ ((SqL K H1 a xs ∧ R (Ite K a) H1) ∨ (SqT K H1 a xs ∧ R (IteT K a) H1))
theorem pi_enumA {X : Cx} {e : Expr} {ta : TA} {p pos tpos : Pos} {elts : List Expr} {kk : Nat} (hg : Gl X "enumerate") (hm : X.mg "enumerate" = none) (ha : PA X [e] ta) (hs : starEach [e] X.env = [(false, eval e X.env)]) :
    PI X (.Tuple elts kk tpos) (.Call (.Name "enumerate" p) [e] [] pos) (iEnumA X.K ta) := by
  refine ⟨fun pins s σ H R I h => ?_⟩
  refine Call_ (ld_blt I hg hm boot_enumerate (PyProof.Rows.callWith_type1 (thn (ha.run pos pins s σ H _ I h) fun us s1 ⟨vs, H1, I1, r1, q1⟩ => ?_) hs rfl))
  obtain ⟨a, xs, ex, q1⟩ := q1
  subst ex
  cases r1 with
  | cons r rr =>
    cases rr
    cases r
    have fr2 : ∀ b ∈ [s1.heap.objs.size + 1, s1.heap.objs.size], FpOk X pins H1 b := fun b hb => by
      have e' : b = s1.heap.objs.size + 1 ∨ b = s1.heap.objs.size := by simpa using hb
      have hle : s1.heap.objs.size ≤ b := by
        rcases e' with z | z
        · rw [z]; exact Nat.le_add_right _ _
        · rw [z]; exact Nat.le_refl _
      exact I1.fpOk hle (I1.hok.fresh hle)
    rcases q1 with ⟨hq, q⟩ | ⟨hq, q⟩
    · obtain ⟨its, rv, p', hz⟩ := I1.list hq
      refine call_enumerate_list p'.isList fun h' he hit hsz hk => wpAny_pyIter_enum he ?_
      have I2 : Inv X pins σ H1 { s1 with heap := h' } := I1.kept (t' := s1.toks) hk
      exact ⟨s1.heap.objs.size + 1, [s1.heap.objs.size + 1, s1.heap.objs.size], _, _, H1, rfl, I2, turn_enum a (s1.heap.objs.size + 1) s1.heap.objs.size, ⟨⟨.none, he⟩, hit, Nat.succ_ne_self _⟩, fr2, q⟩
    · obtain ⟨its, rv, p', hz⟩ := I1.tuple hq
      refine enum1_begins (begins_tuple a its.toArray) p' fun h' he hit hsz hk => wpAny_pyIter_enum he ?_
      have I2 : Inv X pins σ H1 { s1 with heap := h' } := I1.kept (t' := s1.toks) hk
      exact ⟨s1.heap.objs.size + 1, [s1.heap.objs.size + 1, s1.heap.objs.size], _, _, H1, rfl, I2, turn_enumT a (s1.heap.objs.size + 1) s1.heap.objs.size, ⟨⟨.none, he⟩, ⟨_, hit, rfl, rfl⟩, Nat.succ_ne_self _⟩, fr2, q⟩
end MM
end
section
set_option Elab.async false
set_option linter.all false
set_option maxRecDepth 100000
set_option maxHeartbeats 4000000
/-! Worlds without closures; targets; what is walked; list comprehensions. -/
namespace MM
open PySem PySem.Spec PyProof.Rows L2
variable [Lams]
structure Wld0 (T : List (Addr × Str)) (K : PySem.W.Frag) (mg : Str → Option Value) (σ : L2.St) (H : Hp) (ρ : Rh) (δ : En) (S : Store) : Prop where
  slot : ∀ (i : Nat) (d : D), δ[i]? = some (some d) → d.hasClo = false ∧ ∃ v, σ[i]? = some (some v) ∧ RD (pr0 K mg H ρ) d v
  sto : StoreOk K mg H ρ S
  tabs : LamX.Tabs T H
  len : δ.length = σ.length
def Good0 (T : List (Addr × Str)) (K : PySem.W.Frag) (mg : Str → Option Value) (σ : L2.St) (H : Hp) (ρ : Rh) (δ : En) (Q : VK) : Res D → Prop
  | .ok d S => d.hasClo = false ∧ ∀ v H' ρ', Le H ρ H' ρ' → Wld0 T K mg σ H' ρ' δ S → RD (pr0 K mg H' ρ') d v → Q v H'
  | _ => False
def embE0 (T : List (Addr × Str)) (K : PySem.W.Frag) (mg : Str → Option Value) (f : En → Store → Res D) : TE := fun σ H Q => ∃ ρ δ S, Wld0 T K mg σ H ρ δ S ∧ Good0 T K mg σ H ρ δ Q (f δ S)
def embT0 (T : List (Addr × Str)) (K : PySem.W.Frag) (mg : Str → Option Value) (f : En → Store → Res D) : TT := fun σ H Q => embE0 T K mg f σ H fun v H' => ∃ b, v = .bl b ∧ Q b H'
abbrev W0 : WX := fun _ _ _ _ => False
section
variable {T : List (Addr × Str)} {X : Cx} {W : WX} {σ : L2.St} {H : Hp} {ρ : Rh} {δ : En} {S : Store} {Q : VK} {K : PySem.W.Frag} {mg : Str → Option Value}
theorem Wld0.up (w : Wld0 T X.K X.mg σ H ρ δ S) : Wld T X σ H ρ δ S :=
  ⟨fun i d e => by
    obtain ⟨h1, v, h2, h3⟩ := w.slot i d e
    exact ⟨v, h2, RD.noclo (p := pr0 X.K X.mg H ρ) (p' := pr X σ H ρ) rfl rfl rfl rfl d v h1 h3⟩, w.sto, w.tabs, w.len⟩
theorem Wld.down (w : Wld T X σ H ρ δ S) (n : ∀ (i : Nat) (d : D), δ[i]? = some (some d) → d.hasClo = false) : Wld0 T X.K X.mg σ H ρ δ S :=
  ⟨fun i d e => by
    obtain ⟨v, h2, h3⟩ := w.slot i d e
    exact ⟨n i d e, v, h2, RD.noclo (p := pr X σ H ρ) (p' := pr0 X.K X.mg H ρ) rfl rfl rfl rfl d v (n i d e) h3⟩, w.sto, w.tabs, w.len⟩
theorem emb0_up {f : En → Store → Res D} (h : embE0 T X.K X.mg f σ H Q) : embE T X W f σ H Q := by
  obtain ⟨ρ, δ, S, w, h⟩ := h
  refine ⟨ρ, δ, S, w.up, ?_⟩
  generalize f δ S = r at h
  cases r with
  | ok d S' =>
    intro v H' ρ' l w' r
    exact h.2 v H' ρ' l (w'.down fun i d e => (w.slot i d e).1) (RD.noclo (p := pr X σ H' ρ') (p' := pr0 X.K X.mg H' ρ') rfl rfl rfl rfl d v h.1 r)
  | _ => exact h.elim
theorem pe0 {e : Expr} {f : En → Store → Res D} (h : DE T X W e f) : PE X e (embE0 T X.K X.mg f) := PE_weak h fun σ H Q q => emb0_up q
theorem pt0 {e : Expr} {f : En → Store → Res D} (h : DT T X W e f) : PT X e (embT0 T X.K X.mg f) := PT_weak h fun σ H Q q => emb0_up q
/-- the names are forgotten, the closures too -/
theorem wipeE_len (δ : En) : ∀ vs : List Nat, (wipeE δ vs).length = δ.length
  | [] => rfl
  | v :: vs => by unfold wipeE; rw [List.length_set, wipeE_len δ vs]
theorem wipeE_some {δ : En} {i : Nat} {x : D} : ∀ {vs : List Nat}, (wipeE δ vs)[i]? = some (some x) → δ[i]? = some (some x) ∧ i ∉ vs
  | [], h => ⟨h, by simp⟩
  | v :: vs, h => by
    unfold wipeE at h
    by_cases hi : v = i
    · subst hi
      by_cases hv : v < (wipeE δ vs).length
      · rw [List.getElem?_set_self hv] at h; cases h
      · rw [List.getElem?_eq_none (by simpa using hv)] at h; cases h
    · rw [List.getElem?_set_ne hi] at h
      obtain ⟨h1, h2⟩ := wipeE_some h
      exact ⟨h1, by simp only [List.mem_cons, not_or]; exact ⟨fun e => hi e.symm, h2⟩⟩
theorem wipeC_some {δ : En} {i : Nat} {x : D} (h : (wipeC δ)[i]? = some (some x)) : δ[i]? = some (some x) ∧ x.hasClo = false := by
  unfold wipeC at h
  rw [List.getElem?_map] at h
  cases e : δ[i]? with
  | none => rw [e] at h; cases h
  | some o =>
    rw [e] at h
    cases o with
    | none => cases h
    | some d =>
      have h : (if d.hasClo = true then none else some d) = some x := by simpa using h
      split at h
      · cases h
      · rename_i hc
        cases h
        exact ⟨rfl, by simpa using hc⟩
theorem Wld.wiped (w : Wld T X σ H ρ δ S) (vs : List Nat) : Wld0 T X.K X.mg (wipe σ vs) H ρ (wipeC (wipeE δ vs)) S :=
  ⟨fun i d e => by
    obtain ⟨e1, hc⟩ := wipeC_some e
    obtain ⟨e2, hn⟩ := wipeE_some e1
    obtain ⟨v, h2, h3⟩ := w.slot i d e2
    exact ⟨hc, v, by rw [wipe_out hn]; exact h2, RD.noclo (p := pr X σ H ρ) (p' := pr0 X.K X.mg H ρ) rfl rfl rfl rfl d v hc h3⟩, w.sto, w.tabs, by unfold wipeC; rw [List.length_map, wipeE_len, wipe_length]; exact w.len⟩
theorem Wld0.ple (w : Wld0 T K mg σ H ρ δ S) {H' : Hp} {ρ' : Rh} (l : Le H ρ H' ρ') : PLe (pr0 K mg H ρ) (pr0 K mg H' ρ') := w.sto.ple l fun _ _ z => z
theorem Wld0.to (w : Wld0 T K mg σ H ρ δ S) {H' : Hp} {ρ' : Rh} {S' : Store} (l : PLe (pr0 K mg H ρ) (pr0 K mg H' ρ')) (s : StoreOk K mg H' ρ' S') (t : LamX.Tabs T H') : Wld0 T K mg σ H' ρ' δ S' :=
  ⟨fun i d e => by
    obtain ⟨hc, v, h1, h2⟩ := w.slot i d e
    exact ⟨hc, v, h1, h2.le l⟩, s, t, w.len⟩
theorem Wld0.upd {p : Addr} {o : HO} (w : Wld0 T K mg σ H ρ δ S) (h : H p = none) : Wld0 T K mg σ (L2.upd H p o) ρ δ S := w.to (w.ple (Le.upd h)) (w.sto.upd h) (tabs_upd w.tabs h)

/-! ### targets -/
def gSeq : List Nat → TGs
  | [] => gNil
  | i :: r => gCons (gName i) (gSeq r)
def gB (K : PySem.W.Frag) (g : List Nat) : TG := match g with
  | [i] => gName i
  | l => gTup K l.length (gSeq l)
theorem wipe_in {σ : L2.St} {i : Nat} : ∀ {vs : List Nat}, i ∈ vs → i < σ.length → (wipe σ vs)[i]? = some none
  | v :: vs, h, hl => by
    unfold wipe
    by_cases e : v = i
    · subst e
      exact List.getElem?_set_self (by rw [wipe_length]; exact hl)
    · rw [List.getElem?_set_ne e]
      exact wipe_in ((List.mem_cons.mp h).resolve_left fun z => e z.symm) hl
theorem wipe_eq {σ τ : L2.St} {vs : List Nat} (hl : σ.length = τ.length) (h : ∀ i, i ∉ vs → σ[i]? = τ[i]?) : wipe σ vs = wipe τ vs := by
  refine List.ext_getElem? fun i => ?_
  by_cases hi : i ∈ vs
  · by_cases hk : i < σ.length
    · rw [wipe_in hi hk, wipe_in hi (by rw [← hl]; exact hk)]
    · rw [List.getElem?_eq_none (by rw [wipe_length]; omega), List.getElem?_eq_none (by rw [wipe_length]; omega)]
  · rw [wipe_out hi, wipe_out hi]
    exact h i hi
theorem Wld0.set (w : Wld0 T K mg σ H ρ δ S) {i : Nat} {d : D} {v : V} (hd : d.hasClo = false) (r : RD (pr0 K mg H ρ) d v) : Wld0 T K mg (σ.set i (some v)) H ρ (δ.set i (some d)) S :=
  ⟨fun j e h => by
    by_cases hj : i = j
    · subst hj
      have hl : i < δ.length := by
        have := (List.getElem?_eq_some_iff.mp h).1
        simpa using this
      rw [List.getElem?_set_self hl] at h
      cases h
      exact ⟨hd, v, by rw [List.getElem?_set_self (by rw [← w.len]; exact hl)], r⟩
    · rw [List.getElem?_set_ne hj] at h
      rw [List.getElem?_set_ne hj]
      exact w.slot j e h, w.sto, w.tabs, by rw [List.length_set, List.length_set]; exact w.len⟩
theorem seq0 {vs : List Nat} : ∀ (g : List Nat) (l : List D) (xs : List V) (σ : L2.St) (δ : En), Wld0 T K mg σ H ρ δ S → D.hasCloL l = false → RDs (pr0 K mg H ρ) l xs → l.length = g.length → (∀ i ∈ g, i ∈ vs) →
    gSeq g xs σ H (fun σ2 H2 => H2 = H ∧ Wld0 T K mg σ2 H ρ ((g.zip l).foldl (fun δ p => δ.set p.1 (some p.2)) δ) S ∧ σ2.length = σ.length ∧ ∀ i, i ∉ vs → σ2[i]? = σ[i]?)
  | [], l, xs, σ, δ, w, hc, r, hl, hg => by
    have e : l = [] := List.eq_nil_of_length_eq_zero hl
    subst e
    have ex : xs = [] := r
    exact ⟨ex, rfl, w, rfl, fun _ _ => rfl⟩
  | i :: g, [], xs, σ, δ, w, hc, r, hl, hg => by simp at hl
  | i :: g, d :: l, xs, σ, δ, w, hc, r, hl, hg => by
    obtain ⟨y, ys, e, h1, h2⟩ := r
    unfold D.hasCloL at hc
    rw [Bool.or_eq_false_iff] at hc
    refine ⟨y, ys, e, ?_⟩
    have ih := seq0 (vs := vs) g l ys (σ.set i (some y)) (δ.set i (some d)) (w.set hc.1 h1) hc.2 h2 (by simpa using hl) (fun j hj => hg j (List.mem_cons_of_mem _ hj))
    have mono : ∀ (g : List Nat) (xs : List V) (σ : L2.St) (H : Hp) (P Q : L2.St → Hp → Prop), (∀ σ H, P σ H → Q σ H) → gSeq g xs σ H P → gSeq g xs σ H Q := by
      intro g
      induction g with
      | nil => exact fun xs σ H P Q k h => ⟨h.1, k _ _ h.2⟩
      | cons i g ih => exact fun xs σ H P Q k ⟨v, r, e, h⟩ => ⟨v, r, e, ih _ _ _ _ _ k h⟩
    refine mono _ _ _ _ _ _ (fun σ2 H2 q => ?_) ih
    obtain ⟨q1, q2, q3, q4⟩ := q
    refine ⟨q1, q2, by rw [q3, List.length_set], fun j hj => ?_⟩
    rw [q4 j hj, List.getElem?_set_ne]
    intro z
    exact hj (by rw [← z]; exact hg i List.mem_cons_self)
theorem bind0 {g vs : List Nat} {d : D} {x : V} {δ1 : En} (w : Wld0 T K mg σ H ρ δ S) (hd : d.hasClo = false) (r : RD (pr0 K mg H ρ) d x) (e : bindG g d δ = some δ1) (hg : ∀ i ∈ g, i ∈ vs) {Qf : L2.St → Hp → Prop}
    (k : ∀ σ2, Wld0 T K mg σ2 H ρ δ1 S → wipe σ2 vs = wipe σ vs → σ2.length = σ.length → (∀ i, i ∉ vs → σ2[i]? = σ[i]?) → Qf σ2 H) : gB K g x σ H Qf := by
  have mono : ∀ (g : List Nat) (xs : List V) (σ : L2.St) (H : Hp) (P Q : L2.St → Hp → Prop), (∀ σ H, P σ H → Q σ H) → gSeq g xs σ H P → gSeq g xs σ H Q := by
    intro g
    induction g with
    | nil => exact fun xs σ H P Q k h => ⟨h.1, k _ _ h.2⟩
    | cons i g ih => exact fun xs σ H P Q k ⟨v, r, e, h⟩ => ⟨v, r, e, ih _ _ _ _ _ k h⟩
  have many : (∀ i, g ≠ [i]) → gTup K g.length (gSeq g) x σ H Qf := by
    intro hne
    unfold bindG at e
    split at e
    · exact absurd rfl (hne _)
    · split at e
      · rename_i l
        split at e
        · rename_i hl
          cases e
          obtain ⟨a, xs, ex, hs, hr⟩ := r
          unfold D.hasClo at hd
          refine ⟨a, xs, ex, hs, by rw [← hr.length]; exact hl, mono _ _ _ _ _ _ (fun σ2 H2 q => ?_) (seq0 (vs := vs) g l xs σ δ w hd hr hl hg)⟩
          obtain ⟨q1, q2, q3, q4⟩ := q
          rw [q1]
          exact k σ2 q2 (wipe_eq q3 q4) q3 q4
        · cases e
      · cases e
  unfold gB
  split
  · rename_i i
    unfold bindG at e
    cases e
    have q4 : ∀ j, j ∉ vs → (σ.set i (some x))[j]? = σ[j]? := fun j hj => by
      rw [List.getElem?_set_ne]
      intro z
      exact hj (by rw [← z]; exact hg i List.mem_cons_self)
    exact k _ (w.set hd r) (wipe_eq (by simp) q4) (by simp) q4
  · rename_i hne
    exact many hne

/-! ### what is walked -/
def WalkD (K : PySem.W.Frag) (mg : Str → Option Value) (J : It) (I : Its) (H0 : Hp) (ρ0 : Rh) : Prop :=
  ∀ (i : Nat) (H : Hp) (ρ : Rh) (S : Store), PLe (pr0 K mg H0 ρ0) (pr0 K mg H ρ) → StoreOk K mg H ρ S → I.c S = true → (i < I.l.length → J.go i H) ∧ (i = I.l.length → J.stop i H) ∧
    ∀ x H', i < I.l.length → J.yld i H x H' → (H' = H ∨ ∃ Tt xs, H Tt = none ∧ H' = L2.upd H Tt (.tup xs)) ∧ ∃ d, I.l[i]? = some d ∧ (d.hasClo = false → (∀ ρ', PLe (pr0 K mg H ρ) (pr0 K mg H' ρ') → RD (pr0 K mg H' ρ') d x))
def GoodI (T : List (Addr × Str)) (X : Cx) (W : WX) (σ : L2.St) (H : Hp) (ρ : Rh) (δ : En) (R : It → Hp → Prop) : Res Its → Prop
  | .ok I S => ∀ J H' ρ', Le H ρ H' ρ' → Wld T X σ H' ρ' δ S → WalkD X.K X.mg J I H' ρ' → R J H'
  | .exc c ns vs S => GoodX T X W σ H ρ δ c ns vs S
  | .bad => False
def embI (T : List (Addr × Str)) (X : Cx) (W : WX) (f : En → Store → Res Its) : TI := fun σ H R => ∃ ρ δ S, Wld T X σ H ρ δ S ∧ GoodI T X W σ H ρ δ R (f δ S)
abbrev DI (T : List (Addr × Str)) (X : Cx) (W : WX) (tg iter : Expr) (f : En → Store → Res Its) : Prop := PI X tg iter (embI T X W f)
end
end MM
end
section
set_option Elab.async false
set_option linter.all false
set_option maxRecDepth 100000
set_option maxHeartbeats 4000000
/-! List comprehensions. -/
namespace MM
open PySem PySem.Spec PyProof.Rows L2
variable [Lams]
section
variable {T : List (Addr × Str)} {X : Cx} {W : WX} {σ : L2.St} {H H1 H2 : Hp} {ρ ρ1 ρ2 : Rh} {δ : En} {S : Store} {Q : VK} {K : PySem.W.Frag} {mg : Str → Option Value}
theorem Le.rew (l : Le H ρ H1 ρ1) (w : List Addr) : Le H ⟨ρ.l, w⟩ H1 ⟨ρ1.l, w⟩ := ⟨l.pre, rfl, l.keep, l.still⟩
/-- what is made is written -/
theorem ple_wput {D : Addr} {o : HO} (s : StoreOk K mg H ρ S) (h : D ∈ ρ.w) : PLe (pr0 K mg H ρ) (pr0 K mg (L2.upd H D o) ρ) :=
  ⟨rfl, rfl, fun a u e n _ => by
    show L2.upd H D o a = _
    rw [upd_ne (fun z => n (by rw [z]; exact .inr h))]
    exact e, fun _ _ _ n => n, fun _ _ q => q, fun _ _ z => z, s.mut, s.nofn⟩
theorem StoreOk.wput {D : Addr} {o : HO} (s : StoreOk K mg H ρ S) (h : D ∈ ρ.w) (ho : WkO (some o)) : StoreOk K mg (L2.upd H D o) ρ S := by
  have pl := ple_wput (o := o) s h
  refine ⟨s.len, s.nd, fun k a m e1 e2 => ?_, fun a ha => ⟨?_, (s.wk a ha).2⟩⟩
  · have ne : a ≠ D := fun z => (s.wk D h).2 (by rw [← z]; exact List.mem_of_getElem? e1)
    exact (s.ob k a m e1 e2).le pl (upd_ne ne)
  · by_cases z : a = D
    · rw [z, upd_same]
      exact ho
    · rw [upd_ne z]
      exact (s.wk a ha).1
theorem ple_shrink {w : List Addr} (s : StoreOk K mg H ρ S) (hw : ∀ a ∈ w, a ∈ ρ.w) : PLe (pr0 K mg H ρ) (pr0 K mg H ⟨ρ.l, w⟩) :=
  ⟨rfl, rfl, fun _ _ e _ _ => e, fun a _ _ n z => n (z.elim .inl fun z => .inr (hw a z)), fun _ _ q => q, fun _ _ z => z, s.mut, s.nofn⟩
theorem StoreOk.shrink {w : List Addr} (s : StoreOk K mg H ρ S) (hw : ∀ a ∈ w, a ∈ ρ.w) : StoreOk K mg H ⟨ρ.l, w⟩ S :=
  ⟨s.len, s.nd, fun k a m e1 e2 => (s.ob k a m e1 e2).le (ple_shrink s hw) rfl, fun a ha => s.wk a (hw a ha)⟩
theorem ple_grow {D : Addr} {w : List Addr} (s : StoreOk K mg H ρ S) (hD : D ∈ ρ.w) (hw : ∀ a ∈ w, a ∈ ρ.w) : PLe (pr0 K mg H ρ) (pr0 K mg H ⟨ρ.l ++ [D], w⟩) :=
  ⟨rfl, rfl, fun _ _ e _ _ => e, fun a _ _ n z => n (by
    rcases z with z | z
    · have z : a ∈ ρ.l ++ [D] := z
      rcases List.mem_append.mp z with z | z
      · exact .inl z
      · rw [List.mem_singleton.mp z]
        exact .inr hD
    · exact .inr (hw a z)), fun k a q => by
    show (ρ.l ++ [D])[k]? = _
    rw [List.getElem?_append_left (List.getElem?_eq_some_iff.mp q).1]
    exact q, fun _ _ z => z, s.mut, s.nofn⟩
theorem StoreOk.grow {D : Addr} {w : List Addr} {m : MO} (s : StoreOk K mg H ρ S) (hD : D ∈ ρ.w) (hw : ∀ a ∈ w, a ∈ ρ.w) (hn : D ∉ w) (hm : RM (pr0 K mg H ⟨ρ.l ++ [D], w⟩) D m) : StoreOk K mg H ⟨ρ.l ++ [D], w⟩ (S ++ [m]) := by
  have pl := ple_grow s hD hw
  have np : D ∉ ρ.l := (s.wk D hD).2
  refine ⟨by show (ρ.l ++ [D]).length = _; rw [List.length_append, List.length_append, s.len]; rfl, ?_, fun k a m' e1 e2 => ?_, fun a ha => ⟨(s.wk a (hw a ha)).1, fun z => ?_⟩⟩
  · show (ρ.l ++ [D]).Nodup
    rw [List.nodup_append]
    exact ⟨s.nd, by simp, fun a ha b hb z => by rw [List.mem_singleton.mp hb] at z; rw [z] at ha; exact np ha⟩
  · have e1 : (ρ.l ++ [D])[k]? = some a := e1
    by_cases hk : k < ρ.l.length
    · rw [List.getElem?_append_left hk] at e1
      rw [List.getElem?_append_left (by rw [← s.len]; exact hk)] at e2
      exact (s.ob k a m' e1 e2).le pl rfl
    · have hk1 : k = ρ.l.length := by
        have := (List.getElem?_eq_some_iff.mp e1).1
        rw [List.length_append] at this
        have h1 : ([D] : List Addr).length = 1 := rfl
        omega
      subst hk1
      rw [List.getElem?_append_right (Nat.le_refl _), Nat.sub_self] at e1
      rw [List.getElem?_append_right (by rw [s.len]; exact Nat.le_refl _), s.len, Nat.sub_self] at e2
      have e1' : D = a := by simpa using e1
      have e2' : m = m' := by simpa using e2
      rw [← e1', ← e2']
      exact hm
  · have z : a ∈ ρ.l ++ [D] := z
    rcases List.mem_append.mp z with z | z
    · exact (s.wk a (hw a ha)).2 z
    · rw [List.mem_singleton.mp z] at ha
      exact hn ha
/-- at a comprehension's start -/
theorem ple_in {D : Addr} {o : HO} (s : StoreOk K mg H1 ρ1 S) (h : H1 D = none) : PLe (pr0 K mg H1 ρ1) (pr0 K mg (L2.upd H1 D o) ⟨ρ1.l, D :: ρ1.w⟩) :=
  ⟨rfl, rfl, fun a u e _ _ => by show L2.upd H1 D o a = _; rw [upd_ne (ne_of_none e h)]; exact e, fun a u e n z => by
    rcases z with z | z
    · exact n (.inl z)
    · rcases List.mem_cons.mp z with z | z
      · have e : H1 a = some u := e
        rw [z, h] at e; cases e
      · exact n (.inr z), fun _ _ q => q, fun _ _ z => z, s.mut, s.nofn⟩
theorem StoreOk.inn {D : Addr} {o : HO} (s : StoreOk K mg H1 ρ1 S) (h : H1 D = none) (ho : WkO (some o)) : StoreOk K mg (L2.upd H1 D o) ⟨ρ1.l, D :: ρ1.w⟩ S := by
  refine ⟨s.len, s.nd, fun k a m e1 e2 => ?_, fun a ha => ?_⟩
  · obtain ⟨o', ho'⟩ := s.is (.inl (List.mem_of_getElem? e1))
    exact (s.ob k a m e1 e2).le (ple_in s h) (upd_ne (ne_of_none ho' h))
  · rcases List.mem_cons.mp ha with z | z
    · rw [z, upd_same]
      exact ⟨ho, fun q => s.fresh h (.inl q)⟩
    · exact ⟨(s.wk a z).1.upd h, (s.wk a z).2⟩
/-- from the start of the comprehension to now -/
theorem ple_mid {D : Addr} (s : StoreOk K mg H1 ρ1 S) (h : H1 D = none) (hw : ρ.w = D :: ρ1.w) (l : Le H1 ρ1 H ⟨ρ.l, ρ1.w⟩) : PLe (pr0 K mg H1 ρ1) (pr0 K mg H ρ) :=
  ⟨rfl, rfl, fun a o e n t => l.keep a o e (fun z => n (.inl z)) t, fun a o e n z => by
    rcases z with z | z
    · exact l.outl e (fun q => n (.inl q)) z
    · rw [hw] at z
      rcases List.mem_cons.mp z with z | z
      · have e : H1 a = some o := e
        rw [z, h] at e; cases e
      · exact n (.inr z), fun k a q => by
    obtain ⟨r, er, _⟩ := l.pre
    have er : ρ.l = ρ1.l ++ r := er
    show ρ.l[k]? = some a
    rw [er, List.getElem?_append_left (List.getElem?_eq_some_iff.mp q).1]
    exact q, fun _ _ z => z, s.mut, s.nofn⟩
theorem drop_cons {α : Type} {l : List α} {i : Nat} {d : α} (h : l[i]? = some d) : l.drop i = d :: l.drop (i + 1) := by
  obtain ⟨hi, e⟩ := List.getElem?_eq_some_iff.mp h
  rw [List.drop_eq_getElem_cons hi, e]
theorem stepL_some {tg : List Nat} {δ0 : En} {fc fe : En → Store → Res D} {d e : D} {S' : Store} (h : stepL tg δ0 fc fe d S = .ok (some e) S') :
    d.hasClo = false ∧ ∃ δ1 Sa, bindG tg d δ0 = some δ1 ∧ fc δ1 S = .ok (.bl true) Sa ∧ fe δ1 Sa = .ok e S' ∧ e.hasClo = false := by
  unfold stepL at h
  cases hc : d.hasClo with
  | true => rw [hc, if_pos rfl] at h; cases h
  | false =>
    rw [hc, if_neg Bool.false_ne_true] at h
    refine ⟨rfl, ?_⟩
    cases hb : bindG tg d δ0 with
    | none => rw [hb] at h; cases h
    | some δ1 =>
      rw [hb] at h
      dsimp only at h
      refine ⟨δ1, ?_⟩
      cases e1 : fc δ1 S with
      | ok b Sa =>
        rw [e1, Res.bind_ok] at h
        cases b with
        | bl b =>
          cases b with
          | true =>
            dsimp only at h
            cases e2 : fe δ1 Sa with
            | ok x Sb =>
              rw [e2, Res.bind_ok] at h
              cases hx : x.hasClo with
              | true => rw [hx, if_pos rfl] at h; cases h
              | false =>
                rw [hx, if_neg Bool.false_ne_true] at h
                cases h
                exact ⟨Sa, rfl, rfl, e2, hx⟩
            | exc _ _ _ _ => rw [e2] at h; cases h
            | bad => rw [e2] at h; cases h
          | false => cases h
        | _ => cases h
      | exc _ _ _ _ => rw [e1] at h; cases h
      | bad => rw [e1] at h; cases h
theorem stepL_none {tg : List Nat} {δ0 : En} {fc fe : En → Store → Res D} {d : D} {S' : Store} (h : stepL tg δ0 fc fe d S = .ok none S') :
    d.hasClo = false ∧ ∃ δ1, bindG tg d δ0 = some δ1 ∧ fc δ1 S = .ok (.bl false) S' := by
  unfold stepL at h
  cases hc : d.hasClo with
  | true => rw [hc, if_pos rfl] at h; cases h
  | false =>
    rw [hc, if_neg Bool.false_ne_true] at h
    refine ⟨rfl, ?_⟩
    cases hb : bindG tg d δ0 with
    | none => rw [hb] at h; cases h
    | some δ1 =>
      rw [hb] at h
      dsimp only at h
      refine ⟨δ1, rfl, ?_⟩
      cases e1 : fc δ1 S with
      | ok b Sa =>
        rw [e1, Res.bind_ok] at h
        cases b with
        | bl b =>
          cases b with
          | true =>
            dsimp only at h
            cases e2 : fe δ1 Sa with
            | ok x Sb =>
              rw [e2, Res.bind_ok] at h
              split at h <;> cases h
            | exc _ _ _ _ => rw [e2] at h; cases h
            | bad => rw [e2] at h; cases h
          | false => cases h; rfl
        | _ => cases h
      | exc _ _ _ _ => rw [e1] at h; cases h
      | bad => rw [e1] at h; cases h
theorem clo_app {l : List D} {d : D} (h : D.hasCloL l = false) (h2 : d.hasClo = false) : D.hasCloL (l ++ [d]) = false := by
  induction l with
  | nil =>
    show D.hasCloL [d] = false
    unfold D.hasCloL
    rw [h2]
    rfl
  | cons a l ih =>
    unfold D.hasCloL at h
    rw [Bool.or_eq_false_iff] at h
    show D.hasCloL (a :: (l ++ [d])) = false
    unfold D.hasCloL
    rw [h.1, ih h.2]
    rfl
theorem good0_ok {d : D} {S' : Store} {f : En → Store → Res D} {δ1 : En} (e : f δ1 S = .ok d S') (hc : d.hasClo = false) {Q : VK} (k : ∀ v H' ρ', Le H ρ H' ρ' → Wld0 T K mg σ H' ρ' δ1 S' → RD (pr0 K mg H' ρ') d v → Q v H') (w : Wld0 T K mg σ H ρ δ1 S) : embE0 T K mg f σ H Q :=
  ⟨ρ, δ1, S, w, by rw [e]; exact ⟨hc, k⟩⟩
theorem wipe_wipe (σ : L2.St) (vs : List Nat) : wipe (wipe σ vs) vs = wipe σ vs := wipe_eq (wipe_length σ vs) fun i hi => wipe_out hi
theorem lcLoop_c {c : Store → Bool} {step : D → Store → Res (Option D)} {l : List D} {acc : List D} (h : c S = false) : lcLoop c step l S acc = .bad := by
  cases l with
  | nil =>
    unfold lcLoop
    rw [h]
    rfl
  | cons d r =>
    unfold lcLoop
    rw [h]
    rfl
/-- the loop of a list comprehension -/
theorem lc_go {J : It} {l : List D} {c : Store → Bool} {tg : List Nat} {vs : List Nat} {fc fe : En → Store → Res D} {m : Bool} {S1 : Store} (w1 : Wld T X σ H1 ρ1 δ S1) (hW : WalkD X.K X.mg J ⟨l, c⟩ H1 ρ1) (hg : ∀ i ∈ tg, i ∈ vs)
    (h : Good T X W σ H1 ρ1 δ Q ((lcLoop c (stepL tg (wipeC (wipeE δ vs)) fc fe) l S1 []).bind fun xs S => endL m xs S)) :
    ∀ Dd, H1 Dd = none → ∃ Wf : Nat → Nat → Hp → Prop, (∃ n, Wf 0 n (L2.upd H1 Dd (.lst []))) ∧ ∀ i n H, Wf i n H →
      (J.stop i H ∧ Q (.ref Dd) H) ∨ (J.go i H ∧ ∃ Nx : Hp → Prop, (∀ H', Nx H' → ∃ n', n' < n ∧ Wf (i + 1) n' H') ∧ ∀ x H', J.yld i H x H' → gB X.K tg x (wipe σ vs) H' fun σ2 H2 => wipe σ2 vs = wipe σ vs ∧ embT0 T X.K X.mg fc σ2 H2 fun b H3 =>
        if b = true then embE0 T X.K X.mg fe σ2 H3 fun y H4 => ∃ acc, H4 Dd = some (.lst acc) ∧ acc.length < sizeLine ∧ Nx (L2.upd H4 Dd (.lst (acc ++ [y]))) else Nx H3) := by
  intro Dd hD
  have hDn : Dd ∉ ρ1 := w1.sto.fresh hD
  let Inv' : Nat → Hp → Prop := fun i H => i ≤ l.length ∧ ∃ (ρ : Rh) (S : Store) (acc : List D) (us : List V), ρ.w = Dd :: ρ1.w ∧ H Dd = some (.lst us) ∧ RDs (pr0 X.K X.mg H ρ) acc us ∧ D.hasCloL acc = false ∧ Le H1 ρ1 H ⟨ρ.l, ρ1.w⟩ ∧
    Wld0 T X.K X.mg (wipe σ vs) H ρ (wipeC (wipeE δ vs)) S ∧ Good T X W σ H1 ρ1 δ Q ((lcLoop c (stepL tg (wipeC (wipeE δ vs)) fc fe) (l.drop i) S acc).bind fun xs S => endL m xs S)
  refine ⟨fun i n H => n = l.length - i ∧ Inv' i H, ⟨l.length, by simp, ?_⟩, ?_⟩
  · refine ⟨Nat.zero_le _, ⟨ρ1.l, Dd :: ρ1.w⟩, S1, [], [], rfl, upd_same, rfl, rfl, Le.upd hD, ?_, h⟩
    exact (w1.wiped vs).to (ple_in w1.sto hD) (w1.sto.inn hD (.inl ⟨_, rfl⟩)) (tabs_upd w1.tabs hD)
  · rintro i n H ⟨rfl, hi, ρ, S, acc, us, hw, hHD, hacc, hcl, hle, w, hG⟩
    have pl : PLe (pr0 X.K X.mg H1 ρ1) (pr0 X.K X.mg H ρ) := ple_mid w1.sto hD hw hle
    have hcS : c S = true := by
      cases hq : c S with
      | true => rfl
      | false =>
        rw [lcLoop_c hq] at hG
        exact hG.elim
    obtain ⟨k1, k2, k3⟩ := hW i H ρ S pl w.sto hcS
    have hDw : Dd ∈ ρ.w := by rw [hw]; exact List.mem_cons_self
    by_cases hlt : i < l.length
    · refine .inr ⟨k1 hlt, Inv' (i + 1), fun H' q => ⟨l.length - (i + 1), by omega, rfl, q⟩, fun x H' y => ?_⟩
      obtain ⟨hH, d, hd, hrd⟩ := k3 x H' hlt y
      rw [drop_cons hd] at hG
      unfold lcLoop at hG
      rw [if_pos hcS] at hG
      -- the item's heap
      have hst : Le H ρ H' ρ ∧ Wld0 T X.K X.mg (wipe σ vs) H' ρ (wipeC (wipeE δ vs)) S := by
        rcases hH with e | ⟨Tt, xs, hn, e⟩
        · rw [e]
          exact ⟨Le.rfl', w⟩
        · rw [e]
          exact ⟨Le.upd hn, w.upd hn⟩
      obtain ⟨le1, w'⟩ := hst
      have keyD : ∀ {H2 : Hp} {ρ2 : Rh}, Le H' ρ H2 ρ2 → H2 Dd = some (.lst us) := fun {H2 ρ2} l2 => l2.keep Dd _ (le1.keep Dd _ hHD (fun z => (w.sto.wk Dd hDw).2 z) (fun _ z => by cases z)) (fun z => (w.sto.wk Dd hDw).2 z) (fun _ z => by cases z)
      have fwd : ∀ {H2 : Hp} {ρ2 : Rh} {S2 : Store}, Le H' ρ H2 ρ2 → StoreOk X.K X.mg H2 ρ2 S2 → LamX.Tabs T H2 → ρ2.w = Dd :: ρ1.w ∧ RDs (pr0 X.K X.mg H2 ρ2) acc us ∧ Le H1 ρ1 H2 ⟨ρ2.l, ρ1.w⟩ ∧ Wld0 T X.K X.mg (wipe σ vs) H2 ρ2 (wipeC (wipeE δ vs)) S2 := fun {H2 ρ2 S2} l2 s2 t2 =>
        have l3 := le1.trans l2
        ⟨l3.w.trans hw, hacc.le (w.ple l3), hle.trans (l3.rew ρ1.w), w.to (w.ple l3) s2 t2⟩
      split at hG
      · rename_i e S' hstep
        obtain ⟨hdc, δ1, Sa, hb, hfc, hfe, hec⟩ := stepL_some hstep
        obtain ⟨hz, hG⟩ : acc.length < line ∧ Good T X W σ H1 ρ1 δ Q ((lcLoop c (stepL tg (wipeC (wipeE δ vs)) fc fe) (l.drop (i + 1)) S' (acc ++ [e])).bind fun xs S => endL m xs S) := by
          split at hG
          · exact ⟨‹_›, hG⟩
          · exact hG.elim
        refine bind0 w' hdc (hrd hdc ρ (w.ple le1)) hb hg fun σ2 w2 hw2 hl2 hout => ⟨hw2.trans (wipe_wipe σ vs), ?_⟩
        refine good0_ok hfc rfl (fun v H3 ρ3 l3 w3 r3 => ⟨true, r3, ?_⟩) w2
        refine itT ?_
        refine good0_ok hfe hec (fun y H4 ρ4 l4 w4 r4 => ?_) w3
        have l34 := l3.trans l4
        have hD4 := keyD l34
        obtain ⟨f1, f2, f3, f4⟩ := fwd l34 w4.sto w4.tabs
        have hD4w : Dd ∈ ρ4.w := by rw [f1]; exact List.mem_cons_self
        refine ⟨us, hD4, by rw [← line_eq, ← hacc.length]; exact hz, hlt, ρ4, S', acc ++ [e], us ++ [y], f1, upd_same, ?_, clo_app hcl hec, ?_, ?_, hG⟩
        · have pw := ple_wput (o := .lst (us ++ [y])) w4.sto hD4w
          exact (f2.le pw).append ⟨y, [], rfl, r4.le pw, rfl⟩
        · have ne : ∀ a u, H1 a = some u → a ≠ Dd := fun a u e => ne_of_none e hD
          exact ⟨f3.pre, rfl, fun a u e n t => by rw [upd_ne (ne a u e)]; exact f3.keep a u e n t, fun a u e => by
            obtain ⟨o', q⟩ := f3.still a u e
            exact ⟨o', by rw [upd_ne (ne a u e)]; exact q⟩⟩
        · exact f4.to (ple_wput w4.sto hD4w) (w4.sto.wput hD4w (.inl ⟨_, rfl⟩)) (tabs_put w4.tabs hD4 (fun _ z => by cases z) (fun _ z => by cases z))
      · rename_i S' hstep
        obtain ⟨hdc, δ1, hb, hfc⟩ := stepL_none hstep
        refine bind0 w' hdc (hrd hdc ρ (w.ple le1)) hb hg fun σ2 w2 hw2 hl2 hout => ⟨hw2.trans (wipe_wipe σ vs), ?_⟩
        refine good0_ok hfc rfl (fun v H3 ρ3 l3 w3 r3 => ⟨false, r3, ?_⟩) w2
        refine itF ?_
        obtain ⟨f1, f2, f3, f4⟩ := fwd l3 w3.sto w3.tabs
        exact ⟨hlt, ρ3, S', acc, us, f1, keyD l3, f2, hcl, f3, f4, hG⟩
      · exact hG.elim
    · have e : i = l.length := by omega
      refine .inl ⟨k2 e, ?_⟩
      have e : i = l.length := e
      rw [e, List.drop_length] at hG
      unfold lcLoop at hG
      rw [if_pos hcS] at hG
      have hG : Good T X W σ H1 ρ1 δ Q (endL m acc S) := hG
      have hsub : ∀ a ∈ ρ1.w, a ∈ ρ.w := fun a ha => by rw [hw]; exact List.mem_cons_of_mem _ ha
      unfold endL at hG
      cases m with
      | false =>
        have hG : Good T X W σ H1 ρ1 δ Q (.ok (.lst acc) S) := hG
        have so := w.sto.shrink hsub
        refine hG (.ref Dd) H ⟨ρ.l, ρ1.w⟩ hle (w1.next hle so w.tabs) ⟨Dd, us, rfl, hHD, ?_, ?_⟩
        · rintro (z | z)
          · exact (w.sto.wk Dd hDw).2 z
          · exact hDn (.inr z)
        · exact RDs.noclo (p := pr0 X.K X.mg H ⟨ρ.l, ρ1.w⟩) (p' := pr X σ H ⟨ρ.l, ρ1.w⟩) rfl rfl rfl rfl acc us hcl (hacc.le (ple_shrink w.sto hsub))
      | true =>
        have hG : Good T X W σ H1 ρ1 δ Q (.ok (.ref S.length) (S ++ [.lst acc])) := hG
        have hDw1 : Dd ∉ ρ1.w := fun z => hDn (.inr z)
        have so := w.sto.grow (m := .lst acc) hDw hsub hDw1 ⟨us, hHD, hacc.le (ple_grow w.sto hDw hsub)⟩
        have hle2 : Le H1 ρ1 H ⟨ρ.l ++ [Dd], ρ1.w⟩ := by
          obtain ⟨r, er, hr⟩ := hle.pre
          have er : ρ.l = ρ1.l ++ r := er
          refine ⟨⟨r ++ [Dd], by show ρ.l ++ [Dd] = _; rw [er, List.append_assoc], fun a ha => ?_⟩, rfl, hle.keep, hle.still⟩
          rcases List.mem_append.mp ha with z | z
          · exact hr a z
          · rw [List.mem_singleton.mp z]
            exact hD
        refine hG (.ref Dd) H ⟨ρ.l ++ [Dd], ρ1.w⟩ hle2 (w1.next hle2 so w.tabs) ⟨Dd, rfl, ?_⟩
        show (ρ.l ++ [Dd])[S.length]? = some Dd
        rw [← w.sto.len, List.getElem?_append_right (Nat.le_refl _), Nat.sub_self]
        rfl
end
end MM
end
section
set_option Elab.async false
set_option linter.all false
set_option maxRecDepth 100000
set_option maxHeartbeats 4000000
/-! What is walked, by kinds; the rule of list comprehensions. -/
namespace MM
open PySem PySem.Spec PyProof.Rows L2
variable [Lams]
def iSeq (K : PySem.W.Frag) (te : TE) : TI := fun σ H R => te σ H fun v H1 => (∃ a xs, v = .ref a ∧ SqL K H1 a xs ∧ R (Itl K a) H1) ∨ (∃ a xs, v = .ref a ∧ SqT K H1 a xs ∧ R (Itt K a) H1) ∨ ∃ x, v = .str x ∧ R (L2.Its x) H1
theorem pi_seq {X : Cx} {tg e : Expr} {te : TE} (he : PE X e te) : PI X tg e (iSeq X.K te) := by
  refine ⟨fun pins s σ H R I h => ?_⟩
  refine thn (he.run pins s σ H _ I h) fun v s1 ⟨y, H1, I1, r1, q⟩ => ?_
  rcases q with ⟨a, xs, rfl, hq, q⟩ | ⟨a, xs, rfl, hq, q⟩ | ⟨x, rfl, q⟩
  · cases r1
    obtain ⟨its, rv, p, hz⟩ := I1.list hq
    exact wpAny_pyIter_list p.isList (pi_one (tk := s1.toks) I1 _ (turn_list a _) ⟨_, Heap.get?_push_size _ rfl, rfl, rfl⟩ q)
  · cases r1
    obtain ⟨its, rv, p, hz⟩ := I1.tuple hq
    exact wpAny_pyIter_tuple (show s1.heap.IsTuple a its.toArray from p) (pi_one (tk := s1.toks) I1 _ (turn_tuple a _) ⟨_, Heap.get?_push_size _ rfl, rfl, rfl⟩ q)
  · obtain ⟨t, rfl⟩ := r1
    cases ha : x.cps.all (· < 128)
    · exact wpAny_pyIter_wide ha (pi_one (tk := s1.toks) I1 _ (turn_str _ x t "str_iterator" (.inr rfl)) ⟨_, Heap.get?_push_size _ rfl, rfl, rfl⟩ q)
    · exact wpAny_pyIter_ascii ha (pi_one (tk := s1.toks) I1 _ (turn_str _ x t "str_ascii_iterator" (.inl rfl)) ⟨_, Heap.get?_push_size _ rfl, rfl, rfl⟩ q)
def iRngA (ta : TA) : TI := fun σ H R => ta σ H fun vs H1 => (∃ j : Int, vs = [.int j] ∧ -(2 ^ 62) ≤ j ∧ j < 2 ^ 62 ∧ R (Itr 0 j.toNat) H1)
section
variable {T : List (Addr × Str)} {X : Cx} {W : WX} {σ : L2.St} {H H1 H2 : Hp} {ρ ρ1 ρ2 : Rh} {δ : En} {S : Store} {Q : VK} {K : PySem.W.Frag} {mg : Str → Option Value}
theorem PI_weak {tg e : Expr} {t t' : TI} (h : PI X tg e t) (w : ∀ σ H Q, t' σ H Q → t σ H Q) : PI X tg e t' := ⟨fun pins s σ H Q I hq => h.run pins s σ H Q I (w σ H Q hq)⟩
/-- a walk over what stays -/
theorem walkD_of {J : It} {l : List D} {c : Store → Bool} {xs : List V} {Y : Nat → Hp → V → Hp → Prop} {G : Hp → Prop} (w : Walk J l.length G Y) (r : RDs (pr X σ H ρ) l xs) (so : StoreOk X.K X.mg H ρ S)
    (hG : ∀ H' ρ', PLe (pr0 X.K X.mg H ρ) (pr0 X.K X.mg H' ρ') → G H')
    (hY : ∀ i H1 x H2, Y i H1 x H2 → H2 = H1 ∧ xs[i]? = some x) : WalkD X.K X.mg J ⟨l, c⟩ H ρ := by
  intro i H1 ρ1 S1 pl _ _
  have g := hG H1 ρ1 pl
  refine ⟨fun hi => w.goes i H1 hi g, fun e => by rw [e]; exact w.stops H1 g, fun x H2 hi y => ?_⟩
  obtain ⟨e1, e2⟩ := hY i H1 x H2 (w.yields i H1 x H2 hi g y)
  obtain ⟨d, e3, e4⟩ := r.getV e2
  refine ⟨.inl e1, d, e3, fun hc ρ' pl2 => ?_⟩
  have e5 := RD.noclo (p := pr X σ H ρ) (p' := pr0 X.K X.mg H ρ) rfl rfl rfl rfl d x hc e4
  exact (e5.le pl).le pl2
theorem walkD_list {c : Store → Bool} {a : Addr} {l : List D} {xs : List V} (r : RDs (pr X σ H ρ) l xs) (so : StoreOk X.K X.mg H ρ S) (h : SqL X.K H a xs) (n : a ∉ ρ) : WalkD X.K X.mg (Itl X.K a) ⟨l, c⟩ H ρ :=
  walkD_of (G := fun H => SqL X.K H a xs) (Y := YAt xs) (by rw [r.length]; exact walk_list) r so (fun H' ρ' pl => sqL_le pl h n) fun i H1 x H2 y => y
theorem walkD_tup {c : Store → Bool} {a : Addr} {l : List D} {xs : List V} (r : RDs (pr X σ H ρ) l xs) (so : StoreOk X.K X.mg H ρ S) (h : SqT X.K H a xs) : WalkD X.K X.mg (Itt X.K a) ⟨l, c⟩ H ρ :=
  walkD_of (G := fun H => SqT X.K H a xs) (Y := YAt xs) (by rw [r.length]; exact walk_tup) r so (fun H' ρ' pl => sqT_le pl h) fun i H1 x H2 y => y
theorem walkD_scr {c : Store → Bool} (σ : L2.St) {a : Addr} {l : List Int} (so : StoreOk X.K X.mg H ρ S) (h : (Rd H a (.lst (l.map V.int)) ∧ a ∉ ρ) ∨ SqL X.K (fun _ => none) a (l.map V.int)) : WalkD X.K X.mg (Itl X.K a) ⟨l.map D.int, c⟩ H ρ := by
  have r : RDs (pr X σ H ρ) (l.map D.int) (l.map V.int) := RDs.ints l
  refine walkD_of (X := X) (σ := σ) (G := fun H => SqL X.K H a (l.map V.int)) (Y := YAt (l.map V.int)) (by rw [r.length]; exact walk_list) r so (fun H' ρ' pl => ?_) fun i H1 x H2 y => y
  rcases h with ⟨h, n⟩ | h
  · exact sqL_le pl (.inl h) n
  · rcases h with (h | ⟨o, h⟩) | h
    · cases h
    · cases h
    · exact .inr h
theorem walkD_str {c : Store → Bool} {z : Str} (H : Hp) (ρ : Rh) : WalkD K mg (L2.Its z) ⟨z.cps.toList.map fun c => .str ⟨#[c]⟩, c⟩ H ρ := by
  intro i H1 ρ1 S1 pl _ _
  have hl : (z.cps.toList.map fun c => D.str ⟨#[c]⟩).length = z.cps.size := by simp
  have w := walk_str (z := z)
  refine ⟨fun hi => w.goes i H1 (by rw [← hl]; exact hi) trivial, fun e => by rw [e, hl]; exact w.stops H1 trivial, fun x H2 hi y => ?_⟩
  obtain ⟨e1, c, e2, e3⟩ := w.yields i H1 x H2 (by rw [← hl]; exact hi) trivial y
  refine ⟨.inl e1, .str ⟨#[c]⟩, ?_, fun _ _ _ => e3⟩
  rw [List.getElem?_map]
  have : z.cps.toList[i]? = some c := by simpa using e2
  rw [this]
  rfl
theorem walkD_range {c : Store → Bool} {lo hi : Int} (H : Hp) (ρ : Rh) : WalkD K mg (Itr lo (hi - lo).toNat) ⟨rangeD lo hi, c⟩ H ρ := by
  intro i H1 ρ1 S1 pl _ _
  have hl : (rangeD lo hi).length = (hi - lo).toNat := by unfold rangeD; simp
  have w := walk_range (lo := lo) (n := (hi - lo).toNat)
  refine ⟨fun h => w.goes i H1 (by rw [← hl]; exact h) trivial, fun e => by rw [e, hl]; exact w.stops H1 trivial, fun x H2 h y => ?_⟩
  obtain ⟨e1, e2⟩ := w.yields i H1 x H2 (by rw [← hl]; exact h) trivial y
  refine ⟨.inl e1, .int (lo + (i : Nat)), ?_, fun _ _ _ => e2⟩
  unfold rangeD
  rw [List.getElem?_map, List.getElem?_range (by rw [← hl]; exact h)]
  rfl
theorem enumD_get : ∀ (l : List D) (k i : Nat) (d : D), l[i]? = some d → (enumD k l)[i]? = some (.tup [.int ((k + i : Nat) : Int), d])
  | [], _, _, _, h => by simp at h
  | d :: r, k, 0, e, h => by
    have h : d = e := by simpa using h
    rw [h]
    rfl
  | d :: r, k, i + 1, e, h => by
    have h : r[i]? = some e := by simpa using h
    have ih := enumD_get r (k + 1) i e h
    show (enumD (k + 1) r)[i]? = _
    rw [ih]
    have : k + 1 + i = k + (i + 1) := by omega
    rw [this]
theorem enumD_len : ∀ (l : List D) (k : Nat), (enumD k l).length = l.length
  | [], _ => rfl
  | d :: r, k => by
    show (enumD (k + 1) r).length + 1 = _
    rw [enumD_len r (k + 1)]
    rfl
theorem zipD_get : ∀ (l m : List D) (i : Nat) (d e : D), l[i]? = some d → m[i]? = some e → (zipD l m)[i]? = some (.tup [d, e])
  | [], _, _, _, _, h, _ => by simp at h
  | _ :: _, [], _, _, _, _, h => by simp at h
  | a :: r, b :: q, 0, d, e, h, h' => by
    have h : a = d := by simpa using h
    have h' : b = e := by simpa using h'
    rw [h, h']
    rfl
  | a :: r, b :: q, i + 1, d, e, h, h' => zipD_get r q i d e (by simpa using h) (by simpa using h')
theorem zipD_len : ∀ (l m : List D), (zipD l m).length = min l.length m.length
  | [], _ => by simp [zipD]
  | _ :: _, [] => by simp [zipD]
  | a :: r, b :: q => by
    show (zipD r q).length + 1 = _
    rw [zipD_len r q, List.length_cons, List.length_cons]
    omega
/-- pairs -/
theorem walkD_pair {J : It} {l : List D} {c : Store → Bool} {fx fy : Nat → Option V} {G : Hp → Prop} (w : Walk J l.length G (YPair fx fy)) (so : StoreOk X.K X.mg H ρ S)
    (hG : ∀ H' ρ', PLe (pr0 X.K X.mg H ρ) (pr0 X.K X.mg H' ρ') → G H')
    (hf : ∀ i x y, fx i = some x → fy i = some y → ∃ dx dy, l[i]? = some (.tup [dx, dy]) ∧ (dx.hasClo = false → RD (pr0 X.K X.mg H ρ) dx x) ∧ (dy.hasClo = false → RD (pr0 X.K X.mg H ρ) dy y)) : WalkD X.K X.mg J ⟨l, c⟩ H ρ := by
  intro i H1 ρ1 S1 pl _ _
  have g := hG H1 ρ1 pl
  refine ⟨fun hi => w.goes i H1 hi g, fun e => by rw [e]; exact w.stops H1 g, fun x H2 hi y => ?_⟩
  obtain ⟨Tt, vx, vy, e1, e2, e3, e4, e5⟩ := w.yields i H1 x H2 hi g y
  obtain ⟨dx, dy, h1, h2, h3⟩ := hf i vx vy e4 e5
  refine ⟨.inr ⟨Tt, _, e2, e3⟩, _, h1, fun hc ρ' pl2 => ?_⟩
  have hc : (dx.hasClo || (dy.hasClo || false)) = false := hc
  rw [Bool.or_eq_false_iff, Bool.or_false] at hc
  refine ⟨Tt, [vx, vy], e1, .inl (.inl (by show H2 Tt = _; rw [e3, upd_same])), vx, [vy], rfl, ((h2 hc.1).le pl).le pl2, vy, [], rfl, ((h3 hc.2).le pl).le pl2, rfl⟩
/-! ### the rules -/
/-- a list: as it stands whenever it is looked at -/
def LstAt (K : PySem.W.Frag) (mg : Str → Option Value) (H : Hp) (ρ : Rh) (a : Addr) (l : List D) (c : Store → Bool) : Prop :=
  ∀ (H1 : Hp) (ρ1 : Rh) (S1 : Store), PLe (pr0 K mg H ρ) (pr0 K mg H1 ρ1) → StoreOk K mg H1 ρ1 S1 → c S1 = true → ∃ xs, SqL K H1 a xs ∧ l.length = xs.length ∧ ∀ (i : Nat) (x : V), xs[i]? = some x → ∃ d, l[i]? = some d ∧ (d.hasClo = false → RD (pr0 K mg H1 ρ1) d x)
theorem lstAt_of {d : D} {v : V} {l : List D} (r : RD (pr X σ H ρ) d v) (so : StoreOk X.K X.mg H ρ S) (e : asL S d = some l) : ∃ a, v = .ref a ∧ LstAt X.K X.mg H ρ a l (gdR S d) ∧ gdR S d S = true := by
  unfold asL at e
  cases d with
  | lst l' =>
    cases e
    obtain ⟨a, xs, e1, s1, n, r2⟩ := r
    refine ⟨a, e1, fun H1 ρ1 S1 pl _ _ => ⟨xs, sqL_le pl (SqL.of s1) n, r2.length, fun i x hx => ?_⟩, rfl⟩
    obtain ⟨d, e3, e4⟩ := r2.getV hx
    exact ⟨d, e3, fun hc => (RD.noclo (p := pr X σ H ρ) (p' := pr0 X.K X.mg H ρ) rfl rfl rfl rfl d x hc e4).le pl⟩
  | ref k =>
    dsimp only at e
    split at e
    · rename_i l' hk
      cases e
      obtain ⟨a, e1, e2⟩ := r
      refine ⟨a, e1, fun H1 ρ1 S1 pl so1 hc => ?_, ?_⟩
      · obtain ⟨l2, q1, q2⟩ := sameO_ok (show sameO S[k]? S1[k]? = true from hc)
        rw [hk] at q1
        cases q1
        obtain ⟨xs, h1, h2⟩ := so1.ob k a _ (pl.ix k a e2) q2
        refine ⟨xs, SqL.of h1, h2.length, fun i x hx => ?_⟩
        obtain ⟨d, e3, e4⟩ := h2.getV hx
        exact ⟨d, e3, fun _ => e4⟩
      · show sameO S[k]? S[k]? = true
        rw [hk]
        exact sameDs_self _
    · cases e
  | _ => cases e
theorem ple0 : PLe (pr0 K mg H ρ) (pr0 K mg H ρ) → True := fun _ => trivial
theorem walkD_lst {a : Addr} {l : List D} {c : Store → Bool} (h : LstAt K mg H ρ a l c) : WalkD K mg (Itl K a) ⟨l, c⟩ H ρ := by
  intro i H1 ρ1 S1 pl so hc
  obtain ⟨xs, s1, hl, hr⟩ := h H1 ρ1 S1 pl so hc
  have w := walk_list (K := K) (a := a) (xs := xs)
  refine ⟨fun hi => w.goes i H1 (by rw [← hl]; exact hi) s1, fun e => by rw [e]; show (Itl K a).stop l.length H1; rw [hl]; exact w.stops H1 s1, fun x H2 hi y => ?_⟩
  obtain ⟨e1, e2⟩ := w.yields i H1 x H2 (by rw [← hl]; exact hi) s1 y
  obtain ⟨d, e3, e4⟩ := hr i x e2
  exact ⟨.inl e1, d, e3, fun hcl ρ' pl2 => (e4 hcl).le pl2⟩
theorem walkD_lstEnum {a : Addr} {l : List D} {c : Store → Bool} (h : LstAt K mg H ρ a l c) : WalkD K mg (Ite K a) ⟨enumD 0 l, c⟩ H ρ := by
  intro i H1 ρ1 S1 pl so hc
  obtain ⟨xs, s1, hl, hr⟩ := h H1 ρ1 S1 pl so hc
  have w := walk_enum (K := K) (a := a) (xs := xs)
  have hl2 : (enumD 0 l).length = xs.length := by rw [enumD_len, hl]
  refine ⟨fun hi => w.goes i H1 (by rw [← hl2]; exact hi) s1, fun e => by rw [e]; show (Ite K a).stop (enumD 0 l).length H1; rw [hl2]; exact w.stops H1 s1, fun x H2 hi y => ?_⟩
  obtain ⟨Tt, vx, vy, e1, e2, e3, e4, e5⟩ := w.yields i H1 x H2 (by rw [← hl2]; exact hi) s1 y
  cases e4
  obtain ⟨d, q1, q2⟩ := hr i vy e5
  refine ⟨.inr ⟨Tt, _, e2, e3⟩, .tup [.int ((i : Nat) : Int), d], by show (enumD 0 l)[i]? = _; rw [enumD_get l 0 i d q1]; simp, fun hcl ρ' pl2 => ?_⟩
  have hcl : (false || (d.hasClo || false)) = false := hcl
  rw [Bool.false_or, Bool.or_false] at hcl
  exact ⟨Tt, [_, vy], e1, .inl (.inl (by show H2 Tt = _; rw [e3, upd_same])), _, [vy], rfl, rfl, vy, [], rfl, (q2 hcl).le pl2, rfl⟩
theorem walkD_lstZip {a b : Addr} {l m : List D} {c c' : Store → Bool} (h : LstAt K mg H ρ a l c) (h' : LstAt K mg H ρ b m c') : WalkD K mg (Itz K a b) ⟨zipD l m, fun S => c S && c' S⟩ H ρ := by
  intro i H1 ρ1 S1 pl so hc
  have hc : (c S1 && c' S1) = true := hc
  rw [Bool.and_eq_true] at hc
  obtain ⟨xs, s1, hl, hr⟩ := h H1 ρ1 S1 pl so hc.1
  obtain ⟨ys, s2, hl', hr'⟩ := h' H1 ρ1 S1 pl so hc.2
  have hl2 : (MM.zipD l m).length = min xs.length ys.length := by rw [zipD_len, hl, hl']
  have w := walk_zip (K := K) (a := a) (b := b) (xs := xs) (ys := ys) rfl
  refine ⟨fun hi => w.goes i H1 (by rw [← hl2]; exact hi) ⟨s1, s2⟩, fun e => by rw [e]; show (Itz K a b).stop (MM.zipD l m).length H1; rw [hl2]; exact w.stops H1 ⟨s1, s2⟩, fun x H2 hi y => ?_⟩
  obtain ⟨Tt, vx, vy, e1, e2, e3, e4, e5⟩ := w.yields i H1 x H2 (by rw [← hl2]; exact hi) ⟨s1, s2⟩ y
  obtain ⟨d, q1, q2⟩ := hr i vx e4
  obtain ⟨d', q3, q4⟩ := hr' i vy e5
  refine ⟨.inr ⟨Tt, _, e2, e3⟩, .tup [d, d'], zipD_get l m i d d' q1 q3, fun hcl ρ' pl2 => ?_⟩
  have hcl : (d.hasClo || (d'.hasClo || false)) = false := hcl
  rw [Bool.or_eq_false_iff, Bool.or_false] at hcl
  exact ⟨Tt, [vx, vy], e1, .inl (.inl (by show H2 Tt = _; rw [e3, upd_same])), vx, [vy], rfl, (q2 hcl.1).le pl2, vy, [], rfl, (q4 hcl.2).le pl2, rfl⟩
theorem embI_bind {R : It → Hp → Prop} {R' : List V → Hp → Prop} {r : List D → Store → Res MM.Its} {x : Res (List D)} (h : GoodI T X W σ H ρ δ R (x.bind r))
    (k : ∀ vs H1 ρ1 ds S1, Le H ρ H1 ρ1 → Wld T X σ H1 ρ1 δ S1 → RDs (pr X σ H1 ρ1) ds vs → GoodI T X W σ H1 ρ1 δ R (r ds S1) → R' vs H1) : GoodL T X W σ H ρ δ R' x := by
  cases x with
  | ok d S1 =>
    intro v H1 ρ1 l w1 rd
    refine k v H1 ρ1 d S1 l w1 rd ?_
    have h : GoodI T X W σ H ρ δ R (r d S1) := h
    generalize r d S1 = z at h ⊢
    cases z with
    | ok _ _ => exact fun J H' ρ' l' => h J H' ρ' (l.trans l')
    | exc _ _ _ _ => exact GoodX.le h l
    | bad => exact h
  | exc _ _ _ _ => exact h
  | bad => exact h
theorem embI_bind1 {R : It → Hp → Prop} {R' : VK} {r : List D → Store → Res MM.Its} {x : Res D} (h : GoodI T X W σ H ρ δ R ((x.bind fun d S => .ok [d] S).bind r))
    (k : ∀ v H1 ρ1 d S1, Le H ρ H1 ρ1 → Wld T X σ H1 ρ1 δ S1 → RD (pr X σ H1 ρ1) d v → GoodI T X W σ H1 ρ1 δ R (r [d] S1) → R' v H1) : Good T X W σ H ρ δ R' x := by
  cases x with
  | ok d S1 =>
    intro v H1 ρ1 l w1 rd
    refine k v H1 ρ1 d S1 l w1 rd ?_
    have h : GoodI T X W σ H ρ δ R (r [d] S1) := h
    generalize r [d] S1 = z at h ⊢
    cases z with
    | ok _ _ => exact fun J H' ρ' l' => h J H' ρ' (l.trans l')
    | exc _ _ _ _ => exact GoodX.le h l
    | bad => exact h
  | exc _ _ _ _ => exact h
  | bad => exact h
abbrev fOne (f : En → Store → Res D) : En → Store → Res (List D) := fun δ S => (f δ S).bind fun d S => .ok [d] S
theorem di_plain {tg e : Expr} {fe : En → Store → Res D} (he : DE T X W e fe) : DI T X W tg e (fun δ S => (fOne fe δ S).bind fun its S => iterK .plain its S) := by
  refine PI_weak (pi_seq he) ?_
  rintro σ H R ⟨ρ, δ, S, w, h⟩
  refine ⟨ρ, δ, S, w, embI_bind1 h fun v H1 ρ1 d S1 l1 w1 r1 h1 => ?_⟩
  replace h1 : GoodI T X W σ H1 ρ1 δ R (match iterD S1 d with
    | some l => .ok ⟨l, gdR S1 d⟩ S1
    | none => .bad) := h1
  cases d with
  | tup l =>
    obtain ⟨a, xs, e1, s1, r2⟩ := r1
    exact .inr (.inl ⟨a, xs, e1, s1, h1 _ _ _ Le.rfl' w1 (walkD_tup r2 w1.sto s1)⟩)
  | lst l =>
    obtain ⟨a, xs, e1, s1, n, r2⟩ := r1
    exact .inl ⟨a, xs, e1, SqL.of s1, h1 _ _ _ Le.rfl' w1 (walkD_list r2 w1.sto (SqL.of s1) n)⟩
  | str z => exact .inr (.inr ⟨z, r1, h1 _ _ _ Le.rfl' w1 (walkD_str _ _)⟩)
  | scr l =>
    obtain ⟨a, e1, q⟩ := r1
    refine .inl ⟨a, l.map V.int, e1, ?_, h1 _ _ _ Le.rfl' w1 (walkD_scr σ w1.sto q)⟩
    rcases q with ⟨q, _⟩ | q
    · exact .inl q
    · rcases q with (q | ⟨o, q⟩) | q
      · cases q
      · cases q
      · exact .inr q
  | ref k =>
    unfold iterD at h1
    dsimp only at h1
    split at h1
    · rename_i l hk
      split at hk
      · rename_i l' hk'
        cases hk
        obtain ⟨a, e1, la, hg⟩ := lstAt_of (l := l) r1 w1.sto (by unfold asL; dsimp only; rw [hk'])
        obtain ⟨xs, s1, _⟩ := la H1 ρ1 S1 (w1.sto.ple Le.rfl' fun _ _ z => z) w1.sto hg
        exact .inl ⟨a, xs, e1, s1, h1 _ _ _ Le.rfl' w1 (walkD_lst la)⟩
      · cases hk
    · exact h1.elim
  | _ => exact h1.elim
theorem rng_ok {i : Int} (h : rngOk i = true) : -(2 ^ 62) ≤ i ∧ i < 2 ^ 62 := by
  unfold rngOk at h
  rw [Bool.and_eq_true, decide_eq_true_eq, decide_eq_true_eq] at h
  exact h
theorem di_range1 {tg a : Expr} {p pos : Pos} {fs : En → Store → Res (List D)} (hg : Gl X "range") (hm : X.mg "range" = none) (hs : starEach [a] X.env = [(false, eval a X.env)]) (ha : DA T X W [a] fs) :
    DI T X W tg (.Call (.Name "range" p) [a] [] pos) (fun δ S => (fs δ S).bind fun its S => iterK .range its S) := by
  refine PI_weak (pi_range1 hg hm ha hs) ?_
  rintro σ H R ⟨ρ, δ, S, w, h⟩
  refine ⟨ρ, δ, S, w, embI_bind h fun vs H1 ρ1 ds S1 l1 w1 r1 h1 => ?_⟩
  replace h1 : GoodI T X W σ H1 ρ1 δ R (itRange S1 ds) := h1
  unfold itRange at h1
  split at h1
  · rename_i n
    obtain ⟨v, rfl, rv⟩ := r1.one
    rw [show v = .int n from rv]
    split at h1
    · rename_i hk
      obtain ⟨k1, k2⟩ := rng_ok hk
      refine ⟨n, rfl, k1, k2, ?_⟩
      have hw := walkD_range (c := fun _ => true) (K := X.K) (mg := X.mg) (lo := 0) (hi := n) H1 ρ1
      rw [Int.sub_zero] at hw
      exact h1 _ _ _ Le.rfl' w1 hw
    · exact h1.elim
  · exact h1.elim
theorem di_range2 {tg a b : Expr} {p pos : Pos} {fs : En → Store → Res (List D)} (hg : Gl X "range") (hm : X.mg "range" = none) (hs : starEach [a, b] X.env = [(false, eval a X.env), (false, eval b X.env)]) (hs2 : starEach [b] X.env = [(false, eval b X.env)]) (ha : DA T X W [a, b] fs) :
    DI T X W tg (.Call (.Name "range" p) [a, b] [] pos) (fun δ S => (fs δ S).bind fun its S => iterK .range2 its S) := by
  refine PI_weak (pi_range2 hg hm ha hs hs2) ?_
  rintro σ H R ⟨ρ, δ, S, w, h⟩
  refine ⟨ρ, δ, S, w, embI_bind h fun vs H1 ρ1 ds S1 l1 w1 r1 h1 => ?_⟩
  replace h1 : GoodI T X W σ H1 ρ1 δ R (itRange2 S1 ds) := h1
  unfold itRange2 at h1
  split at h1
  · rename_i i j
    obtain ⟨u, v, rfl, ru, rv⟩ := r1.two
    rw [show u = .int i from ru, show v = .int j from rv]
    split at h1
    · rename_i hk
      rw [Bool.and_eq_true] at hk
      obtain ⟨k1, k2⟩ := rng_ok hk.1
      obtain ⟨k3, k4⟩ := rng_ok hk.2
      exact ⟨i, j, rfl, ⟨k1, k2, k3, k4⟩, h1 _ _ _ Le.rfl' w1 (walkD_range _ _)⟩
    · exact h1.elim
  · exact h1.elim
theorem di_enum {e : Expr} {p pos tpos : Pos} {elts : List Expr} {kk : Nat} {fs : En → Store → Res (List D)} (hg : Gl X "enumerate") (hm : X.mg "enumerate" = none) (hs : starEach [e] X.env = [(false, eval e X.env)]) (ha : DA T X W [e] fs) :
    DI T X W (.Tuple elts kk tpos) (.Call (.Name "enumerate" p) [e] [] pos) (fun δ S => (fs δ S).bind fun its S => iterK .enumerate its S) := by
  refine PI_weak (pi_enumA hg hm ha hs) ?_
  rintro σ H R ⟨ρ, δ, S, w, h⟩
  refine ⟨ρ, δ, S, w, embI_bind h fun vs H1 ρ1 ds S1 l1 w1 r1 h1 => ?_⟩
  replace h1 : GoodI T X W σ H1 ρ1 δ R (itEnum S1 ds) := h1
  have pairs : ∀ (l : List D) (xs : List V), RDs (pr X σ H1 ρ1) l xs → ∀ i x y, (some (V.int (i : Nat))) = some x → xs[i]? = some y → ∃ dx dy, (enumD 0 l)[i]? = some (.tup [dx, dy]) ∧ (dx.hasClo = false → RD (pr0 X.K X.mg H1 ρ1) dx x) ∧ (dy.hasClo = false → RD (pr0 X.K X.mg H1 ρ1) dy y) := by
    intro l xs r i x y e1 e2
    obtain ⟨d, e3, e4⟩ := r.getV e2
    cases e1
    refine ⟨.int ((i : Nat) : Int), d, by rw [enumD_get l 0 i d e3]; simp, fun _ => rfl, fun hc => RD.noclo (p := pr X σ H1 ρ1) (p' := pr0 X.K X.mg H1 ρ1) rfl rfl rfl rfl d y hc e4⟩
  unfold itEnum at h1
  split at h1
  · rename_i l
    obtain ⟨v, rfl, rv⟩ := r1.one
    obtain ⟨a, xs, e1, s1, r2⟩ := rv
    rw [e1]
    refine ⟨a, xs, rfl, .inr ⟨s1, h1 _ _ _ Le.rfl' w1 ?_⟩⟩
    refine walkD_pair (G := fun H => SqT X.K H a xs) (fx := fun i => some (.int (i : Nat))) (fy := fun i => xs[i]?) ?_ w1.sto (fun H' ρ' pl => sqT_le pl s1) (pairs l xs r2)
    rw [enumD_len, r2.length]
    refine ⟨fun i H hi q => ⟨xs, xs[i], q, by simp [hi]⟩, fun _ q => ⟨xs, q, Nat.le_refl _⟩, fun i H v H' _ q y => ?_⟩
    obtain ⟨T', x, h1, h2, h3, h4⟩ := y
    exact ⟨T', .int (i : Nat), x, h1, h2, h3, rfl, h4 xs q⟩
  · rename_i x hne
    obtain ⟨v, rfl, rv⟩ := r1.one
    cases hl : asL S1 x with
    | none => rw [hl] at h1; exact h1.elim
    | some l =>
      rw [hl] at h1
      obtain ⟨a, e1, la, hg⟩ := lstAt_of rv w1.sto hl
      obtain ⟨xs, s1, _⟩ := la H1 ρ1 S1 (w1.sto.ple Le.rfl' fun _ _ z => z) w1.sto hg
      rw [e1]
      exact ⟨a, xs, rfl, .inl ⟨s1, h1 _ _ _ Le.rfl' w1 (walkD_lstEnum la)⟩⟩
  · exact h1.elim
theorem di_zip {e e2 : Expr} {p pos tpos : Pos} {elts : List Expr} {kk : Nat} {fs : En → Store → Res (List D)} (hg : Gl X "zip") (hm : X.mg "zip" = none)
    (hs : starEach [e, e2] X.env = (false, eval e X.env) :: starEach [e2] X.env) (hpl : (backTo pos (starEach [e2] X.env)).any (·.1) = false) (ha : DA T X W [e, e2] fs) :
    DI T X W (.Tuple elts kk tpos) (.Call (.Name "zip" p) [e, e2] [] pos) (fun δ S => (fs δ S).bind fun its S => iterK .zip its S) := by
  refine PI_weak (RZ.pi_zipA hg hm ha hs hpl) ?_
  rintro σ H R ⟨ρ, δ, S, w, h⟩
  refine ⟨ρ, δ, S, w, embI_bind h fun vs H1 ρ1 ds S1 l1 w1 r1 h1 => ?_⟩
  replace h1 : GoodI T X W σ H1 ρ1 δ R (itZip S1 ds) := h1
  have pairs : ∀ (l m : List D) (xs ys : List V), RDs (pr X σ H1 ρ1) l xs → RDs (pr X σ H1 ρ1) m ys → ∀ (i : Nat) (x y : V), xs[i]? = some x → ys[i]? = some y → ∃ dx dy, (MM.zipD l m)[i]? = some (D.tup [dx, dy]) ∧ (dx.hasClo = false → RD (pr0 X.K X.mg H1 ρ1) dx x) ∧ (dy.hasClo = false → RD (pr0 X.K X.mg H1 ρ1) dy y) := by
    intro l m xs ys r r' i x y e1 e2
    obtain ⟨d, e3, e4⟩ := r.getV e1
    obtain ⟨d', e5, e6⟩ := r'.getV e2
    exact ⟨d, d', zipD_get l m i d d' e3 e5, fun hc => RD.noclo (p := pr X σ H1 ρ1) (p' := pr0 X.K X.mg H1 ρ1) rfl rfl rfl rfl d x hc e4, fun hc => RD.noclo (p := pr X σ H1 ρ1) (p' := pr0 X.K X.mg H1 ρ1) rfl rfl rfl rfl d' y hc e6⟩
  unfold itZip at h1
  split at h1
  · rename_i l m
    obtain ⟨u, v, rfl, ru, rv⟩ := r1.two
    obtain ⟨a, xs, e1, s1, r2⟩ := ru
    obtain ⟨b, ys, e2, s2, r3⟩ := rv
    rw [e1, e2]
    refine ⟨a, b, xs, ys, rfl, .inr ⟨s1, s2, h1 _ _ _ Le.rfl' w1 ?_⟩⟩
    refine walkD_pair (G := fun H => SqT X.K H a xs ∧ SqT X.K H b ys) (fx := fun i => xs[i]?) (fy := fun i => ys[i]?) ?_ w1.sto (fun H' ρ' pl => ⟨sqT_le pl s1, sqT_le pl s2⟩) (pairs l m xs ys r2 r3)
    rw [zipD_len, r2.length, r3.length]
    refine ⟨fun i H hi q => ?_, fun _ q => ⟨xs, ys, q.1, q.2, by omega⟩, fun i H v H' _ q y => ?_⟩
    · have h1 : i < xs.length := by omega
      have h2 : i < ys.length := by omega
      exact ⟨xs, ys, xs[i], ys[i], q.1, q.2, by simp [h1], by simp [h2]⟩
    · obtain ⟨T', x, z, h1, h2, h3, h4, h5⟩ := y
      exact ⟨T', x, z, h1, h2, h3, h4 xs q.1, h5 ys q.2⟩
  · rename_i x y hne
    obtain ⟨u, v, rfl, ru, rv⟩ := r1.two
    cases hl : asL S1 x with
    | none => rw [hl] at h1; exact h1.elim
    | some l =>
      cases hm : asL S1 y with
      | none => rw [hl, hm] at h1; exact h1.elim
      | some m =>
        rw [hl, hm] at h1
        obtain ⟨a, e1, la, hg⟩ := lstAt_of ru w1.sto hl
        obtain ⟨b, e2, lb, hg'⟩ := lstAt_of rv w1.sto hm
        obtain ⟨xs, s1, _⟩ := la H1 ρ1 S1 (w1.sto.ple Le.rfl' fun _ _ z => z) w1.sto hg
        obtain ⟨ys, s2, _⟩ := lb H1 ρ1 S1 (w1.sto.ple Le.rfl' fun _ _ z => z) w1.sto hg'
        rw [e1, e2]
        exact ⟨a, b, xs, ys, rfl, .inl ⟨s1, s2, h1 _ _ _ Le.rfl' w1 (walkD_lstZip la lb)⟩⟩
  · exact h1.elim
/-- a list comprehension -/
theorem de_lc {elt tg iter : Expr} {ifs : List Expr} {scope : Scope} {own : List (Str × Nat)} {pos : Pos} {g : List Nat} {m : Bool} {fi : En → Store → Res MM.Its} {fc fe : En → Store → Res D} (hc : X.calm = true) (hN : X.N.Nodup) (hi : DI T X W tg iter fi) (ok : BlkOk X.N X.env.scope scope own)
    (hg : ∀ (s : Shared) (H : Hp) (C : Addr) (cl : List (Str × Addr)) (fp : List Addr), PG (X.blk s H scope (compEnvC scope cl C X.env) fp) tg (gB X.K g)) (hgo : ∀ i ∈ g, i ∈ own.map (·.2))
    (ht : ∀ (s : Shared) (H : Hp) (C : Addr) (cl : List (Str × Addr)) (fp : List Addr), PTs (X.blk s H scope (compEnvC scope cl C X.env) fp) ifs (embT0 T X.K X.mg fc))
    (he : ∀ (s : Shared) (H : Hp) (C : Addr) (cl : List (Str × Addr)) (fp : List Addr), DE T (X.blk s H scope (compEnvC scope cl C X.env) fp) W0 elt fe) (hs : ∀ x, foldedSetIterable iter X.env x = pure x) :
    DE T X W (.ListComp elt [⟨tg, iter, ifs, 0⟩] scope pos) (fun δ S => (fi δ S).bind fun I S => (lcLoop I.c (stepL g (wipeC (wipeE δ (own.map (·.2)))) fc fe) I.l S []).bind fun xs S => endL m xs S) := by
  refine PE_weak (pe_lc (te := embE0 T X.K X.mg fe) hc hN hi ok hg ht (fun s H C cl fp => pe0 (he s H C cl fp)) hs) ?_
  rintro σ H Q ⟨ρ, δ, S, w, h⟩
  refine ⟨ρ, δ, S, w, ?_⟩
  have h : Good T X W σ H ρ δ Q ((fi δ S).bind fun I S => (lcLoop I.c (stepL g (wipeC (wipeE δ (own.map (·.2)))) fc fe) I.l S []).bind fun xs S => endL m xs S) := h
  generalize fi δ S = r at h ⊢
  cases r with
  | ok l S1 =>
    intro J H1 ρ1 l1 w1 hW
    have h : Good T X W σ H ρ δ Q ((lcLoop l.c (stepL g (wipeC (wipeE δ (own.map (·.2)))) fc fe) l.l S1 []).bind fun xs S => endL m xs S) := h
    exact lc_go w1 hW hgo (Good.le h l1)
  | exc _ _ _ _ => exact h
  | bad => exact h
end
end MM
end
section
set_option Elab.async false
set_option linter.all false
set_option maxRecDepth 100000
set_option maxHeartbeats 4000000
/-! Dict comprehensions whose keys are new tuples: the machine's side. -/
namespace MM
open PySem PySem.Spec PyProof.Rows L2
section
variable {X : Cx} {pins : List (Addr × Obj)} {σ : L2.St} {H : Hp} {s : Shared}
/-- a new tuple's key is put -/
theorem dct_set {E : Value → Shared → Prop} {a b : Addr} {kvs : List (List Key × V)} {k : List Key} {v : V} {r : Value} {Q : Unit → Shared → Prop} (hu : X.A.units + 1 < cLine) (I : Inv X pins σ H s) (ha : H a = some (.dT kvs)) (hb : H b = some (.tup (k.map kV)))
    (hz : kvs.length < sizeLine) (rv : RelV v r) (h : ∀ s', Inv X pins σ (L2.upd H a (.dT (putK kvs k v))) s' → Q () s') : wpAny (model X.prog X.w) X.A (dictSet a (.ref b) r) Q E s := by
  obtain ⟨z, hd, xs, rel, dd⟩ := dt_of I.hok ha
  have hl : xs.length ≤ sizeLine := by rw [← Paired.length rel]; exact z
  have hp : (putK kvs k v).length ≤ sizeLine := Nat.le_trans (length_putK kvs k v) hz
  refine wpAny_dictSet_heap (hsz := hl) (show X.A.units < cLine by omega) (key_of I.hok hb) dd fun h' dd' hs => h _ ?_
  obtain ⟨q, es, ep, hq, g2, g3, g4, _, g5⟩ := dd'
  refine d_write I (by rw [ha]; trivial) hs ⟨q, hq⟩ ⟨hp, hd, _, (rel.put k hb rv).keeps fun c ys ec => ?_, q, es, ep, hq, g2, g3, g4, g5⟩
  rw [upd_ne (ne_of ec ha fun z => nomatch z)]
  exact ec
/-- what is asked of the walk, the target, the test, the key, the value -/
def tDct (wi : TI) (g : TG) (tt : TT) (tk tv : TE) (vs : List Nat) : TE := fun σ H Q => wi σ H fun J H1 => ∀ a, H1 a = none → ∃ W : Nat → Nat → Hp → Prop, (∃ m, W 0 m (L2.upd H1 a (.dT []))) ∧ ∀ i m H, W i m H →
  (J.stop i H ∧ Q (.ref a) H) ∨ (J.go i H ∧ ∃ Nx : Hp → Prop, (∀ H', Nx H' → ∃ m', m' < m ∧ W (i + 1) m' H') ∧ ∀ x H', J.yld i H x H' → g x (wipe σ vs) H' fun σ2 H2 => wipe σ2 vs = wipe σ vs ∧ tt σ2 H2 fun b H3 =>
    if b = true then tk σ2 H3 fun y H4 => tv σ2 H4 fun z H5 => ∃ kvs k b', y = .ref b' ∧ H5 b' = some (.tup (k.map kV)) ∧ H5 a = some (.dT kvs) ∧ kvs.length < sizeLine ∧ Nx (L2.upd H5 a (.dT (putK kvs k z))) else Nx H3)
abbrev BlkP (X : Cx) (scope : Scope) (P : Cx → Prop) : Prop := ∀ (s : Shared) (H : Hp) (C : Addr) (cl : List (Str × Addr)) (fp : List Addr), P (X.blk s H scope (compEnvC scope cl C X.env) fp)
theorem dct_core {Q : VK} {kx vx tg iter : Expr} {ifs : List Expr} {scope : Scope} {own : List (Str × Nat)} {pos pos' : Pos} {wi : TI} {g : TG} {tt : TT} {tk tv : TE} {use : Option (Value → Sem Unit)} {Qf : Value → Shared → Prop}
    (hu : X.A.units + 1 < cLine) (hc : X.calm = true) (hN : X.N.Nodup) (I : Inv X pins σ H s) (hi : PI X tg iter wi) (ok : BlkOk X.N X.env.scope scope own)
    (hg : BlkP X scope fun Y => PG Y tg g) (ht : BlkP X scope fun Y => PTs Y ifs tt) (hk : BlkP X scope fun Y => PE Y kx tk) (hv : BlkP X scope fun Y => PE Y vx tv) (hs : ∀ x, foldedSetIterable iter X.env x = pure x)
    (h : tDct wi g tt tk tv (own.map (·.2)) σ H Q)
    (fin : ∀ a C s' m H', Inv X pins σ H' s' → Q (.ref a) H' → s'.heap.Ns C m → FpOk X pins H' C → compPost (model X.prog X.w) X.A X.xe use Qf (.ref a) C (.ok .next) s') :
    wpAny (model X.prog X.w) X.A (comprehension (.DictComp kx vx [⟨tg, iter, ifs, 0⟩] scope pos) scope X.env pos' newDict false (eval iter X.env) use) Qf X.xe s := by
  have hfree : ∀ y ∈ scope.names, y.2 = .free → ∃ c, X.env.cells.lookup y.1 = some c := fun y hy e => (ok.free y hy e).elim (fun z => I.ok.has _ (.inl z)) fun z => I.ok.has _ (.inr z)
  refine wpAny_comprehension_free (use := use) rfl hs (closure_ok hfree) ok.kind (fun y hy e => by rw [ok.uniq y hy, e]) (thn (hi.run pins s σ H _ I h) fun xv t1 hx => thn hx fun itv t2 hit => ?_)
  obtain ⟨it, fp, tn, J, Ha, rfl, Ia, Tn, sta, fa, qa⟩ := hit
  refine wpAny_newObj_type (newEnv_comp ?_)
  generalize hA : t2.heap.objs.size = a
  have freshA : Ha a = none := Ia.hok.fresh (Nat.le_of_eq hA)
  obtain ⟨W, ⟨m0, w0⟩, turn⟩ := qa a freshA
  have lt : ∀ b ∈ fp, b < t2.heap.objs.size := fun b hb => let ⟨o, e, _⟩ := Tn.obj _ _ sta b hb; Heap.lt_size e
  -- the new dict stands
  generalize ht3 : ({ t2 with heap := t2.heap.push { cls := .type "dict", data := .dict #[] } } : Shared) = t3
  have hp3 : t3.heap = t2.heap.push { cls := .type "dict", data := .dict #[] } := by rw [← ht3]
  have Ib : Inv X pins σ (L2.upd Ha a (.dT [])) t3 := by
    subst ht3
    refine Ia.laid (t' := t2.toks) (fun b o e => Heap.get?_push_of_some _ e) (Nat.le_of_eq hA) ?_
    rw [← hA]
    exact dt_empty t2.heap Ia.big
  have fb : ∀ b ∈ fp, FpOk X pins (L2.upd Ha a (.dT [])) b ∧ b < t3.heap.objs.size := fun b hb =>
    ⟨⟨by rw [upd_ne (by rw [← hA]; exact Nat.ne_of_lt (lt b hb))]; exact (fa b hb).1, (fa b hb).2⟩, by rw [hp3, Heap.size_push]; exact Nat.lt_succ_of_lt (lt b hb)⟩
  have stb : tn 0 t3.heap := Tn.keep _ _ _ sta fun b _ o e => by rw [hp3]; exact Heap.get?_push_of_some _ e
  have Ic := block_start Ib ok hN fb
  show codeAny _ _ (.compStart (.DictComp kx vx [⟨tg, iter, ifs, 0⟩] scope pos) 0 (.ref it) (.ref a) (compEnvC scope (cellsFrom (t3.heap.objs.size + 1) scope.names (cloFrom X.env.cells scope.names [])) t3.heap.objs.size X.env)) (compPost (model X.prog X.w) X.A X.xe use Qf (.ref a) t3.heap.objs.size) { t3 with heap := pushCells (t3.heap.push { cls := .type "dict", data := .dict #[] }) scope.names }
  generalize hcl : cellsFrom (t3.heap.objs.size + 1) scope.names (cloFrom X.env.cells scope.names []) = cl at Ic ⊢
  have pg := hg t3 (L2.upd Ha a (.dT [])) t3.heap.objs.size cl fp
  have pt := ht t3 (L2.upd Ha a (.dT [])) t3.heap.objs.size cl fp
  have pk := hk t3 (L2.upd Ha a (.dT [])) t3.heap.objs.size cl fp
  have pv := hv t3 (L2.upd Ha a (.dT [])) t3.heap.objs.size cl fp
  have nofp : ∀ b ∈ fp, (L2.upd Ha a (.dT [])) b = none := fun b hb => (fb b hb).1.1
  have cL : (compEnvC scope cl t3.heap.objs.size X.env).locals = t3.heap.objs.size := rfl
  generalize compEnvC scope cl t3.heap.objs.size X.env = ce at Ic pg pt pk pv cL ⊢
  generalize L2.upd Ha a (.dT []) = Hb at Ib Ic pg pt pk pv w0 nofp fb
  have stc : tn 0 (pushCells (t3.heap.push { cls := .type "dict", data := .dict #[] }) scope.names) := Tn.keep _ _ _ stb fun b _ o e => pushCells_keeps _ _ _ _ (Heap.get?_push_of_some _ e)
  generalize ht4 : ({ t3 with heap := pushCells (t3.heap.push { cls := .type "dict", data := .dict #[] }) scope.names } : Shared) = t4 at Ic ⊢
  have stc : tn 0 t4.heap := by rw [← ht4]; exact stc
  have keep : ∀ {σ' : L2.St} {H' : Hp} {s' : Shared}, Inv (X.blk t3 Hb scope ce fp) [] σ' H' s' → (∀ b ∈ fp, H' b = none) → ∀ b ∈ fp, FpOk (X.blk t3 Hb scope ce fp) [] H' b := fun {σ' H' s'} I' hn b hb =>
    ⟨hn b hb, (I'.ok.exf b hb).1, I'.ok.exfs b hb, .inl hb, fun x c e => (I'.ok.exf b hb).2 x c e, fun p hp => nomatch (show p ∈ ([] : List (Addr × Obj)) from hp)⟩
  refine (fun loop => codeAny_compStart_dict loop (Tn.self X.A 0 _ _ _ stc loop) : codeAny (model X.prog X.w) X.A (.compLoop (.DictComp kx vx [⟨tg, iter, ifs, 0⟩] scope pos) 0 (.ref it) (.ref a) ce) (compPost (model X.prog X.w) X.A X.xe use Qf (.ref a) t3.heap.objs.size) t4 → _) ?_
  refine compLoop_anyD (fun n s' => ∃ i H', Inv (X.blk t3 Hb scope ce fp) [] (wipe σ (own.map (·.2))) H' s' ∧ tn i s'.heap ∧ (∀ b ∈ fp, H' b = none) ∧ W i n H') ?_ m0 ⟨0, Hb, Ic, stc, nofp, w0⟩
  rintro n t5 ⟨i, Hd, Id, std, nd, wd⟩
  rcases turn i n Hd wd with ⟨stop, qq⟩ | ⟨go, Nx, hNx, step⟩
  · refine thnF (Tn.done (X.blk t3 Hb scope ce fp) rfl rfl rfl hc i [] t5 _ Hd (fun _ _ => False) Id (keep Id nd) std stop) fun r t6 ⟨hr, Ie⟩ => ?_
    subst hr
    have back : Inv X pins σ Hd t6 := Ib.call' (ch := fp) Ie.os Ie.base Ie.hok Ie.bare fun b hb => ⟨(fb b hb).1.2.2.2.1, (fb b hb).1.2.1, (fb b hb).1.2.2.2.2.1, (fb b hb).1.2.2.2.2.2⟩
    have nC : Hd t3.heap.objs.size = none := by rw [← cL]; exact Ie.free
    obtain ⟨m, hn, _⟩ := Ie.loc
    exact fin a t3.heap.objs.size t6 m Hd back qq (by rw [← cL]; exact hn) (Ib.fpOk (Nat.le_refl _) nC)
  · refine thnF (Tn.item (X.blk t3 Hb scope ce fp) rfl rfl rfl hc i [] t5 _ Hd (fun _ _ => False) Id (keep Id nd) std go) fun r t6 ⟨u, hr, h6⟩ => ?_
    subst hr
    refine thnF h6 fun _ t7 ⟨x, He, Ie, re, ye, ste, ne⟩ => ?_
    have Ip := Ie.pinned (keep Ie ne) (Tn.obj _ _ ste)
    refine thnF (pg.run _ t7 _ He x u _ Ip re (step x He ye)) fun _ t8 ⟨σ8, Hf, If, hw8, qf⟩ => ?_
    have next : ∀ {s' : Shared} {H' : Hp}, Inv (X.blk t3 Hb scope ce fp) ([] ++ pinsAt fp t7.heap) σ8 H' s' → Nx H' → ∃ m, m < n ∧ ∃ i H', Inv (X.blk t3 Hb scope ce fp) [] (wipe σ (own.map (·.2))) H' s' ∧ tn i s'.heap ∧ (∀ b ∈ fp, H' b = none) ∧ W i m H' := fun {s' H'} I' nx => by
      obtain ⟨m', hm, w'⟩ := hNx H' nx
      have pin' : ∀ b ∈ fp, ∀ o, t7.heap.get? b = some o → s'.heap.get? b = some o ∧ H' b = none := fun b hb o e => let z := I'.pin (b, o) (List.mem_append_right _ (List.mem_append_right _ (mem_pinsAt hb e))); ⟨z.1, z.2.1⟩
      refine ⟨m', hm, i + 1, H', (I'.unpinned (pins := [])).weak (by rw [← hw8, wipe_length]) (fun j v e => ?_), Tn.keep _ _ _ ste fun b hb o e => (pin' b hb o e).1, fun b hb => ?_, w'⟩
      · rw [← hw8] at e
        exact (L2.wipe_some e).1
      · obtain ⟨o, e, _⟩ := Tn.obj _ _ ste b hb
        exact (pin' b hb o e).2
    refine thnF (pt.run _ t8 σ8 Hf _ If qf) fun b t9 ⟨Hg, Ig, qg⟩ => ?_
    cases b with
    | false => exact next Ig (show Nx Hg by simpa using qg)
    | true =>
      simp only [if_true] at qg ⊢
      refine thnF (pk.run _ t9 σ8 Hg _ Ig qg) fun z t10 ⟨yk, Hh, Ih, rh, qh⟩ => ?_
      refine thnF (pv.run _ t10 σ8 Hh _ Ih qh) fun z2 t11 ⟨yv, Hi, Ii, ri, kvs, k, b', ek, hb', hAi, hz, nx⟩ => ?_
      subst ek
      cases (show z = Value.ref b' from rh)
      exact dct_set (X := X.blk t3 Hb scope ce fp) hu Ii hAi hb' hz ri fun t12 Ij => next Ij nx
/-- as a value -/
theorem pe_dct {kx vx tg iter : Expr} {ifs : List Expr} {scope : Scope} {own : List (Str × Nat)} {pos : Pos} {wi : TI} {g : TG} {tt : TT} {tk tv : TE} (hu : X.A.units + 1 < cLine) (hc : X.calm = true) (hN : X.N.Nodup) (hi : PI X tg iter wi) (ok : BlkOk X.N X.env.scope scope own)
    (hg : BlkP X scope fun Y => PG Y tg g) (ht : BlkP X scope fun Y => PTs Y ifs tt) (hk : BlkP X scope fun Y => PE Y kx tk) (hv : BlkP X scope fun Y => PE Y vx tv) (hs : ∀ x, foldedSetIterable iter X.env x = pure x) :
    PE X (.DictComp kx vx [⟨tg, iter, ifs, 0⟩] scope pos) (tDct wi g tt tk tv (own.map (·.2))) := by
  refine ⟨fun pins s σ H Q I h => ?_⟩
  rw [arm_eval_DictComp]
  refine dct_core hu hc hN I hi ok hg ht hk hv hs h fun a C s' m H' I' q hn f => ⟨m, hn, fun h'' sb => ?_⟩
  obtain ⟨f0, f1, _, f3, f4, f5⟩ := f
  exact ⟨.ref a, H', I'.turned (t' := s'.toks) (fun b o hb e => (sb.2 b hb).trans e) f0 f1 f3 f4 f5, rfl, q⟩
/-- name = {..}, the stores swapped -/
theorem ps_setDct {i : Nat} {y : Str} {py : Pos} {kx vx tg iter : Expr} {ifs : List Expr} {scope : Scope} {own : List (Str × Nat)} {pos spos : Pos} {wi : TI} {g : TG} {tt : TT} {tk tv : TE} (hu : X.A.units + 1 < cLine) (hc : X.calm = true) (hN : X.N.Nodup) (hy : X.N[i]? = some y) (hyl : X.env.scope.names.lookup y = some .local)
    (hsw : swapsWith (.DictComp kx vx [⟨tg, iter, ifs, 0⟩] scope pos) (some (.Name y py)) spos.line X.env = pure true) (hi : PI X tg iter wi) (ok : BlkOk X.N X.env.scope scope own)
    (hg : BlkP X scope fun Y => PG Y tg g) (ht : BlkP X scope fun Y => PTs Y ifs tt) (hk : BlkP X scope fun Y => PE Y kx tk) (hv : BlkP X scope fun Y => PE Y vx tv) (hs : ∀ x, foldedSetIterable iter X.env x = pure x) :
    PS X (.Assign [.Name y py] (.DictComp kx vx [⟨tg, iter, ifs, 0⟩] scope pos) spos) (tAsg (tDct wi g tt tk tv (own.map (·.2))) (gName i)) := by
  refine ⟨fun pins s σ H D I h => ?_⟩
  rw [exec_Assign_Name_used _ _ _ _ hsw]
  refine wpAny_bind (wpAny_standAt (wpAny_bind ?_))
  show wpAny _ X.A (do let _ ← comprehension (.DictComp kx vx [⟨tg, iter, ifs, 0⟩] scope pos) scope X.env (firstIterPos [⟨tg, iter, ifs, 0⟩] pos) newDict false (eval iter X.env) (some (assign (.Name y py) X.env))) _ _ s
  have h : tDct wi g tt tk tv (own.map (·.2)) σ H (fun x H1 => gName i x σ H1 D.nx) := h
  refine wpAny_bind (thn (dct_core (Qf := fun _ s' => SP X pins D .next s') hu hc hN I hi ok hg ht hk hv hs h fun L C s' m H' I' q hn f => ?_) fun _ s' hq => wpAny_pure (wpAny_pure hq))
  show wpAny _ _ (assign (.Name y py) X.env (.ref L)) _ _ _
  obtain ⟨f0, f1, _, f3, f4, f5⟩ := f
  refine wpAny_assign_Name (store_ok2 (v := V.ref L) I' hN hy (.inl hyl) rfl (fun s2 I2 ⟨b, sb, hb⟩ => ?_) (.inr hyl))
  have ne : C ≠ b := hb.elim (fun z => by rw [z]; exact f1) fun z e => f4 y b z e.symm
  exact ⟨m, hn.sameBut sb ne, fun h3 sb3 => ⟨_, H', I2.turned (t' := s2.toks) (fun b o hb e => (sb3.2 b hb).trans e) f0 f1 f3 f4 f5, q⟩⟩
end
end MM
end
section
set_option Elab.async false
set_option linter.all false
set_option maxRecDepth 100000
set_option maxHeartbeats 4000000
/-! Dict comprehensions whose keys are new tuples: read over trees. -/
namespace MM
open PySem PySem.Spec PyProof.Rows L2
variable [Lams]
/-- a value that is a new tuple -/
def GoodK0 (T : List (Addr × Str)) (K : PySem.W.Frag) (mg : Str → Option Value) (σ : L2.St) (H : Hp) (ρ : Rh) (δ : En) (Q : VK) : Res D → Prop
  | .ok d S => d.hasClo = false ∧ ∀ b xs l H' ρ', d = .tup l → Le H ρ H' ρ' → Wld0 T K mg σ H' ρ' δ S → H' b = some (.tup xs) → RDs (pr0 K mg H' ρ') l xs → Q (.ref b) H'
  | _ => False
def embK0 (T : List (Addr × Str)) (K : PySem.W.Frag) (mg : Str → Option Value) (f : En → Store → Res D) : TE := fun σ H Q => ∃ ρ δ S, Wld0 T K mg σ H ρ δ S ∧ GoodK0 T K mg σ H ρ δ Q (f δ S)
section
variable {T : List (Addr × Str)} {X : Cx} {W : WX} {σ : L2.St} {H H1 H2 : Hp} {ρ ρ1 ρ2 : Rh} {δ : En} {S : Store} {Q : VK} {K : PySem.W.Frag} {mg : Str → Option Value}
/-- a part of a tuple is a new one -/
theorem pe_slpK {a : Expr} {lo hi : Option Expr} {pos p2 : Pos} {fa : En → Store → Res D} {fl fh : En → Store → Res (Option Int)} (ha : DE T X W a fa) (hl : DO T X W lo fl) (hh : DO T X W hi fh) :
    PE X (.Subscript a (.Slice lo hi none p2) pos) (embK0 T X.K X.mg (fun δ S => (fa δ S).bind fun x S => (fl δ S).bind fun l S => (fh δ S).bind fun h S => opSlp S x l h)) := by
  refine PE_weak (pe_slice sl_tupA ha hl hh) ?_
  rintro σ H Q ⟨ρ, δ, S, w0, h⟩
  dsimp only at h
  cases e1 : fa δ S with
  | exc _ _ _ _ => rw [e1] at h; exact h.elim
  | bad => rw [e1] at h; exact h.elim
  | ok d1 S1 =>
  rw [e1, Res.bind_ok] at h
  cases e2 : fl δ S1 with
  | exc _ _ _ _ => rw [e2] at h; exact h.elim
  | bad => rw [e2] at h; exact h.elim
  | ok lo' S2 =>
  rw [e2, Res.bind_ok] at h
  cases e3 : fh δ S2 with
  | exc _ _ _ _ => rw [e3] at h; exact h.elim
  | bad => rw [e3] at h; exact h.elim
  | ok hi' S3 =>
  rw [e3, Res.bind_ok] at h
  refine ⟨ρ, δ, S, w0.up, ?_⟩
  rw [e1]
  intro v H1 ρ1 l1 w1 r1
  refine ⟨ρ1, δ, S1, w1, ?_⟩
  rw [e2]
  intro H2 ρ2 l2 w2
  refine ⟨ρ2, δ, S2, w2, ?_⟩
  rw [e3]
  intro H3 ρ3 l3 w3
  unfold opSlp at h
  split at h
  · rename_i l
    split at h
    · exact h.elim
    · rename_i hn
      obtain ⟨p, xs, ep, s1, rr⟩ := (r1.le (w1.ple l2)).le (w2.ple l3)
      refine ⟨p, xs, ep, s1, fun z => absurd ⟨by rw [rr.length]; exact z.1, by rw [rr.length]; exact z.2⟩ hn, fun z t ht => ?_⟩
      have wd : Wld0 T X.K X.mg σ H3 ρ3 δ S3 := w3.down fun i d e => (w0.slot i d e).1
      have hc : D.hasCloL (cutD l lo' hi') = false := by
        have := h.1
        unfold D.hasClo at this
        exact this
      exact h.2 t _ _ _ ρ3 rfl (((l1.trans l2).trans l3).trans (Le.upd ht)) (wd.upd ht) upd_same (RDs.noclo (p := pr X σ _ ρ3) (p' := pr0 X.K X.mg _ ρ3) rfl rfl rfl rfl _ _ hc ((rr.le (ple_upd w3 ht)).cut lo' hi'))
  · exact h.elim
theorem keys_eq {p : PR} : ∀ (l : List D) (xs : List V) (k : List Key), RDs p l xs → toKeysL l = some k → xs = k.map kV
  | [], xs, k, r, e => by
    cases e
    exact r
  | d :: l, xs, k, r, e => by
    obtain ⟨y, ys, rfl, r1, r2⟩ := r
    unfold toKeysL at e
    cases hd : toKey d with
    | none => rw [hd] at e; cases e
    | some q =>
      rw [hd] at e
      obtain ⟨k', e1, e2⟩ := Option.map_eq_some_iff.mp e
      subst e2
      rw [List.map_cons, ← keys_eq l ys k' r2 e1]
      unfold toKey at hd
      cases d with
      | int i => cases hd; rw [show y = .int i from r1]; rfl
      | str i => cases hd; rw [show y = .str i from r1]; rfl
      | _ => cases hd
theorem put_mapT {p : PR} {x : List Key} {d : D} {v : V} (rd : RD p d v) : ∀ (vs : List D) (kvs : List (List Key × V)), RDs p vs (kvs.map (·.2)) →
    RDs p (((kvs.map (·.1)).zip vs).map fun q => if q.1 = x then d else q.2) ((kvs.map fun kv => if kv.1 = x then (kv.1, v) else kv).map (·.2))
  | vs, [], r => rfl
  | [], q :: kvs, r => by
    have := r.length
    simp at this
  | u :: vs, q :: kvs, r => by
    obtain ⟨y, ys, e, r1, r2⟩ := r
    injection e with ea eb
    subst ea eb
    have ih := put_mapT (x := x) rd vs kvs r2
    rw [List.map_cons, List.zip_cons_cons, List.map_cons, List.map_cons, List.map_cons]
    refine ⟨_, _, rfl, ?_, ih⟩
    show RD p (if q.1 = x then d else u) (if q.1 = x then (q.1, v) else q).2
    split
    · exact rd
    · exact r1
theorem put_okT {p : PR} {x : List Key} {d : D} {v : V} (rd : RD p d v) : ∀ (ks : List (List Key)) (vs : List D) (kvs : List (List Key × V)), ks = kvs.map (·.1) → RDs p vs (kvs.map (·.2)) →
    (dicPut ks vs x d).1 = (putK kvs x v).map (·.1) ∧ RDs p (dicPut ks vs x d).2 ((putK kvs x v).map (·.2)) := by
  intro ks vs kvs e r
  subst e
  have anyE : ((kvs.map (·.1)).any fun k => decide (k = x)) = kvs.any fun kv => decide (kv.1 = x) := by rw [List.any_map]; rfl
  unfold dicPut putK
  rw [anyE]
  split
  · refine ⟨?_, ?_⟩
    · rw [List.map_map]
      refine List.map_congr_left fun q _ => ?_
      show q.1 = (if q.1 = x then (q.1, v) else q).1
      split <;> rfl
    · exact put_mapT rd vs kvs r
  · refine ⟨by rw [List.map_append]; rfl, ?_⟩
    rw [List.map_append]
    exact r.append ⟨v, [], rfl, rd, rfl⟩
theorem dcLoop_c {c : Store → Bool} {step : D → Store → Res (Option (List Key × D))} {l : List D} {ks : List (List Key)} {vs : List D} (h : c S = false) : dcLoop c step l S ks vs = .bad := by
  cases l with
  | nil =>
    unfold dcLoop
    rw [h]
    rfl
  | cons d r =>
    unfold dcLoop
    rw [h]
    rfl
theorem stepD_some {tg : List Nat} {δ0 : En} {fc fk fv : En → Store → Res D} {d : D} {e : List Key × D} {S' : Store} (h : stepD toKeys tg δ0 fc fk fv d S = .ok (some e) S') :
    d.hasClo = false ∧ ∃ δ1 Sa Sb x, bindG tg d δ0 = some δ1 ∧ fc δ1 S = .ok (.bl true) Sa ∧ fk δ1 Sa = .ok x Sb ∧ x.hasClo = false ∧ toKeys x = some e.1 ∧ fv δ1 Sb = .ok e.2 S' ∧ e.2.hasClo = false := by
  unfold stepD at h
  cases hc : d.hasClo with
  | true => rw [hc, if_pos rfl] at h; cases h
  | false =>
    rw [hc, if_neg Bool.false_ne_true] at h
    refine ⟨rfl, ?_⟩
    cases hb : bindG tg d δ0 with
    | none => rw [hb] at h; cases h
    | some δ1 =>
      rw [hb] at h
      dsimp only at h
      refine ⟨δ1, ?_⟩
      cases e1 : fc δ1 S with
      | exc _ _ _ _ => rw [e1] at h; cases h
      | bad => rw [e1] at h; cases h
      | ok b Sa =>
        rw [e1, Res.bind_ok] at h
        cases b with
        | bl b =>
          cases b with
          | false => cases h
          | true =>
            dsimp only at h
            cases e2 : fk δ1 Sa with
            | exc _ _ _ _ => rw [e2] at h; cases h
            | bad => rw [e2] at h; cases h
            | ok x Sb =>
              rw [e2, Res.bind_ok] at h
              cases hx : x.hasClo with
              | true => rw [hx, if_pos rfl] at h; cases h
              | false =>
                rw [hx, if_neg Bool.false_ne_true] at h
                cases e3 : fv δ1 Sb with
                | exc _ _ _ _ => rw [e3] at h; cases h
                | bad => rw [e3] at h; cases h
                | ok y Sc =>
                  rw [e3, Res.bind_ok] at h
                  cases ht : toKeys x with
                  | none => rw [ht] at h; cases h
                  | some z =>
                    rw [ht] at h
                    dsimp only at h
                    cases hy : y.hasClo with
                    | true => rw [hy, if_pos rfl] at h; cases h
                    | false =>
                      rw [hy, if_neg Bool.false_ne_true] at h
                      cases h
                      exact ⟨Sa, Sb, x, rfl, rfl, e2, hx, ht, e3, hy⟩
        | _ => cases h
theorem stepD_none {tg : List Nat} {δ0 : En} {fc fk fv : En → Store → Res D} {d : D} {S' : Store} (h : stepD toKeys tg δ0 fc fk fv d S = .ok none S') :
    d.hasClo = false ∧ ∃ δ1, bindG tg d δ0 = some δ1 ∧ fc δ1 S = .ok (.bl false) S' := by
  unfold stepD at h
  cases hc : d.hasClo with
  | true => rw [hc, if_pos rfl] at h; cases h
  | false =>
    rw [hc, if_neg Bool.false_ne_true] at h
    refine ⟨rfl, ?_⟩
    cases hb : bindG tg d δ0 with
    | none => rw [hb] at h; cases h
    | some δ1 =>
      rw [hb] at h
      dsimp only at h
      refine ⟨δ1, rfl, ?_⟩
      cases e1 : fc δ1 S with
      | exc _ _ _ _ => rw [e1] at h; cases h
      | bad => rw [e1] at h; cases h
      | ok b Sa =>
        rw [e1, Res.bind_ok] at h
        cases b with
        | bl b =>
          cases b with
          | false => cases h; rfl
          | true =>
            dsimp only at h
            cases e2 : fk δ1 Sa with
            | exc _ _ _ _ => rw [e2] at h; cases h
            | bad => rw [e2] at h; cases h
            | ok x Sb =>
              rw [e2, Res.bind_ok] at h
              split at h
              · cases h
              · cases e3 : fv δ1 Sb with
                | exc _ _ _ _ => rw [e3] at h; cases h
                | bad => rw [e3] at h; cases h
                | ok y Sc =>
                  rw [e3, Res.bind_ok] at h
                  split at h
                  · split at h <;> cases h
                  · cases h
        | _ => cases h
/-- the loop -/
theorem dct_go {J : It} {l : List D} {c : Store → Bool} {tg : List Nat} {vs : List Nat} {fc fk fv : En → Store → Res D} {S1 : Store} (w1 : Wld T X σ H1 ρ1 δ S1) (hW : WalkD X.K X.mg J ⟨l, c⟩ H1 ρ1) (hg : ∀ i ∈ tg, i ∈ vs)
    (h : Good T X W σ H1 ρ1 δ Q ((dcLoop c (stepD toKeys tg (wipeC (wipeE δ vs)) fc fk fv) l S1 [] []).bind fun r S => .ok (.dct r.1 r.2) S)) :
    ∀ a, H1 a = none → ∃ Wf : Nat → Nat → Hp → Prop, (∃ n, Wf 0 n (L2.upd H1 a (.dT []))) ∧ ∀ i n H, Wf i n H →
      (J.stop i H ∧ Q (.ref a) H) ∨ (J.go i H ∧ ∃ Nx : Hp → Prop, (∀ H', Nx H' → ∃ n', n' < n ∧ Wf (i + 1) n' H') ∧ ∀ x H', J.yld i H x H' → gB X.K tg x (wipe σ vs) H' fun σ2 H2 => wipe σ2 vs = wipe σ vs ∧ embT0 T X.K X.mg fc σ2 H2 fun b H3 =>
        if b = true then embK0 T X.K X.mg fk σ2 H3 fun y H4 => embE0 T X.K X.mg fv σ2 H4 fun z H5 => ∃ kvs k b', y = .ref b' ∧ H5 b' = some (.tup (k.map kV)) ∧ H5 a = some (.dT kvs) ∧ kvs.length < sizeLine ∧ Nx (L2.upd H5 a (.dT (putK kvs k z))) else Nx H3) := by
  intro a hA
  have hAn : a ∉ ρ1 := w1.sto.fresh hA
  let Inv' : Nat → Hp → Prop := fun i H => i ≤ l.length ∧ ∃ (ρ : Rh) (S : Store) (ks : List (List Key)) (us : List D) (kvs : List (List Key × V)), ρ.w = a :: ρ1.w ∧ H a = some (.dT kvs) ∧ ks = kvs.map (·.1) ∧ RDs (pr0 X.K X.mg H ρ) us (kvs.map (·.2)) ∧ Le H1 ρ1 H ⟨ρ.l, ρ1.w⟩ ∧ D.hasCloL us = false ∧
    Wld0 T X.K X.mg (wipe σ vs) H ρ (wipeC (wipeE δ vs)) S ∧ Good T X W σ H1 ρ1 δ Q ((dcLoop c (stepD toKeys tg (wipeC (wipeE δ vs)) fc fk fv) (l.drop i) S ks us).bind fun r S => .ok (.dct r.1 r.2) S)
  refine ⟨fun i n H => n = l.length - i ∧ Inv' i H, ⟨l.length, by simp, ?_⟩, ?_⟩
  · refine ⟨Nat.zero_le _, ⟨ρ1.l, a :: ρ1.w⟩, S1, [], [], [], rfl, upd_same, rfl, rfl, Le.upd hA, rfl, ?_, h⟩
    exact (w1.wiped vs).to (ple_in w1.sto hA) (w1.sto.inn hA (.inr (.inr ⟨_, rfl⟩))) (tabs_upd w1.tabs hA)
  · rintro i n H ⟨rfl, hi, ρ, S, ks, us, kvs, hw, hHA, hks, hus, hle, hcl, w, hG⟩
    have pl : PLe (pr0 X.K X.mg H1 ρ1) (pr0 X.K X.mg H ρ) := ple_mid w1.sto hA hw hle
    have hcS : c S = true := by
      cases hq : c S with
      | true => rfl
      | false =>
        rw [dcLoop_c hq] at hG
        exact hG.elim
    obtain ⟨k1, k2, k3⟩ := hW i H ρ S pl w.sto hcS
    have hAw : a ∈ ρ.w := by rw [hw]; exact List.mem_cons_self
    by_cases hlt : i < l.length
    · refine .inr ⟨k1 hlt, Inv' (i + 1), fun H' q => ⟨l.length - (i + 1), by omega, rfl, q⟩, fun x H' y => ?_⟩
      obtain ⟨hH, d, hd, hrd⟩ := k3 x H' hlt y
      rw [drop_cons hd] at hG
      unfold dcLoop at hG
      rw [if_pos hcS] at hG
      obtain ⟨le1, w'⟩ : Le H ρ H' ρ ∧ Wld0 T X.K X.mg (wipe σ vs) H' ρ (wipeC (wipeE δ vs)) S := by
        rcases hH with e | ⟨Tt, xs, hn, e⟩
        · rw [e]
          exact ⟨Le.rfl', w⟩
        · rw [e]
          exact ⟨Le.upd hn, w.upd hn⟩
      have keyA : ∀ {H2 : Hp} {ρ2 : Rh}, Le H' ρ H2 ρ2 → H2 a = some (.dT kvs) := fun {H2 ρ2} l2 => l2.keep a _ (le1.keep a _ hHA (fun z => (w.sto.wk a hAw).2 z) (fun _ z => by cases z)) (fun z => (w.sto.wk a hAw).2 z) (fun _ z => by cases z)
      have fwd : ∀ {H2 : Hp} {ρ2 : Rh} {S2 : Store}, Le H' ρ H2 ρ2 → StoreOk X.K X.mg H2 ρ2 S2 → LamX.Tabs T H2 → ρ2.w = a :: ρ1.w ∧ RDs (pr0 X.K X.mg H2 ρ2) us (kvs.map (·.2)) ∧ Le H1 ρ1 H2 ⟨ρ2.l, ρ1.w⟩ ∧ Wld0 T X.K X.mg (wipe σ vs) H2 ρ2 (wipeC (wipeE δ vs)) S2 := fun {H2 ρ2 S2} l2 s2 t2 =>
        have l3 := le1.trans l2
        ⟨l3.w.trans hw, hus.le (w.ple l3), hle.trans (l3.rew ρ1.w), w.to (w.ple l3) s2 t2⟩
      split at hG
      · rename_i e S' hstep
        obtain ⟨hdc, δ1, Sa, Sb, kx, hb, hfc, hfk, hkc, htk, hfv, hec⟩ := stepD_some hstep
        obtain ⟨hz, hG⟩ : ks.length < line ∧ Good T X W σ H1 ρ1 δ Q ((dcLoop c (stepD toKeys tg (wipeC (wipeE δ vs)) fc fk fv) (l.drop (i + 1)) S' (dicPut ks us e.1 e.2).1 (dicPut ks us e.1 e.2).2).bind fun r S => .ok (.dct r.1 r.2) S) := by
          split at hG
          · exact ⟨‹_›, hG⟩
          · exact hG.elim
        refine bind0 w' hdc (hrd hdc ρ (w.ple le1)) hb hg fun σ2 w2 hw2 hl2 hout => ⟨hw2.trans (wipe_wipe σ vs), ?_⟩
        refine good0_ok hfc rfl (fun v H3 ρ3 l3 w3 r3 => ⟨true, r3, ?_⟩) w2
        refine itT ?_
        refine ⟨ρ3, δ1, Sa, w3, ?_⟩
        rw [hfk]
        refine ⟨hkc, fun b xs kl H4 ρ4 ekl l4 w4 hb4 rk => ?_⟩
        refine good0_ok hfv hec (fun y H5 ρ5 l5 w5 r5 => ?_) w4
        have l345 := (l3.trans l4).trans l5
        have hA5 := keyA l345
        obtain ⟨f1, f2, f3, f4⟩ := fwd l345 w5.sto w5.tabs
        have hA5w : a ∈ ρ5.w := by rw [f1]; exact List.mem_cons_self
        have hxs : xs = e.1.map kV := by
          rw [ekl] at htk
          exact keys_eq kl xs e.1 rk htk
        have hb5 : H5 b = some (.tup (e.1.map kV)) := by
          rw [← hxs]
          exact l5.keep b _ hb4 (fun z => by
            rcases w4.sto.there z with ⟨_, q⟩ | ⟨_, _, _, q⟩ <;> rw [hb4] at q <;> cases q) (fun _ z => by cases z)
        have pw := ple_wput (o := .dT (putK kvs e.1 y)) w5.sto hA5w
        obtain ⟨p1, p2⟩ := put_okT (x := e.1) (r5.le pw) ks us kvs hks (f2.le pw)
        have hclP : D.hasCloL (dicPut ks us e.1 e.2).2 = false := by
          unfold dicPut
          split
          · have : ∀ (ks : List (List Key)) (us : List D), D.hasCloL us = false → D.hasCloL ((ks.zip us).map fun q => if q.1 = e.1 then e.2 else q.2) = false := by
              intro ks
              induction ks with
              | nil => exact fun us _ => rfl
              | cons k ks ih =>
                intro us h
                cases us with
                | nil => rfl
                | cons u us =>
                  unfold D.hasCloL at h
                  rw [Bool.or_eq_false_iff] at h
                  rw [List.zip_cons_cons, List.map_cons]
                  unfold D.hasCloL
                  rw [ih us h.2, Bool.or_false]
                  show D.hasClo (if k = e.1 then e.2 else u) = false
                  split
                  · exact hec
                  · exact h.1
            exact this ks us hcl
          · exact clo_app hcl hec
        refine ⟨kvs, e.1, b, rfl, hb5, hA5, by rw [← line_eq]; rw [hks, List.length_map] at hz; exact hz, hlt, ρ5, S', (dicPut ks us e.1 e.2).1, (dicPut ks us e.1 e.2).2, putK kvs e.1 y, f1, upd_same, p1, p2, ?_, hclP, ?_, hG⟩
        · have ne : ∀ a' u, H1 a' = some u → a' ≠ a := fun a' u e => ne_of_none e hA
          exact ⟨f3.pre, rfl, fun a' u e n t => by rw [upd_ne (ne a' u e)]; exact f3.keep a' u e n t, fun a' u e => by
            obtain ⟨o', q⟩ := f3.still a' u e
            exact ⟨o', by rw [upd_ne (ne a' u e)]; exact q⟩⟩
        · exact f4.to (ple_wput w5.sto hA5w) (w5.sto.wput hA5w (.inr (.inr ⟨_, rfl⟩))) (tabs_put w5.tabs hA5 (fun _ z => by cases z) (fun _ z => by cases z))
      · rename_i S' hstep
        obtain ⟨hdc, δ1, hb, hfc⟩ := stepD_none hstep
        refine bind0 w' hdc (hrd hdc ρ (w.ple le1)) hb hg fun σ2 w2 hw2 hl2 hout => ⟨hw2.trans (wipe_wipe σ vs), ?_⟩
        refine good0_ok hfc rfl (fun v H3 ρ3 l3 w3 r3 => ⟨false, r3, ?_⟩) w2
        refine itF ?_
        obtain ⟨f1, f2, f3, f4⟩ := fwd l3 w3.sto w3.tabs
        exact ⟨hlt, ρ3, S', ks, us, kvs, f1, keyA l3, hks, f2, f3, hcl, f4, hG⟩
      · exact hG.elim
    · have e : i = l.length := by omega
      refine .inl ⟨k2 e, ?_⟩
      rw [e, List.drop_length] at hG
      unfold dcLoop at hG
      rw [if_pos hcS] at hG
      have hG : Good T X W σ H1 ρ1 δ Q (.ok (.dct ks us) S) := hG
      have hsub : ∀ a' ∈ ρ1.w, a' ∈ ρ.w := fun a' ha => by rw [hw]; exact List.mem_cons_of_mem _ ha
      have so := w.sto.shrink hsub
      refine hG (.ref a) H ⟨ρ.l, ρ1.w⟩ hle (w1.next hle so w.tabs) ⟨a, kvs, rfl, ?_, hHA, hks, ?_⟩
      · rintro (z | z)
        · exact (w.sto.wk a hAw).2 z
        · exact hAn (.inr z)
      · exact RDs.noclo (p := pr0 X.K X.mg H ⟨ρ.l, ρ1.w⟩) (p' := pr X σ H ⟨ρ.l, ρ1.w⟩) rfl rfl rfl rfl us _ hcl (hus.le (ple_shrink w.sto hsub))
/-- as a value; stored, the stores swapped -/
theorem de_dct {kx vx tg iter : Expr} {ifs : List Expr} {scope : Scope} {own : List (Str × Nat)} {pos : Pos} {g : List Nat} {fi : En → Store → Res MM.Its} {fc fk fv : En → Store → Res D} (hu : X.A.units + 1 < cLine) (hc : X.calm = true) (hN : X.N.Nodup) (hi : DI T X W tg iter fi) (ok : BlkOk X.N X.env.scope scope own)
    (hg : BlkP X scope fun Y => PG Y tg (gB X.K g)) (hgo : ∀ i ∈ g, i ∈ own.map (·.2)) (ht : BlkP X scope fun Y => PTs Y ifs (embT0 T X.K X.mg fc)) (hk : BlkP X scope fun Y => PE Y kx (embK0 T X.K X.mg fk)) (hv : BlkP X scope fun Y => DE T Y W0 vx fv) (hs : ∀ x, foldedSetIterable iter X.env x = pure x) :
    DE T X W (.DictComp kx vx [⟨tg, iter, ifs, 0⟩] scope pos) (fun δ S => (fi δ S).bind fun I S => (dcLoop I.c (stepD toKeys g (wipeC (wipeE δ (own.map (·.2)))) fc fk fv) I.l S [] []).bind fun r S => .ok (.dct r.1 r.2) S) := by
  refine PE_weak (pe_dct (tv := embE0 T X.K X.mg fv) hu hc hN hi ok hg ht hk (fun s H C cl fp => pe0 (hv s H C cl fp)) hs) ?_
  rintro σ H Q ⟨ρ, δ, S, w, h⟩
  refine ⟨ρ, δ, S, w, ?_⟩
  have h : Good T X W σ H ρ δ Q ((fi δ S).bind fun I S => (dcLoop I.c (stepD toKeys g (wipeC (wipeE δ (own.map (·.2)))) fc fk fv) I.l S [] []).bind fun r S => .ok (.dct r.1 r.2) S) := h
  generalize fi δ S = r at h ⊢
  cases r with
  | ok l S1 =>
    intro J H1 ρ1 l1 w1 hW
    have h : Good T X W σ H ρ δ Q ((dcLoop l.c (stepD toKeys g (wipeC (wipeE δ (own.map (·.2)))) fc fk fv) l.l S1 [] []).bind fun r S => .ok (.dct r.1 r.2) S) := h
    exact dct_go w1 hW hgo (Good.le h l1)
  | exc _ _ _ _ => exact h
  | bad => exact h
end
end MM
end
section
set_option Elab.async false
set_option linter.all false
set_option maxRecDepth 100000
set_option maxHeartbeats 4000000
/-! Statements: their language, its evaluator. -/
namespace MM
open PySem
inductive Tg where
  | nam (c : Bool) (i : Nat)
  | sub (o ix : Tm)
inductive Sm where
  | set (g : Tg) (e : Tm)
  | unp (gs : List Tg) (e : Tm)
  | par (i j : Nat) (es : List Tm)
  | fld (o : Tm) (f : Str) (e : Tm)
  | ret (e : Tm) | retN | pas
  | exp (e : Tm)
  | ite (c : Tm) (a b : List Sm)
  | whl (c : Tm) (b : List Sm)
  | for (c : Bool) (g : List Nat) (ik : Ik) (it : List Tm) (b : List Sm)
  | rse
  | brk | cnt
inductive Fl where
  | nx (δ : En) | ret (d : D) | brk (δ : En) | cnt (δ : En)
def setE (c : Bool) (i : Nat) (d : D) (δ : En) : Res En := if c then (if d.hasClo then .bad else .ok ((wipeC δ).set i (some d)) []) else .ok (δ.set i (some d)) []
/-- the store of a list's item -/
def opPut (S : Store) (o i d : D) : Option Store := match o, i with
  | .ref k, .int j => match S[k]? with
    | some (.lst xs) => if d.hasClo then none else match L2.ixN xs.length j with
      | some n => some (S.set k (.lst (xs.set n d)))
      | none => none
    | _ => none
  | _, _ => none
def asnG (g : GE) (t : Tg) (d : D) (δ : En) (S : Store) : Res En := match t with
  | .nam c i => if c then (if d.hasClo then .bad else .ok ((wipeC δ).set i (some d)) S) else .ok (δ.set i (some d)) S
  | .sub o ix => if d.hasClo then .bad else (ev g o δ S).bind fun x S => (ev g ix δ S).bind fun y S => match opPut S x y d with
    | some S' => .ok δ S'
    | none => .bad
def asnGs (g : GE) : List Tg → List D → En → Store → Res En
  | [], [], δ, S => .ok δ S
  | t :: ts, d :: ds, δ, S => (asnG g t d δ S).bind fun δ S => asnGs g ts ds δ S
  | _, _, _, _ => .bad
def putFD (f : Str) (d : D) : List Str → List D → List Str × List D
  | n :: ns, v :: vs => if n = f then (n :: ns, d :: vs) else ((n :: (putFD f d ns vs).1), (v :: (putFD f d ns vs).2))
  | _, _ => ([f], [d])
/-- the store of a field -/
def opFldPut (g : GE) (S : Store) (o : D) (f : Str) (d : D) : Option Store := match o with
  | .ref k => match S[k]? with
    | some (.ins c ns vs) => if d.hasClo then none else if ns.length < 900 ∧ g.fs c f = true then some (S.set k (.ins c (putFD f d ns vs).1 (putFD f d ns vs).2)) else none
    | _ => none
  | _ => none
def seqF (r : Res Fl) (k : En → Store → Res Fl) : Res Fl := r.bind fun o S => match o with
  | .nx δ => k δ S
  | o => .ok o S
def forLoop (c : Store → Bool) (step : D → En → Store → Res Fl) : List D → En → Store → Res Fl
  | [], δ, S => if c S then .ok (.nx δ) S else .bad
  | d :: r, δ, S => if c S then (step d δ S).bind fun o S => match o with
    | .nx δ => forLoop c step r δ S
    | .cnt δ => forLoop c step r δ S
    | .brk δ => .ok (.nx δ) S
    | .ret v => .ok (.ret v) S
    else .bad
def whlLoop (cnd : En → Store → Res D) (body : En → Store → Res Fl) : Nat → En → Store → Res Fl
  | 0, _, _ => .bad
  | n + 1, δ, S => (cnd δ S).bind fun b S => match b with
    | .bl true => (body δ S).bind fun o S => match o with
      | .nx δ => whlLoop cnd body n δ S
      | .cnt δ => whlLoop cnd body n δ S
      | .brk δ => .ok (.nx δ) S
      | .ret v => .ok (.ret v) S
    | .bl false => .ok (.nx δ) S
    | _ => .bad
/-- for -/
def stepF (c : Bool) (tg : List Nat) (fb : En → Store → Res Fl) (d : D) (δ : En) (S : Store) : Res Fl :=
  if d.hasClo then .bad else match bindG tg d (if c then wipeC δ else δ) with
    | some δ1 => fb δ1 S
    | none => .bad
@[irreducible] def fuelW : Nat := 10 ^ 6000
def retF (d : D) (S : Store) : Res Fl := if d.hasClo then .bad else .ok (.ret d) S
mutual
def ex (g : GE) : Sm → En → Store → Res Fl
  | .set t e, δ, S => (ev g e δ S).bind fun d S => (asnG g t d δ S).bind fun δ S => .ok (.nx δ) S
  | .unp ts e, δ, S => (ev g e δ S).bind fun d S => match d with
    | .tup l => if D.hasCloL l then .bad else if l.length = ts.length then (asnGs g ts l δ S).bind fun δ S => .ok (.nx δ) S else .bad
    | _ => .bad
  | .par i j es, δ, S => (evs g es δ S).bind fun l S => match l with
    | [a, b] => .ok (.nx ((δ.set i (some a)).set j (some b))) S
    | _ => .bad
  | .fld o f e, δ, S => (ev g e δ S).bind fun d S => (ev g o δ S).bind fun x S => match opFldPut g S x f d with
    | some S' => .ok (.nx δ) S'
    | none => .bad
  | .ret e, δ, S => (ev g e δ S).bind retF
  | .retN, _, S => .ok (.ret .non) S
  | .pas, δ, S => .ok (.nx δ) S
  | .exp e, δ, S => (ev g e δ S).bind fun _ S => .ok (.nx δ) S
  | .ite c a b, δ, S => (ev g c δ S).bind fun x S => match x with
    | .bl true => exs g a δ S
    | .bl false => exs g b δ S
    | _ => .bad
  | .whl c b, δ, S => whlLoop (ev g c) (exs g b) fuelW δ S
  | .for c tg ik it b, δ, S => (evs g it δ S).bind fun its S => (iterK ik its S).bind fun I S =>
      forLoop I.c (stepF c tg (exs g b)) I.l δ S
  | .rse, _, _ => .bad
  | .brk, δ, S => .ok (.brk δ) S
  | .cnt, δ, S => .ok (.cnt δ) S
def exs (g : GE) : List Sm → En → Store → Res Fl
  | [], δ, S => .ok (.nx δ) S
  | s :: r, δ, S => seqF (ex g s δ S) fun δ S => exs g r δ S
end
end MM
end
section
set_option Elab.async false
set_option linter.all false
set_option maxRecDepth 100000
set_option maxHeartbeats 4000000
/-! The rules of statements. -/
namespace MM
open PySem PySem.Spec PyProof.Rows L2
variable [Lams]
def GoodXS (T : List (Addr × Str)) (X : Cx) (W : WX) (H : Hp) (ρ : Rh) (c : Str) (ns : List Str) (vs : List D) (S : Store) : Prop :=
  ∀ σ' H' ρ' δ' C dd, Le H ρ H' ρ' → Wld T X σ' H' ρ' δ' S → X.mg c = some (.ref C) → XRep (pr X σ' H' ρ') dd ns vs → W (.ref C) dd σ' H'
def GoodF (T : List (Addr × Str)) (X : Cx) (W : WX) (H : Hp) (ρ : Rh) (D : Ends) : Res Fl → Prop
  | .ok (.nx δ') S' => ∀ σ' H' ρ', Le H ρ H' ρ' → Wld T X σ' H' ρ' δ' S' → D.nx σ' H'
  | .ok (.brk δ') S' => ∀ σ' H' ρ', Le H ρ H' ρ' → Wld T X σ' H' ρ' δ' S' → D.bk σ' H'
  | .ok (.cnt δ') S' => ∀ σ' H' ρ', Le H ρ H' ρ' → Wld T X σ' H' ρ' δ' S' → D.ct σ' H'
  | .ok (.ret d) S' => d.hasClo = false ∧ ∀ v H' ρ', Le H ρ H' ρ' → StoreOk X.K X.mg H' ρ' S' → LamX.Tabs T H' → RD (pr0 X.K X.mg H' ρ') d v → D.rt v H'
  | .exc c ns vs S' => GoodXS T X W H ρ c ns vs S'
  | .bad => False
def embS (T : List (Addr × Str)) (X : Cx) (W : WX) (f : En → Store → Res Fl) : TS := fun D σ H => ∃ ρ δ S, Wld T X σ H ρ δ S ∧ GoodF T X W H ρ D (f δ S)
abbrev DS (T : List (Addr × Str)) (X : Cx) (W : WX) (st : Stmt) (f : En → Store → Res Fl) : Prop := PS X st (embS T X W f)
abbrev DSs (T : List (Addr × Str)) (X : Cx) (W : WX) (st : List Stmt) (f : En → Store → Res Fl) : Prop := PSs X st (embS T X W f)
section
variable {T : List (Addr × Str)} {X : Cx} {W : WX} {σ : L2.St} {H H1 H2 : Hp} {ρ ρ1 ρ2 : Rh} {δ : En} {S : Store} {Q : VK} {D : Ends}
theorem PS_weak {st : Stmt} {t t' : TS} (h : PS X st t) (w : ∀ D σ H, t' D σ H → t D σ H) : PS X st t' := ⟨fun pins s σ H D I hq => h.run pins s σ H D I (w D σ H hq)⟩
theorem PSs_weak {st : List Stmt} {t t' : TS} (h : PSs X st t) (w : ∀ D σ H, t' D σ H → t D σ H) : PSs X st t' := ⟨fun pins s σ H D I hq => h.run pins s σ H D I (w D σ H hq)⟩
theorem GoodXS.le {c : Str} {ns : List Str} {vs : List MM.D} (h : GoodXS T X W H ρ c ns vs S) (l : Le H ρ H1 ρ1) : GoodXS T X W H1 ρ1 c ns vs S := fun σ' H' ρ' δ' C dd l' => h σ' H' ρ' δ' C dd (l.trans l')
theorem GoodXS.at {c : Str} {ns : List Str} {vs : List MM.D} (h : GoodXS T X W H ρ c ns vs S) : GoodX T X W σ H ρ δ c ns vs S := fun H' ρ' C dd l w => h σ H' ρ' δ C dd l w
theorem GoodF.le {r : Res Fl} (h : GoodF T X W H ρ D r) (l : Le H ρ H1 ρ1) : GoodF T X W H1 ρ1 D r := by
  cases r with
  | ok o S => cases o with
    | nx δ => exact fun σ' H' ρ' l' => h σ' H' ρ' (l.trans l')
    | brk δ => exact fun σ' H' ρ' l' => h σ' H' ρ' (l.trans l')
    | cnt δ => exact fun σ' H' ρ' l' => h σ' H' ρ' (l.trans l')
    | ret d => exact ⟨h.1, fun v H' ρ' l' => h.2 v H' ρ' (l.trans l')⟩
  | exc _ _ _ _ => exact GoodXS.le h l
  | bad => exact h
theorem s_bind {x : Res MM.D} {k : MM.D → Store → Res Fl} (h : GoodF T X W H ρ D (x.bind k))
    (q : ∀ v H1 ρ1 d S1, Le H ρ H1 ρ1 → Wld T X σ H1 ρ1 δ S1 → RD (pr X σ H1 ρ1) d v → GoodF T X W H1 ρ1 D (k d S1) → Q v H1) : Good T X W σ H ρ δ Q x := by
  cases x with
  | ok d S1 => exact fun v H1 ρ1 l w1 rd => q v H1 ρ1 d S1 l w1 rd (GoodF.le h l)
  | exc _ _ _ _ => exact GoodXS.at h
  | bad => exact h
theorem s_bindL {x : Res (List MM.D)} {k : List MM.D → Store → Res Fl} {Q : List V → Hp → Prop} (h : GoodF T X W H ρ D (x.bind k))
    (q : ∀ v H1 ρ1 d S1, Le H ρ H1 ρ1 → Wld T X σ H1 ρ1 δ S1 → RDs (pr X σ H1 ρ1) d v → GoodF T X W H1 ρ1 D (k d S1) → Q v H1) : GoodL T X W σ H ρ δ Q x := by
  cases x with
  | ok d S1 => exact fun v H1 ρ1 l w1 rd => q v H1 ρ1 d S1 l w1 rd (GoodF.le h l)
  | exc _ _ _ _ => exact GoodXS.at h
  | bad => exact h
/-! ### simple statements -/
theorem ds_nil : DSs T X W [] (fun δ S => .ok (.nx δ) S) := PSs_weak pss_nil fun D σ H ⟨ρ, δ, S, w, h⟩ => h σ H ρ Le.rfl' w
theorem seq_good {r : Res Fl} {k : En → Store → Res Fl} (h : GoodF T X W H ρ D (seqF r k)) : GoodF T X W H ρ { D with nx := fun σ' H' => embS T X W k D σ' H' } r := by
  cases r with
  | ok o S => cases o with
    | nx δ => exact fun σ' H' ρ' l w => ⟨ρ', δ, S, w, GoodF.le h l⟩
    | brk δ => exact h
    | cnt δ => exact h
    | ret d => exact h
  | exc _ _ _ _ => exact h
  | bad => exact h
theorem ds_cons {st : Stmt} {rest : List Stmt} {f k : En → Store → Res Fl} (h1 : DS T X W st f) (h2 : DSs T X W rest k) : DSs T X W (st :: rest) (fun δ S => seqF (f δ S) k) :=
  PSs_weak (pss_cons h1 h2) fun D σ H ⟨ρ, δ, S, w, h⟩ => ⟨ρ, δ, S, w, seq_good h⟩
theorem ds_pas {pos : Pos} : DS T X W (.Pass pos) (fun δ S => .ok (.nx δ) S) := PS_weak ps_pass fun D σ H ⟨ρ, δ, S, w, h⟩ => h σ H ρ Le.rfl' w
theorem ds_brk {pos : Pos} : DS T X W (.Break pos) (fun δ S => .ok (.brk δ) S) := PS_weak ps_break fun D σ H ⟨ρ, δ, S, w, h⟩ => h σ H ρ Le.rfl' w
theorem ds_cnt {pos : Pos} : DS T X W (.Continue pos) (fun δ S => .ok (.cnt δ) S) := PS_weak ps_continue fun D σ H ⟨ρ, δ, S, w, h⟩ => h σ H ρ Le.rfl' w
theorem ds_doc {x : Str} {j : Nat} {pos pos' : Pos} : DS T X W (.Expr (.Constant (.str x) j pos) pos') (fun δ S => .ok (.nx δ) S) := PS_weak ps_doc fun D σ H ⟨ρ, δ, S, w, h⟩ => h σ H ρ Le.rfl' w
theorem ds_retN {pos : Pos} : DS T X W (.Return none pos) (fun _ S => .ok (.ret .non) S) := PS_weak ps_retN fun D σ H ⟨ρ, δ, S, w, h⟩ => h.2 .non H ρ Le.rfl' w.sto w.tabs rfl
theorem ds_ret {e : Expr} {pos : Pos} {f : En → Store → Res MM.D} (he : DE T X W e f) : DS T X W (.Return (some e) pos) (fun δ S => (f δ S).bind retF) := by
  refine PS_weak (ps_ret he) ?_
  rintro D σ H ⟨ρ, δ, S, w, h⟩
  refine ⟨ρ, δ, S, w, s_bind h fun v H1 ρ1 d S1 l1 w1 r1 h1 => ?_⟩
  unfold retF at h1
  cases hc : d.hasClo with
  | true => rw [hc, if_pos rfl] at h1; exact h1.elim
  | false =>
    rw [hc, if_neg Bool.false_ne_true] at h1
    exact h1.2 v H1 ρ1 Le.rfl' w1.sto w1.tabs (RD.noclo (p := pr X σ H1 ρ1) (p' := pr0 X.K X.mg H1 ρ1) rfl rfl rfl rfl d v hc r1)
theorem ds_exp {e : Expr} {pos : Pos} {f : En → Store → Res MM.D} (he : DE T X W e f) (hs : swapsWith e none pos.line X.env = pure false) : DS T X W (.Expr e pos) (fun δ S => (f δ S).bind fun _ S => .ok (.nx δ) S) := by
  refine PS_weak (ps_expr he hs) ?_
  rintro D σ H ⟨ρ, δ, S, w, h⟩
  exact ⟨ρ, δ, S, w, s_bind h fun v H1 ρ1 d S1 l1 w1 r1 h1 => h1 σ H1 ρ1 Le.rfl' w1⟩
theorem ds_ite {c : Expr} {a b : List Stmt} {pos : Pos} {fc : En → Store → Res MM.D} {fa fb : En → Store → Res Fl} (hc : DT T X W c fc) (ha : DSs T X W a fa) (hb : DSs T X W b fb) :
    DS T X W (.If c a b pos) (fun δ S => (fc δ S).bind fun x S => match x with
      | .bl true => fa δ S
      | .bl false => fb δ S
      | _ => .bad) := by
  refine PS_weak (ps_if hc ha hb) ?_
  rintro D σ H ⟨ρ, δ, S, w, h⟩
  refine ⟨ρ, δ, S, w, s_bind h fun v H1 ρ1 d S1 l1 w1 r1 h1 => ?_⟩
  cases d with
  | bl b =>
    cases b with
    | true => exact ⟨true, r1, itT ⟨ρ1, δ, S1, w1, h1⟩⟩
    | false => exact ⟨false, r1, itF ⟨ρ1, δ, S1, w1, h1⟩⟩
  | _ => exact h1.elim
end
end MM
end
section
set_option Elab.async false
set_option linter.all false
set_option maxRecDepth 100000
set_option maxHeartbeats 4000000
/-! Assignments, loops. -/
namespace MM
open PySem PySem.Spec PyProof.Rows L2
variable [Lams]
section
variable {T : List (Addr × Str)} {X : Cx} {W : WX} {σ : L2.St} {H H1 H2 : Hp} {ρ ρ1 ρ2 : Rh} {δ : En} {S : Store} {Q : VK} {D : Ends} {g : GE}
/-- a local name is set -/
theorem Wld.setL (hN : X.N.Nodup) {i : Nat} {x : Str} (w : Wld T X σ H ρ δ S) {d : MM.D} {v : V} (r : RD (pr X σ H ρ) d v) (hi : X.N[i]? = some x) (hk : X.env.scope.names.lookup x = some .local) :
    Wld T X (σ.set i (some v)) H ρ (δ.set i (some d)) S := by
  have hcp : ∀ c u, CellP X σ c u → CellP X (σ.set i (some v)) c u := fun c u h => by
    rcases h with ⟨j, y, h1, h2, h3, h4⟩ | h
    · refine .inl ⟨j, y, h1, h2, h3, ?_⟩
      rw [List.getElem?_set_ne]
      · exact h4
      · intro z
        subst z
        rw [hi] at h1
        cases h1
        rcases h2 with h2 | h2 <;> rw [hk] at h2 <;> cases h2
    · exact .inr h
  have pl : PLe (pr X σ H ρ) (pr X (σ.set i (some v)) H ρ) := w.sto.ple Le.rfl' hcp
  refine ⟨fun j e h => ?_, w.sto, w.tabs, by rw [List.length_set, List.length_set]; exact w.len⟩
  by_cases hj : i = j
  · subst hj
    have hl : i < δ.length := by
      have := (List.getElem?_eq_some_iff.mp h).1
      simpa using this
    rw [List.getElem?_set_self hl] at h
    cases h
    exact ⟨v, by rw [List.getElem?_set_self (by rw [← w.len]; exact hl)], r.le pl⟩
  · rw [List.getElem?_set_ne hj] at h
    rw [List.getElem?_set_ne hj]
    obtain ⟨u, h1, h2⟩ := w.slot j e h
    exact ⟨u, h1, h2.le pl⟩
theorem Wld.wipeC (w : Wld T X σ H ρ δ S) : Wld0 T X.K X.mg σ H ρ (wipeC δ) S := by
  have := w.wiped []
  exact this
/-- any name is set: no closures are left -/
theorem Wld.setC {i : Nat} (w : Wld T X σ H ρ δ S) {d : MM.D} {v : V} (hc : d.hasClo = false) (r : RD (pr X σ H ρ) d v) : Wld T X (σ.set i (some v)) H ρ ((MM.wipeC δ).set i (some d)) S :=
  (w.wipeC.set hc (RD.noclo (p := pr X σ H ρ) (p' := pr0 X.K X.mg H ρ) rfl rfl rfl rfl d v hc r)).up
/-- a target does what t says -/
def TGok (T : List (Addr × Str)) (X : Cx) (W : WX) (t : MM.D → En → Store → Res En) (tg : TG) : Prop :=
  ∀ (σ : L2.St) (H : Hp) (ρ : Rh) (δ : En) (S : Store) (d : MM.D) (v : V) (D : Ends) (k : En → Store → Res Fl) (Qf : L2.St → Hp → Prop), Wld T X σ H ρ δ S → RD (pr X σ H ρ) d v → GoodF T X W H ρ D ((t d δ S).bind k) →
    (∀ σ' H' ρ' δ' S', Le H ρ H' ρ' → Wld T X σ' H' ρ' δ' S' → GoodF T X W H' ρ' D (k δ' S') → Qf σ' H') → tg v σ H Qf
structure DG (T : List (Addr × Str)) (X : Cx) (W : WX) (e : Expr) (t : MM.D → En → Store → Res En) : Prop where
  ex : ∃ tg, PG X e tg ∧ TGok T X W t tg
theorem dg_nam {i : Nat} {x : Str} {pos : Pos} {c : Bool} (hN : X.N.Nodup) (hi : X.N[i]? = some x) (hk : if c then X.env.scope.names.lookup x = some .cell ∧ X.fn x = true else X.env.scope.names.lookup x = some .local) :
    DG T X W (.Name x pos) (fun d δ S => asnG g (.nam c i) d δ S) := by
  refine ⟨gName i, pg_name hN hi ?_ ?_, fun σ H ρ δ S d v D k Qf w r h q => ?_⟩
  · cases c with
    | true => exact .inr hk.1
    | false => exact .inl hk
  · cases c with
    | true => exact .inl hk.2
    | false => exact .inr hk
  · unfold asnG at h
    cases c with
    | true =>
      dsimp only at h
      rw [if_pos rfl] at h
      cases hc : d.hasClo with
      | true => rw [hc, if_pos rfl] at h; exact h.elim
      | false =>
        rw [hc, if_neg Bool.false_ne_true] at h
        exact q _ H ρ _ S Le.rfl' (w.setC hc r) h
    | false =>
      dsimp only at h
      rw [if_neg Bool.false_ne_true] at h
      exact q _ H ρ _ S Le.rfl' (w.setL hN r hi hk) h
theorem put_ok {o i d : MM.D} {S' : Store} (w : Wld T X σ H ρ δ S) {x y v : V} (ro : RD (pr X σ H ρ) o x) (ri : RD (pr X σ H ρ) i y) (rd : RD (pr X σ H ρ) d v) (h : opPut S o i d = some S') {Qf : Hp → Prop}
    (q : ∀ H', Le H ρ H' ρ → Wld T X σ H' ρ δ S' → Qf H') : rSetL x y v H Qf := by
  unfold opPut at h
  split at h
  · rename_i k j
    split at h
    · rename_i xs hl
      cases hc : d.hasClo with
      | true => rw [hc, if_pos rfl] at h; cases h
      | false =>
        rw [hc, if_neg Bool.false_ne_true] at h
        split at h
        · rename_i n hn
          cases h
          obtain ⟨a, e1, e2⟩ := ro
          obtain ⟨us, h1, h2⟩ := w.sto.ob k a _ e2 hl
          have hp : a ∈ ρ.l := List.mem_of_getElem? e2
          have le : Le H ρ (L2.upd H a (.lst (us.set n v))) ρ := Le.put hp
          refine ⟨a, us, j, n, e1, ri, h1, by rw [← h2.length]; exact hn, q _ le (w.next le (w.sto.put (m := .lst (xs.set n d)) e2 ⟨us.set n v, upd_same, ?_⟩) (tabs_put w.tabs h1 (fun _ z => by cases z) (fun _ z => by cases z)))⟩
          have rd' : RD (pr0 X.K X.mg (L2.upd H a (.lst (us.set n v))) ρ) d v := RD.noclo (p := pr X σ (L2.upd H a (.lst (us.set n v))) ρ) (p' := pr0 X.K X.mg (L2.upd H a (.lst (us.set n v))) ρ) rfl rfl rfl rfl d v hc (rd.le (w.ple le))
          have h3 := h2.le (w.sto.ple le fun _ _ z => z)
          have hset : ∀ (p : PR) (l : List MM.D) (us : List V) (n : Nat), RDs p l us → RD p d v → RDs p (l.set n d) (us.set n v) := by
            intro p l
            induction l with
            | nil =>
              intro us n r _
              have e : us = [] := r
              rw [e]
              exact rfl
            | cons a l ih =>
              intro us n r r2
              obtain ⟨y, ys, e, h1, h2⟩ := r
              rw [e]
              cases n with
              | zero => exact ⟨v, ys, rfl, r2, h2⟩
              | succ n => exact ⟨y, _, rfl, h1, ih ys n h2 r2⟩
          exact hset _ _ _ _ h3 rd'
        · cases h
    · cases h
  · cases h
theorem dg_sub {o i : Expr} {pos : Pos} {to ti : Tm} (ho : DE T X W o (ev g to)) (hi : DE T X W i (ev g ti))
    (ha : ∀ v, assign (.Subscript o i pos) X.env v = (do
      let ov ← holding [v] (eval o X.env)
      let iv ← holding [v, ov] (eval i X.env)
      standAt pos
      holding [v, ov, iv] (setItem ov iv v)
      release [v, ov, iv] [])) : DG T X W (.Subscript o i pos) (fun d δ S => asnG g (.sub to ti) d δ S) := by
  refine ⟨_, pg_sub ho hi set_list ha, fun σ H ρ δ S d v D k Qf w r h q => ?_⟩
  unfold asnG at h
  dsimp only at h
  cases hc : d.hasClo with
  | true => rw [hc, if_pos rfl] at h; exact h.elim
  | false =>
    rw [hc, if_neg Bool.false_ne_true] at h
    have bnd : ∀ {x : Res MM.D} {r : MM.D → Store → Res En} {k : En → Store → Res Fl} {H : Hp} {ρ : Rh} {Q : VK}, GoodF T X W H ρ D ((x.bind r).bind k) → (∀ v H1 ρ1 d S1, Le H ρ H1 ρ1 → Wld T X σ H1 ρ1 δ S1 → RD (pr X σ H1 ρ1) d v → GoodF T X W H1 ρ1 D ((r d S1).bind k) → Q v H1) → Good T X W σ H ρ δ Q x := by
      intro x r k H ρ Q h q
      cases x with
      | ok d S1 => exact fun v H1 ρ1 l w1 rd => q v H1 ρ1 d S1 l w1 rd (GoodF.le h l)
      | exc _ _ _ _ => exact GoodXS.at h
      | bad => exact h
    refine ⟨ρ, δ, S, w, bnd h fun x H1 ρ1 dx S1 l1 w1 r1 h1 => ⟨ρ1, δ, S1, w1, bnd h1 fun y H2 ρ2 dy S2 l2 w2 r2 h2 => ?_⟩⟩
    split at h2
    · rename_i S' hp
      exact put_ok w2 (r1.le (w1.ple l2)) r2 ((r.le (w.ple l1)).le (w1.ple l2)) hp fun H' l3 w3 => q σ H' ρ2 δ S' ((l1.trans l2).trans l3) w3 (GoodF.le h2 l3)
    · exact h2.elim
/-- target = e -/
theorem ds_set {e tg : Expr} {pos : Pos} {f : En → Store → Res MM.D} {t : MM.D → En → Store → Res En} (he : DE T X W e f) (hg : DG T X W tg t) (hs : swapsWithSole [tg] e pos.line X.env = pure false) (hw : swappedStores [tg] e X.env = pure none)
    (h1 : (assignEach [tg] X.env).map (·.2) = [assign tg X.env]) : DS T X W (.Assign [tg] e pos) (fun δ S => (f δ S).bind fun d S => (t d δ S).bind fun δ S => .ok (.nx δ) S) := by
  obtain ⟨tg', hp, hq⟩ := hg.ex
  refine PS_weak (ps_asg he hp hs hw h1) ?_
  rintro D σ H ⟨ρ, δ, S, w, h⟩
  refine ⟨ρ, δ, S, w, s_bind h fun v H1 ρ1 d S1 l1 w1 r1 h1 => ?_⟩
  exact hq σ H1 ρ1 δ S1 d v D _ _ w1 r1 h1 fun σ' H' ρ' δ' S' l' w' h' => h' σ' H' ρ' Le.rfl' w'
/-! ### tuples unpacked -/
def TGsok (T : List (Addr × Str)) (X : Cx) (W : WX) (t : List MM.D → En → Store → Res En) (n : Nat) (tg : TGs) : Prop :=
  ∀ (σ : L2.St) (H : Hp) (ρ : Rh) (δ : En) (S : Store) (ds : List MM.D) (vs : List V) (D : Ends) (k : En → Store → Res Fl) (Qf : L2.St → Hp → Prop), Wld T X σ H ρ δ S → D.nx = D.nx → MM.D.hasCloL ds = false → ds.length = n → RDs (pr0 X.K X.mg H ρ) ds vs → GoodF T X W H ρ D ((t ds δ S).bind k) →
    (∀ σ' H' ρ' δ' S', Le H ρ H' ρ' → Wld T X σ' H' ρ' δ' S' → GoodF T X W H' ρ' D (k δ' S') → Qf σ' H') → tg vs σ H Qf
structure DGs (T : List (Addr × Str)) (X : Cx) (W : WX) (es : List Expr) (n : Nat) (t : List MM.D → En → Store → Res En) : Prop where
  ex : ∃ tg, PGs X es tg ∧ TGsok T X W t n tg
  len : (assignEach es X.env).length = n
  st : (assignEach es X.env).findIdx? (·.1) = none
theorem dgs_nil : DGs T X W [] 0 (fun ds δ S => asnGs g [] ds δ S) := by
  refine ⟨⟨gNil, pgs_nil, fun σ H ρ δ S ds vs D k Qf w _ hc hl r h q => ?_⟩, rfl, rfl⟩
  have e : ds = [] := List.eq_nil_of_length_eq_zero hl
  subst e
  exact ⟨r, q σ H ρ δ S Le.rfl' w h⟩
theorem dgs_cons {e : Expr} {es : List Expr} {n : Nat} {t : Tg} {ts : List Tg} (h1 : DG T X W e (fun d δ S => asnG g t d δ S)) (h2 : DGs T X W es n (fun ds δ S => asnGs g ts ds δ S))
    (hs : assignEach (e :: es) X.env = (false, assign e X.env) :: assignEach es X.env) : DGs T X W (e :: es) (n + 1) (fun ds δ S => asnGs g (t :: ts) ds δ S) := by
  obtain ⟨tg, p1, k1⟩ := h1.ex
  obtain ⟨tgs, p2, k2⟩ := h2.ex
  refine ⟨⟨gCons tg tgs, pgs_cons p1 p2 (by rw [hs]; rfl), fun σ H ρ δ S ds vs D k Qf w _ hc hl r h q => ?_⟩, by rw [hs, List.length_cons, h2.len], by rw [hs, List.findIdx?_cons]; simp [h2.st]⟩
  cases ds with
  | nil => simp at hl
  | cons d ds =>
    obtain ⟨y, ys, e1, r1, r2⟩ := r
    unfold MM.D.hasCloL at hc
    rw [Bool.or_eq_false_iff] at hc
    refine ⟨y, ys, e1, ?_⟩
    have h' : GoodF T X W H ρ D ((asnG g t d δ S).bind fun δ S => (asnGs g ts ds δ S).bind k) := by
      have h : GoodF T X W H ρ D (((asnG g t d δ S).bind fun δ S => asnGs g ts ds δ S).bind k) := h
      generalize asnG g t d δ S = z at h ⊢
      cases z <;> exact h
    refine k1 σ H ρ δ S d y D _ _ w (RD.noclo (p := pr0 X.K X.mg H ρ) (p' := pr X σ H ρ) rfl rfl rfl rfl d y hc.1 r1) h' fun σ' H' ρ' δ' S' l' w' h'' => ?_
    exact k2 σ' H' ρ' δ' S' ds ys D k _ w' rfl hc.2 (by simpa using hl) (r2.le (w.sto.ple l' fun _ _ z => z)) h'' fun σ2 H2 ρ2 δ2 S2 l2 w2 h2 => q σ2 H2 ρ2 δ2 S2 (l'.trans l2) w2 h2
theorem ds_unp {e : Expr} {es : List Expr} {kk : Nat} {tpos pos : Pos} {ts : List Tg} {f : En → Store → Res MM.D} (hcalm : X.calm = true) (he : DE T X W e f) (hg : DGs T X W es ts.length (fun ds δ S => asnGs g ts ds δ S))
    (hs : swapsWithSole [.Tuple es kk tpos] e pos.line X.env = pure false) (hw : swappedStores [.Tuple es kk tpos] e X.env = pure none)
    (h1 : (assignEach [.Tuple es kk tpos] X.env).map (·.2) = [assign (.Tuple es kk tpos) X.env]) : DS T X W (.Assign [.Tuple es kk tpos] e pos) (fun δ S => (f δ S).bind fun d S => match d with
      | .tup l => if MM.D.hasCloL l then .bad else if l.length = ts.length then (asnGs g ts l δ S).bind fun δ S => .ok (.nx δ) S else .bad
      | _ => .bad) := by
  obtain ⟨tgs, hp, hq⟩ := hg.ex
  refine PS_weak (ps_asg he (pg_tup hcalm hp hg.len hg.st) hs hw h1) ?_
  rintro D σ H ⟨ρ, δ, S, w, h⟩
  refine ⟨ρ, δ, S, w, s_bind h fun v H1 ρ1 d S1 l1 w1 r1 h1 => ?_⟩
  cases d with
  | tup l =>
    dsimp only at h1
    cases hc : MM.D.hasCloL l with
    | true => rw [hc, if_pos rfl] at h1; exact h1.elim
    | false =>
      rw [hc, if_neg Bool.false_ne_true] at h1
      split at h1
      · rename_i hl
        obtain ⟨a, xs, e1, s1, r2⟩ := r1
        refine ⟨a, xs, e1, s1, by rw [← r2.length]; exact hl, ?_⟩
        exact hq σ H1 ρ1 δ S1 l xs D _ _ w1 rfl hc hl (RDs.noclo (p := pr X σ H1 ρ1) (p' := pr0 X.K X.mg H1 ρ1) rfl rfl rfl rfl l xs hc r2) h1 fun σ' H' ρ' δ' S' l' w' h' => h' σ' H' ρ' Le.rfl' w'
      · exact h1.elim
  | _ => exact h1.elim
/-- a, b = x, y with swapped stores -/
theorem ds_par {i j : Nat} {x y : Str} {a b : Expr} {px py pt pos pt2 : Pos} {kt k2 : Nat} {f : En → Store → Res (List MM.D)} (hcalm : X.calm = true) (hN : X.N.Nodup) (hi : X.N[i]? = some x) (hj : X.N[j]? = some y) (hij : i ≠ j)
    (hx : X.env.scope.names.lookup x = some .local) (hy : X.env.scope.names.lookup y = some .local) (ha : DA T X W [a, b] f)
    (hw : swappedStores [.Tuple [.Name x px, .Name y py] kt pt] (.Tuple [a, b] k2 pt2) X.env = pure (some [x, y]))
    (hs : swapsWithSole [.Tuple [.Name x px, .Name y py] kt pt] (.Tuple [a, b] k2 pt2) pos.line X.env = pure false) :
    DS T X W (.Assign [.Tuple [.Name x px, .Name y py] kt pt] (.Tuple [a, b] k2 pt2) pos) (fun δ S => (f δ S).bind fun l S => match l with
      | [a, b] => .ok (.nx ((δ.set i (some a)).set j (some b))) S
      | _ => .bad) := by
  refine PS_weak (ps_par hcalm hN hi hj hij hx hy ha hw hs) ?_
  rintro D σ H ⟨ρ, δ, S, w, h⟩
  refine ⟨ρ, δ, S, w, s_bindL h fun vs H1 ρ1 ds S1 l1 w1 r1 h1 => ?_⟩
  split at h1
  · rename_i da db
    obtain ⟨u, v, e, ru, rv⟩ := r1.two
    refine ⟨u, v, e, ?_⟩
    have w2 := w1.setL hN ru hi hx
    -- the second value, in the new state
    have rv2 : RD (pr X (σ.set i (some u)) H1 ρ1) db v := by
      have hcp : ∀ c u', CellP X σ c u' → CellP X (σ.set i (some u)) c u' := fun c u' h => by
        rcases h with ⟨k, z, h1, h2, h3, h4⟩ | h
        · refine .inl ⟨k, z, h1, h2, h3, ?_⟩
          rw [List.getElem?_set_ne]
          · exact h4
          · intro q
            subst q
            rw [hi] at h1
            cases h1
            rcases h2 with h2 | h2 <;> rw [hx] at h2 <;> cases h2
        · exact .inr h
      exact rv.le (w1.sto.ple Le.rfl' hcp)
    exact h1 _ H1 ρ1 Le.rfl' (w2.setL hN rv2 hj hy)
  · exact h1.elim
end
end MM
end
section
set_option Elab.async false
set_option linter.all false
set_option maxRecDepth 100000
set_option maxHeartbeats 4000000
/-! Loops, fields. -/
namespace MM
open PySem PySem.Spec PyProof.Rows L2
variable [Lams]
section
variable {T : List (Addr × Str)} {X : Cx} {W : WX} {σ : L2.St} {H H1 H2 : Hp} {ρ ρ1 ρ2 : Rh} {δ : En} {S : Store} {Q : VK} {D : Ends} {g : GE}
/-- while -/
theorem whl_go {fc : En → Store → Res MM.D} {fb : En → Store → Res Fl} : ∀ (n : Nat) (σ : L2.St) (H : Hp) (ρ : Rh) (δ : En) (S : Store) (D : Ends), Wld T X σ H ρ δ S → GoodF T X W H ρ D (whlLoop fc fb n δ S) →
    tWhile (embT T X W fc) (embS T X W fb) D σ H := by
  intro n σ H ρ δ S D w h
  refine ⟨fun m σ H => ∃ ρ δ S, Wld T X σ H ρ δ S ∧ GoodF T X W H ρ D (whlLoop fc fb m δ S), ⟨n, ρ, δ, S, w, h⟩, ?_⟩
  rintro m σ H ⟨ρ, δ, S, w, h⟩
  cases m with
  | zero => exact h.elim
  | succ m =>
    unfold whlLoop at h
    refine ⟨ρ, δ, S, w, s_bind h fun v H1 ρ1 d S1 l1 w1 r1 h1 => ?_⟩
    cases d with
    | bl b =>
      cases b with
      | true =>
        refine ⟨true, r1, itT ⟨fun σ H => ∃ ρ δ S, Wld T X σ H ρ δ S ∧ GoodF T X W H ρ D (whlLoop fc fb m δ S), fun σ' H' q => ⟨m, Nat.lt_succ_self _, q⟩, ρ1, δ, S1, w1, ?_⟩⟩
        have h1 : GoodF T X W H1 ρ1 D ((fb δ S1).bind fun o S => match o with
          | .nx δ => whlLoop fc fb m δ S
          | .cnt δ => whlLoop fc fb m δ S
          | .brk δ => .ok (.nx δ) S
          | .ret v => .ok (.ret v) S) := h1
        generalize fb δ S1 = z at h1 ⊢
        cases z with
        | ok o S2 => cases o with
          | nx δ' => exact fun σ' H' ρ' l w => ⟨ρ', δ', S2, w, GoodF.le h1 l⟩
          | cnt δ' => exact fun σ' H' ρ' l w => ⟨ρ', δ', S2, w, GoodF.le h1 l⟩
          | brk δ' => exact h1
          | ret d => exact h1
        | exc _ _ _ _ => exact h1
        | bad => exact h1
      | false => exact ⟨false, r1, itF (h1 σ H1 ρ1 Le.rfl' w1)⟩
    | _ => exact h1.elim
theorem ds_whl {c : Expr} {body : List Stmt} {pos : Pos} {n : Nat} {fc : En → Store → Res MM.D} {fb : En → Store → Res Fl} (hp : PassesOwn (model X.prog X.w) X.A X.env X.xe) (hc : DT T X W c fc) (hb : DSs T X W body fb) :
    DS T X W (.While c body [] pos) (fun δ S => whlLoop fc fb n δ S) :=
  PS_weak (ps_while hp hc hb) fun D σ H ⟨ρ, δ, S, w, h⟩ => whl_go n σ H ρ δ S D w h
/-- the targets of a for -/
structure TgF (X : Cx) (c : Bool) (tg : List Nat) : Prop where
  ok : c = false → ∀ i ∈ tg, ∃ x, X.N[i]? = some x ∧ X.env.scope.names.lookup x = some .local
theorem seqW (hN : X.N.Nodup) : ∀ (g : List Nat) (l : List MM.D) (xs : List V) (σ : L2.St) (δ : En), (∀ i ∈ g, ∃ x, X.N[i]? = some x ∧ X.env.scope.names.lookup x = some .local) → Wld T X σ H ρ δ S → MM.D.hasCloL l = false → RDs (pr0 X.K X.mg H ρ) l xs → l.length = g.length →
    ∀ (Qf : L2.St → Hp → Prop), (∀ σ2, Wld T X σ2 H ρ ((g.zip l).foldl (fun δ p => δ.set p.1 (some p.2)) δ) S → Qf σ2 H) → gSeq g xs σ H Qf
  | [], l, xs, σ, δ, hg, w, hc, r, hl, Qf, q => by
    have e : l = [] := List.eq_nil_of_length_eq_zero hl
    subst e
    have ex : xs = [] := r
    exact ⟨ex, q σ w⟩
  | i :: g, [], xs, σ, δ, hg, w, hc, r, hl, Qf, q => by simp at hl
  | i :: g, d :: l, xs, σ, δ, hg, w, hc, r, hl, Qf, q => by
    obtain ⟨y, ys, e, h1, h2⟩ := r
    unfold MM.D.hasCloL at hc
    rw [Bool.or_eq_false_iff] at hc
    obtain ⟨x, hx1, hx2⟩ := hg i List.mem_cons_self
    exact ⟨y, ys, e, seqW hN g l ys (σ.set i (some y)) (δ.set i (some d)) (fun j hj => hg j (List.mem_cons_of_mem _ hj)) (w.setL hN (RD.noclo (p := pr0 X.K X.mg H ρ) (p' := pr X σ H ρ) rfl rfl rfl rfl d y hc.1 h1) hx1 hx2) hc.2 h2 (by simpa using hl) Qf q⟩
theorem bindW {c : Bool} {g : List Nat} {d : MM.D} {x : V} {δ1 : En} (hN : X.N.Nodup) (tg : TgF X c g) (w : Wld T X σ H ρ δ S) (hd : d.hasClo = false) (r : RD (pr0 X.K X.mg H ρ) d x) (e : bindG g d (if c then wipeC δ else δ) = some δ1) {Qf : L2.St → Hp → Prop}
    (k : ∀ σ2, Wld T X σ2 H ρ δ1 S → Qf σ2 H) : gB X.K g x σ H Qf := by
  cases c with
  | true =>
    rw [if_pos rfl] at e
    exact bind0 (vs := g) w.wipeC hd r e (fun i hi => hi) fun σ2 w2 _ _ _ => k σ2 w2.up
  | false =>
    rw [if_neg Bool.false_ne_true] at e
    have hg := tg.ok rfl
    have many : (∀ i, g ≠ [i]) → gTup X.K g.length (gSeq g) x σ H Qf := by
      intro hne
      unfold bindG at e
      split at e
      · exact absurd rfl (hne _)
      · split at e
        · rename_i l
          split at e
          · rename_i hl
            cases e
            obtain ⟨a, xs, ex, hs, hr⟩ := r
            unfold MM.D.hasClo at hd
            exact ⟨a, xs, ex, hs, by rw [← hr.length]; exact hl, seqW hN g l xs σ δ hg w hd hr hl Qf k⟩
          · cases e
        · cases e
    unfold gB
    split
    · rename_i i
      unfold bindG at e
      cases e
      obtain ⟨y, hx1, hx2⟩ := hg i List.mem_cons_self
      exact k _ (w.setL hN (RD.noclo (p := pr0 X.K X.mg H ρ) (p' := pr X σ H ρ) rfl rfl rfl rfl d x hd r) hx1 hx2)
    · rename_i hne
      exact many hne
theorem forLoop_c {cs : Store → Bool} {step : MM.D → En → Store → Res Fl} {l : List MM.D} (h : cs S = false) : forLoop cs step l δ S = .bad := by
  cases l with
  | nil =>
    unfold forLoop
    rw [h]
    rfl
  | cons d r =>
    unfold forLoop
    rw [h]
    rfl
theorem for_go {J : It} {l : List MM.D} {cs : Store → Bool} {c : Bool} {tg : List Nat} {fb : En → Store → Res Fl} {S1 : Store} (hN : X.N.Nodup) (tk : TgF X c tg) (w1 : Wld T X σ H1 ρ1 δ S1) (hW : WalkD X.K X.mg J ⟨l, cs⟩ H1 ρ1) (h : GoodF T X W H1 ρ1 D (forLoop cs (stepF c tg fb) l δ S1)) :
    ∃ Wf : Nat → Nat → L2.St → Hp → Prop, (∃ m, Wf 0 m σ H1) ∧ ∀ i m σ H, Wf i m σ H →
      (J.stop i H ∧ D.nx σ H) ∨ (J.go i H ∧ ∃ N : L2.St → Hp → Prop, (∀ σ' H', N σ' H' → ∃ m', m' < m ∧ Wf (i + 1) m' σ' H') ∧ ∀ x H', J.yld i H x H' → gB X.K tg x σ H' fun σ2 H2 => embS T X W fb { D with nx := N, ct := N, bk := D.nx } σ2 H2) := by
  let I : Nat → L2.St → Hp → Prop := fun i σ H => i ≤ l.length ∧ ∃ ρ δ S, Le H1 ρ1 H ρ ∧ Wld T X σ H ρ δ S ∧ GoodF T X W H ρ D (forLoop cs (stepF c tg fb) (l.drop i) δ S)
  refine ⟨fun i m σ H => m = l.length - i ∧ I i σ H, ⟨l.length, by simp, Nat.zero_le _, ρ1, δ, S1, Le.rfl', w1, h⟩, ?_⟩
  rintro i m σ H ⟨rfl, hi, ρ, δ, S, hle, w, hG⟩
  have pl : PLe (pr0 X.K X.mg H1 ρ1) (pr0 X.K X.mg H ρ) := w1.sto.ple hle fun _ _ z => z
  have hcS : cs S = true := by
    cases hq : cs S with
    | true => rfl
    | false =>
      rw [forLoop_c hq] at hG
      exact hG.elim
  obtain ⟨k1, k2, k3⟩ := hW i H ρ S pl w.sto hcS
  by_cases hlt : i < l.length
  · refine .inr ⟨k1 hlt, I (i + 1), fun σ' H' q => ⟨l.length - (i + 1), by omega, rfl, q⟩, fun x H' y => ?_⟩
    obtain ⟨hH, d, hd, hrd⟩ := k3 x H' hlt y
    rw [drop_cons hd] at hG
    unfold forLoop at hG
    rw [if_pos hcS] at hG
    unfold stepF at hG
    have hst : Le H ρ H' ρ ∧ Wld T X σ H' ρ δ S := by
      rcases hH with e | ⟨Tt, xs, hn, e⟩
      · rw [e]; exact ⟨Le.rfl', w⟩
      · rw [e]; exact ⟨Le.upd hn, w.upd hn⟩
    obtain ⟨le1, w'⟩ := hst
    cases hc : d.hasClo with
    | true => rw [hc, if_pos rfl] at hG; exact hG.elim
    | false =>
      rw [hc, if_neg Bool.false_ne_true] at hG
      cases hb : bindG tg d (if c then wipeC δ else δ) with
      | none => rw [hb] at hG; exact hG.elim
      | some δ1 =>
        rw [hb] at hG
        dsimp only at hG
        refine bindW hN tk w' hc (hrd hc ρ (w.sto.ple le1 fun _ _ z => z)) hb fun σ2 w2 => ⟨ρ, δ1, S, w2, ?_⟩
        have hG := GoodF.le hG le1
        generalize fb δ1 S = z at hG ⊢
        cases z with
        | ok o S2 => cases o with
          | nx δ' => exact fun σ' H2 ρ' l2 w2 => ⟨hlt, ρ', δ', S2, (hle.trans le1).trans l2, w2, GoodF.le hG l2⟩
          | cnt δ' => exact fun σ' H2 ρ' l2 w2 => ⟨hlt, ρ', δ', S2, (hle.trans le1).trans l2, w2, GoodF.le hG l2⟩
          | brk δ' => exact hG
          | ret d => exact hG
        | exc _ _ _ _ => exact hG
        | bad => exact hG
  · have e : i = l.length := by omega
    refine .inl ⟨k2 e, ?_⟩
    have e : i = l.length := e
    rw [e, List.drop_length] at hG
    unfold forLoop at hG
    rw [if_pos hcS] at hG
    exact hG σ H ρ Le.rfl' w
theorem ds_for {tg iter : Expr} {body : List Stmt} {pos : Pos} {c : Bool} {gs : List Nat} {fi : En → Store → Res MM.Its} {fb : En → Store → Res Fl} (hcalm : X.calm = true) (hp : PassesOwn (model X.prog X.w) X.A X.env X.xe) (hN : X.N.Nodup) (hi : DI T X W tg iter fi) (tk : TgF X c gs)
    (hg : PG X tg (gB X.K gs)) (hb : DSs T X W body fb) (hs : ∀ x, foldedSetIterable iter X.env x = pure x) :
    DS T X W (.For tg iter body [] pos) (fun δ S => (fi δ S).bind fun I S => forLoop I.c (stepF c gs fb) I.l δ S) := by
  refine PS_weak (ps_for hp hcalm hi hg hb hs) ?_
  rintro D σ H ⟨ρ, δ, S, w, h⟩
  refine ⟨ρ, δ, S, w, ?_⟩
  have h : GoodF T X W H ρ D ((fi δ S).bind fun I S => forLoop I.c (stepF c gs fb) I.l δ S) := h
  generalize fi δ S = r at h ⊢
  cases r with
  | ok l S1 =>
    intro J H1 ρ1 l1 w1 hW
    have h : GoodF T X W H ρ D (forLoop l.c (stepF c gs fb) l.l δ S1) := h
    exact for_go hN tk w1 hW (GoodF.le h l1)
  | exc _ _ _ _ => exact GoodXS.at h
  | bad => exact h
end
end MM
end
section
set_option Elab.async false
set_option linter.all false
set_option maxRecDepth 100000
set_option maxHeartbeats 4000000
/-! Defs: what they promise; the store at their end. -/
namespace MM
open PySem PySem.Spec PyProof.Rows L2
variable [Lams]
def MO.under (n : Nat) : MO → Bool
  | .lst l => D.underL n l
  | .ins _ _ vs => D.underL n vs
def frz (n0 : Nat) (S : Store) (d : D) : Option D := if d.under n0 then some d else match d with
  | .ref k => match S[k]? with
    | some (.lst l) => if D.underL n0 l then some (.lst l) else none
    | some (.ins c ns vs) => if D.underL n0 vs then some (.obj c ns vs) else none
    | none => none
  | _ => none
/-- what was made within and is not told is forgotten -/
def leaveOk (n0 : Nat) (kp : Bool) (d : D) (S : Store) : Res D :=
  if S.length = n0 then .ok d S else if (S.take n0).all (MO.under n0) then
      (if kp then match d with
        | .ref k => match S[k]? with
          | some m => if n0 ≤ k ∧ m.under n0 = true then .ok (.ref n0) (S.take n0 ++ [m]) else .bad
          | none => .bad
        | _ => .bad
      else match frz n0 S d with
        | some d' => if d'.hasClo then .bad else .ok d' (S.take n0)
        | none => .bad) else .bad
def leaveX (n0 : Nat) (c : Str) (ns : List Str) (vs : List D) (S : Store) : Res D :=
  if S.length = n0 then .exc c ns vs S else if (S.take n0).all (MO.under n0) && D.underL n0 vs then .exc c ns vs (S.take n0) else .bad
def leave (n0 : Nat) (kp : Bool) : Res D → Res D
  | .ok d S => if d.hasClo then .bad else leaveOk n0 kp d S
  | .exc c ns vs S => if D.hasCloL vs then .bad else leaveX n0 c ns vs S
  | .bad => .bad
def retR : Res Fl → Res D
  | .ok (.nx _) S => .ok .non S
  | .ok (.ret d) S => .ok d S
  | .ok _ _ => .bad
  | .exc c ns vs S => .exc c ns vs S
  | .bad => .bad
def startE (n : Nat) (ds : List D) : En := ds.map some ++ List.replicate (n - ds.length) none
def GoodC (T : List (Addr × Str)) (K : PySem.W.Frag) (mg : Str → Option Value) (H : Hp) (ρ : Rh) (Q : VK) (E : XK) : Res D → Prop
  | .ok d S' => d.hasClo = false ∧ ∀ v H' ρ', Le H ρ H' ρ' → StoreOk K mg H' ρ' S' → LamX.Tabs T H' → RD (pr0 K mg H' ρ') d v → Q v H'
  | .exc c ns vs S' => D.hasCloL vs = false ∧ ∀ H' ρ' C dd, Le H ρ H' ρ' → StoreOk K mg H' ρ' S' → LamX.Tabs T H' → mg c = some (.ref C) → XRep (pr0 K mg H' ρ') dd ns vs → E (.ref C) dd H'
  | .bad => False
structure FnD (T : List (Addr × Str)) (P : Program) (w : World) (K : PySem.W.Frag) (mg : Str → Option Value) (base : Heap) (k : Nat) (f : Addr) (fd : FuncData) (ps : List Str) (F : List D → Store → Res D) : Prop where
  len : ∀ ds S, F ds S ≠ .bad → ds.length = ps.length
  nc : ∀ ds S d S', F ds S = .ok d S' → d.hasClo = false
  nx : ∀ ds S c ns vs S', F ds S = .exc c ns vs S' → D.hasCloL vs = false
  run : ∀ (A : Around) (outer : List Env) (s : Shared) (H : Hp) (args : Args) (us : List Value) (vs : List V) (Q : VK) (E : XK) (ρ : Rh) (ds : List D) (S : Store), Room k A → Env0 P w K mg base A outer s H → BindsTo s fd args (ps.zip us) → Vals vs us →
    StoreOk K mg H ρ S → LamX.Tabs T H → RDs ⟨K, mg, H, ρ, CellS s H⟩ ds vs → GoodC T K mg H ρ Q E (F ds S) → codeAny (model P w) A (.call (.ref f) args) (CR (CX P w) outer P w H s Q E) s
theorem FnD.mono {T : List (Addr × Str)} {P : Program} {w : World} {K : PySem.W.Frag} {mg : Str → Option Value} {base : Heap} {j k : Nat} {f : Addr} {fd : FuncData} {ps : List Str} {F : List D → Store → Res D} (h : FnD T P w K mg base j f fd ps F) (l : j ≤ k) : FnD T P w K mg base k f fd ps F :=
  ⟨h.len, h.nc, h.nx, fun A outer s H args us vs Q E ρ ds S hr => h.run A outer s H args us vs Q E ρ ds S (hr.mono l)⟩
section
variable {T : List (Addr × Str)} {K : PySem.W.Frag} {mg : Str → Option Value} {H H1 H2 : Hp} {ρ ρ1 ρ2 : Rh} {S S1 : Store} {Q : VK} {E : XK}
mutual
/-- without the last places -/
theorem RD.sub {n : Nat} (hs : ∀ b, b ∈ ρ1 → b ∈ ρ) (hi : ∀ (k : Nat) (a : Addr), k < n → ρ.l[k]? = some a → ρ1.l[k]? = some a) : ∀ (d : D) (v : V), d.under n = true → RD (pr0 K mg H ρ) d v → RD (pr0 K mg H ρ1) d v
  | .non, v, _, h => h
  | .bl b, v, _, h => h
  | .int i, v, _, h => h
  | .str s, v, _, h => h
  | .tup ds, v, c, h => by
    obtain ⟨a, xs, e, q, h2⟩ := h
    exact ⟨a, xs, e, q, RDs.sub hs hi ds xs (by unfold D.under at c; exact c) h2⟩
  | .lst ds, v, c, h => by
    obtain ⟨a, xs, e, q, n, h2⟩ := h
    exact ⟨a, xs, e, q, fun z => n (hs _ z), RDs.sub hs hi ds xs (by unfold D.under at c; exact c) h2⟩
  | .dic ks vs, v, c, h => by
    obtain ⟨a, kvs, e, n, q1, q2, q3⟩ := h
    exact ⟨a, kvs, e, fun z => n (hs _ z), q1, q2, RDs.sub hs hi vs _ (by unfold D.under at c; exact c) q3⟩
  | .dct ks vs, v, c, h => by
    obtain ⟨a, kvs, e, n, q1, q2, q3⟩ := h
    exact ⟨a, kvs, e, fun z => n (hs _ z), q1, q2, RDs.sub hs hi vs _ (by unfold D.under at c; exact c) q3⟩
  | .obj c ns vs, v, cc, h => by
    obtain ⟨a, C, dx, fs, e, q, n, m, en, h2⟩ := h
    exact ⟨a, C, dx, fs, e, q, fun z => n (hs _ z), m, en, RDs.sub hs hi vs _ (by unfold D.under at cc; exact cc) h2⟩
  | .ref k, v, c, h => by
    obtain ⟨a, e, q⟩ := h
    unfold D.under at c
    exact ⟨a, e, hi k a (by simpa using c) q⟩
  | .scr ns, v, _, h => by
    obtain ⟨a, e, q⟩ := h
    exact ⟨a, e, q.elim (fun q => .inl ⟨q.1, fun z => q.2 (hs _ z)⟩) .inr⟩
  | .glo x, v, _, h => h
  | .ty n, v, _, h => h
  | .clo id caps, v, c, h => by
    obtain ⟨r, f, c', cl, pm, ctv, us, er, e, q1, q2, q3, q4⟩ := h
    exact ⟨r, f, c', cl, pm, ctv, us, er, e, q1, q2, RDs.sub hs hi caps us (by unfold D.under at c; exact c) q3, q4⟩
theorem RDs.sub {n : Nat} (hs : ∀ b, b ∈ ρ1 → b ∈ ρ) (hi : ∀ (k : Nat) (a : Addr), k < n → ρ.l[k]? = some a → ρ1.l[k]? = some a) : ∀ (ds : List D) (xs : List V), D.underL n ds = true → RDs (pr0 K mg H ρ) ds xs → RDs (pr0 K mg H ρ1) ds xs
  | [], xs, _, h => h
  | d :: ds, xs, c, h => by
    obtain ⟨y, ys, e, h1, h2⟩ := h
    unfold D.underL at c
    rw [Bool.and_eq_true] at c
    exact ⟨y, ys, e, RD.sub hs hi d y c.1 h1, RDs.sub hs hi ds ys c.2 h2⟩
end
theorem RM.sub {n : Nat} (hs : ∀ b, b ∈ ρ1 → b ∈ ρ) (hi : ∀ (k : Nat) (a : Addr), k < n → ρ.l[k]? = some a → ρ1.l[k]? = some a) {a : Addr} {m : MO} (c : m.under n = true) (h : RM (pr0 K mg H ρ) a m) : RM (pr0 K mg H ρ1) a m := by
  cases m with
  | lst ds =>
    obtain ⟨xs, h1, h2⟩ := h
    exact ⟨xs, h1, RDs.sub hs hi ds xs c h2⟩
  | ins cc ns vs =>
    obtain ⟨C, dx, fs, h1, h2, h3, h4⟩ := h
    exact ⟨C, dx, fs, h1, h2, h3, RDs.sub hs hi vs _ c h4⟩
theorem trim_s {l r w : List Addr} : ∀ b, b ∈ (⟨l, w⟩ : Rh) → b ∈ (⟨l ++ r, w⟩ : Rh) := fun b z => z.elim (fun z => .inl (List.mem_append_left _ z)) .inr
theorem trim_i {l r w : List Addr} : ∀ (k : Nat) (a : Addr), k < l.length → (⟨l ++ r, w⟩ : Rh).l[k]? = some a → (⟨l, w⟩ : Rh).l[k]? = some a := fun k a hk q => by
  have q : (l ++ r)[k]? = some a := q
  rw [List.getElem?_append_left hk] at q
  exact q
theorem RD.trim {l r w : List Addr} (d : D) (v : V) (c : d.under l.length = true) (h : RD (pr0 K mg H ⟨l ++ r, w⟩) d v) : RD (pr0 K mg H ⟨l, w⟩) d v := RD.sub trim_s trim_i d v c h
theorem RDs.trim {l r w : List Addr} (d : List D) (v : List V) (c : D.underL l.length d = true) (h : RDs (pr0 K mg H ⟨l ++ r, w⟩) d v) : RDs (pr0 K mg H ⟨l, w⟩) d v := RDs.sub trim_s trim_i d v c h
theorem RM.trim {l r w : List Addr} {a : Addr} {m : MO} (c : m.under l.length = true) (h : RM (pr0 K mg H ⟨l ++ r, w⟩) a m) : RM (pr0 K mg H ⟨l, w⟩) a m := RM.sub trim_s trim_i c h
theorem noclo_trim {l r w : List Addr} {n : Nat} (hn : l.length = n) : l.length = n := hn
/-- the store at a def's end -/
theorem cut_store {H' : Hp} {ρ' : Rh} {S' : Store} (n0 : Nat) (hn : ρ.l.length = n0) (l : Le H ρ H' ρ') (s : StoreOk K mg H' ρ' S') (hall : (S'.take n0).all (MO.under n0) = true) :
    ∃ q, ρ' = ⟨ρ.l ++ q, ρ.w⟩ ∧ (∀ a ∈ q, H a = none) ∧ Le H ρ H' ρ ∧ StoreOk K mg H' ρ (S'.take n0) ∧ ∀ (k : Nat) (a : Addr), n0 ≤ k → (ρ.l ++ q)[k]? = some a → a ∉ ρ := by
  obtain ⟨q, eq, hq⟩ := l.pre
  have ew : ρ' = ⟨ρ.l ++ q, ρ.w⟩ := by
    obtain ⟨l', w'⟩ := ρ'
    have e1 : l' = ρ.l ++ q := eq
    have e2 : w' = ρ.w := l.w
    rw [e1, e2]
  subst ew
  have le2 : Le H ρ H' ρ := ⟨⟨[], by simp, fun _ z => nomatch z⟩, rfl, l.keep, l.still⟩
  have hall' : ∀ m ∈ S'.take n0, m.under ρ.l.length = true := fun m hm => by
    rw [hn]
    exact List.all_eq_true.mp hall m hm
  have hlen : (ρ.l ++ q).length = S'.length := s.len
  have hnl : n0 ≤ S'.length := by rw [← hlen, ← hn, List.length_append]; omega
  refine ⟨q, rfl, hq, le2, ⟨by rw [List.length_take]; omega, ?_, fun k a m e1 e2 => ?_, fun a ha => ⟨(s.wk a ha).1, fun z => (s.wk a ha).2 (List.mem_append_left _ z)⟩⟩, ?_⟩
  · exact (List.nodup_append.mp s.nd).1
  · have hk : k < ρ.l.length := (List.getElem?_eq_some_iff.mp e1).1
    have e3 : S'[k]? = some m := by
      rw [List.getElem?_take] at e2
      split at e2
      · exact e2
      · cases e2
    have q1 := s.ob k a m (by show (ρ.l ++ q)[k]? = some a; rw [List.getElem?_append_left hk]; exact e1) e3
    exact RM.trim (hall' m (List.mem_of_getElem? e2)) q1
  · intro k a hk e z
    rcases z with z | z
    · obtain ⟨j, hj, ej⟩ := List.mem_iff_getElem.mp z
      have e2 : (ρ.l ++ q)[j]? = some a := by rw [List.getElem?_append_left hj, List.getElem?_eq_getElem hj, ej]
      have := nodup_at s.nd e2 e
      omega
    · exact (s.wk a z).2 (List.mem_of_getElem? e)
/-- at a def's end -/
theorem leave_ok {kp : Bool} {r : Res D} (n0 : Nat) (hn : ρ.l.length = n0) (h : GoodC T K mg H ρ Q E (leave n0 kp r)) : GoodC T K mg H ρ Q E r := by
  cases r with
  | bad => exact h
  | ok d S' =>
    have h : GoodC T K mg H ρ Q E (if d.hasClo then .bad else leaveOk n0 kp d S') := h
    cases hdc : d.hasClo with
    | true => rw [hdc, if_pos rfl] at h; exact h.elim
    | false =>
    rw [hdc, if_neg Bool.false_ne_true] at h
    unfold leaveOk at h
    split at h
    · exact h
    · split at h
      · rename_i hall
        refine ⟨hdc, fun v H' ρ' l s t rd => ?_⟩
        obtain ⟨q, rfl, hq, le2, so, notin⟩ := cut_store n0 hn l s hall
        cases kp with
        | true =>
          rw [if_pos rfl] at h
          cases d with
          | ref k =>
            dsimp only at h
            split at h
            · rename_i m hm
              split at h
              · rename_i hk
                obtain ⟨a, e1, e2⟩ := rd
                have e2 : (ρ.l ++ q)[k]? = some a := e2
                have na := notin k a hk.1 e2
                have rm := s.ob k a m e2 hm
                have haq : H a = none := by
                  rw [List.getElem?_append_right (by omega)] at e2
                  exact hq a (List.mem_of_getElem? e2)
                have le3 : Le H ρ H' ⟨ρ.l ++ [a], ρ.w⟩ := ⟨⟨[a], rfl, fun b hb => by rw [List.mem_singleton.mp hb]; exact haq⟩, rfl, l.keep, l.still⟩
                have hs : ∀ b, b ∈ (⟨ρ.l ++ [a], ρ.w⟩ : Rh) → b ∈ (⟨ρ.l ++ q, ρ.w⟩ : Rh) := fun b z => by
                  rcases z with z | z
                  · have z : b ∈ ρ.l ++ [a] := z
                    rcases List.mem_append.mp z with z | z
                    · exact .inl (List.mem_append_left _ z)
                    · rw [List.mem_singleton.mp z]
                      exact .inl (List.mem_of_getElem? e2)
                  · exact .inr z
                have hi : ∀ (k : Nat) (b : Addr), k < n0 → (⟨ρ.l ++ q, ρ.w⟩ : Rh).l[k]? = some b → (⟨ρ.l ++ [a], ρ.w⟩ : Rh).l[k]? = some b := fun k b hk z => by
                  have z : (ρ.l ++ q)[k]? = some b := z
                  rw [List.getElem?_append_left (by omega)] at z
                  show (ρ.l ++ [a])[k]? = some b
                  rw [List.getElem?_append_left (by omega)]
                  exact z
                have so2 : StoreOk K mg H' ⟨ρ.l ++ [a], ρ.w⟩ (S'.take n0 ++ [m]) := by
                  have hl2 : (S'.take n0).length = n0 := by rw [← so.len, hn]
                  refine ⟨by show (ρ.l ++ [a]).length = _; rw [List.length_append, List.length_append, so.len]; rfl, ?_, fun j b m' f1 f2 => ?_, fun b hb => ⟨(so.wk b hb).1, fun z => ?_⟩⟩
                  · show (ρ.l ++ [a]).Nodup
                    rw [List.nodup_append]
                    exact ⟨so.nd, by simp, fun x hx y hy z => by rw [List.mem_singleton.mp hy] at z; rw [z] at hx; exact na (.inl hx)⟩
                  · have f1 : (ρ.l ++ [a])[j]? = some b := f1
                    by_cases hj : j < ρ.l.length
                    · rw [List.getElem?_append_left (by rw [hl2, ← hn]; exact hj)] at f2
                      have f3 : (ρ.l ++ q)[j]? = some b := by
                        rw [List.getElem?_append_left hj] at f1 ⊢
                        exact f1
                      have f4 : S'[j]? = some m' := by
                        rw [List.getElem?_take] at f2
                        split at f2
                        · exact f2
                        · cases f2
                      exact RM.sub hs hi (List.all_eq_true.mp hall m' (List.mem_of_getElem? f2)) (s.ob j b m' f3 f4)
                    · have hj1 : j = ρ.l.length := by
                        have := (List.getElem?_eq_some_iff.mp f1).1
                        rw [List.length_append] at this
                        have h1 : ([a] : List Addr).length = 1 := rfl
                        omega
                      subst hj1
                      rw [List.getElem?_append_right (Nat.le_refl _), Nat.sub_self] at f1
                      rw [List.getElem?_append_right (by rw [hl2, hn]; exact Nat.le_refl _), hl2, hn, Nat.sub_self] at f2
                      have e1' : a = b := by simpa using f1
                      have e2' : m = m' := by simpa using f2
                      rw [← e1', ← e2']
                      exact RM.sub hs hi hk.2 rm
                  · have z : b ∈ ρ.l ++ [a] := z
                    rcases List.mem_append.mp z with z | z
                    · exact (so.wk b hb).2 z
                    · rw [List.mem_singleton.mp z] at hb
                      exact na (.inr hb)
                refine h.2 v H' ⟨ρ.l ++ [a], ρ.w⟩ le3 so2 t ⟨a, e1, ?_⟩
                show (ρ.l ++ [a])[n0]? = some a
                rw [List.getElem?_append_right (by omega), hn, Nat.sub_self]
                rfl
              · exact h.elim
            · exact h.elim
          | _ => exact h.elim
        | false =>
          rw [if_neg Bool.false_ne_true] at h
          split at h
          · rename_i d' hd'
            split at h
            · exact h.elim
            · refine h.2 v H' ρ le2 so t ?_
              unfold frz at hd'
              split at hd'
              · rename_i hu
                cases hd'
                exact RD.trim d v (by rw [hn]; exact hu) rd
              · rename_i hu
                cases d with
                | ref k =>
                  dsimp only at hd'
                  obtain ⟨a, e1, e2⟩ := rd
                  have e2 : (ρ.l ++ q)[k]? = some a := e2
                  have hk : n0 ≤ k := by
                    unfold D.under at hu
                    have : ¬ k < n0 := by simpa using hu
                    omega
                  have na := notin k a hk e2
                  split at hd'
                  · rename_i l' hl'
                    split at hd'
                    · rename_i hul
                      cases hd'
                      obtain ⟨xs, h1, h2⟩ := s.ob k a _ e2 hl'
                      exact ⟨a, xs, e1, h1, na, RDs.trim l' xs (by rw [hn]; exact hul) h2⟩
                    · cases hd'
                  · rename_i c ns vs' hl'
                    split at hd'
                    · rename_i hul
                      cases hd'
                      obtain ⟨C, dx, fs, h1, h2, h3, h4⟩ := s.ob k a _ e2 hl'
                      exact ⟨a, C, dx, fs, e1, h1, na, h2, h3, RDs.trim vs' _ (by rw [hn]; exact hul) h4⟩
                    · cases hd'
                  · cases hd'
                | _ => cases hd'
          · exact h.elim
      · exact h.elim
  | exc c ns vs S' =>
    have h : GoodC T K mg H ρ Q E (if D.hasCloL vs then .bad else leaveX n0 c ns vs S') := h
    cases hdc : D.hasCloL vs with
    | true => rw [hdc, if_pos rfl] at h; exact h.elim
    | false =>
    rw [hdc, if_neg Bool.false_ne_true] at h
    unfold leaveX at h
    split at h
    · exact h
    · split at h
      · rename_i hc
        rw [Bool.and_eq_true] at hc
        refine ⟨hdc, fun H' ρ' C dd l s t hm hx => ?_⟩
        obtain ⟨q, rfl, hq, le2, so, notin⟩ := cut_store n0 hn l s hc.1
        refine h.2 H' ρ C dd le2 so t hm ?_
        rcases hx with hx | ⟨dd', fs, e1, e2, e3, e4⟩
        · exact .inl hx
        · exact .inr ⟨dd', fs, e1, e2, e3, RDs.trim vs _ (by rw [hn]; exact hc.2) e4⟩
      · exact h.elim
/-! ### the body -/
theorem under_noclo {n0 : Nat} {kp : Bool} {r : Res D} {d : D} {S' : Store} (h : leave n0 kp r = .ok d S') : d.hasClo = false := by
  cases r with
  | ok e S1 =>
    have h : (if e.hasClo then .bad else leaveOk n0 kp e S1) = .ok d S' := h
    cases hc : e.hasClo with
    | true => rw [hc, if_pos rfl] at h; cases h
    | false =>
      rw [hc, if_neg Bool.false_ne_true] at h
      unfold leaveOk at h
      split at h
      · cases h
        exact hc
      · split at h
        · cases kp with
          | true =>
            rw [if_pos rfl] at h
            cases e with
            | ref k =>
              dsimp only at h
              split at h
              · split at h
                · cases h
                  rfl
                · cases h
              · cases h
            | _ => cases h
          | false =>
            rw [if_neg Bool.false_ne_true] at h
            split at h
            · split at h
              · cases h
              · rename_i hd
                cases h
                simpa using hd
            · cases h
        · cases h
  | exc c ns vs S1 =>
    have h : (if D.hasCloL vs then .bad else leaveX n0 c ns vs S1) = .ok d S' := h
    unfold leaveX at h
    split at h
    · cases h
    · split at h
      · cases h
      · split at h <;> cases h
  | bad => cases h
theorem under_nocloX {n0 : Nat} {kp : Bool} {r : Res D} {c : Str} {ns : List Str} {vs : List D} {S' : Store} (h : leave n0 kp r = .exc c ns vs S') : D.hasCloL vs = false := by
  cases r with
  | ok e S1 =>
    have h : (if e.hasClo then .bad else leaveOk n0 kp e S1) = .exc c ns vs S' := h
    split at h
    · cases h
    · unfold leaveOk at h
      split at h
      · cases h
      · split at h
        · cases kp with
          | true =>
            rw [if_pos rfl] at h
            cases e with
            | ref k =>
              dsimp only at h
              split at h
              · split at h <;> cases h
              · cases h
            | _ => cases h
          | false =>
            rw [if_neg Bool.false_ne_true] at h
            split at h
            · split at h <;> cases h
            · cases h
        · cases h
  | exc c' ns' vs' S1 =>
    have h : (if D.hasCloL vs' then .bad else leaveX n0 c' ns' vs' S1) = .exc c ns vs S' := h
    cases hc : D.hasCloL vs' with
    | true => rw [hc, if_pos rfl] at h; cases h
    | false =>
      rw [hc, if_neg Bool.false_ne_true] at h
      unfold leaveX at h
      split at h
      · cases h
        exact hc
      · split at h
        · cases h
          exact hc
        · cases h
  | bad => cases h
/-- a def by its body -/
def fnF (N ps : List Str) (kp : Bool) (fb : En → Store → Res Fl) (ds : List D) (S : Store) : Res D := if ds.length = ps.length then leave S.length kp (retR (fb (startE N.length ds) S)) else .bad
theorem start_slot {N : List Str} {vs : List V} {ds : List D} {p : PR} (r : RDs p ds vs) (i : Nat) (d : D) (h : (startE N.length ds)[i]? = some (some d)) : ∃ v, (L2.start N vs)[i]? = some (some v) ∧ RD p d v := by
  unfold startE at h
  have hi : i < ds.length := by
    by_cases hi : i < ds.length
    · exact hi
    · rw [List.getElem?_append_right (by simpa using hi), List.getElem?_replicate] at h
      split at h <;> cases h
  rw [List.getElem?_append_left (by simpa using hi), List.getElem?_map] at h
  cases e : ds[i]? with
  | none => rw [e] at h; cases h
  | some d' =>
    rw [e] at h
    cases h
    obtain ⟨v, e2, r2⟩ := r.get e
    refine ⟨v, ?_, r2⟩
    unfold L2.start
    rw [List.getElem?_append_left (by rw [List.length_map, ← r.length]; exact hi), List.getElem?_map, e2]
    rfl
theorem fnD_of {P : Program} {w : World} {base : Heap} {k : Nat} {f : Addr} {name qual : Str} {params : Arguments} {body : List Stmt} {scope : Scope} {dV kV doc pm cdv ct oc : Value} {an od : Option Addr}
    {osl : Array (Option Value)} {N ps : List Str} {kp : Bool} {fb : En → Store → Res Fl} (lk : K.lookup f = some ⟨oc, od, .func (PySem.W.fnOf name qual params body scope dV kV doc pm an cdv ct), osl⟩) (hcd : PySem.W.codeIn K cdv qual = true) (Sc : FnScope N ps scope)
    (hbody : ∀ (A : Around) (outer : List Env) (s : Shared) (H : Hp) (E : XK), Room k (A.deeper (envOfC qual scope s.heap.objs.size f cdv)) → DSs T (cxOf (CX P w) P w K mg base N qual scope f cdv A outer s H E) (fun cls dd _ H => E cls dd H) body fb) :
    FnD T P w K mg base (k + 1) f (PySem.W.fnOf name qual params body scope dV kV doc pm an cdv ct) ps (fnF N ps kp fb) := by
  have hlen : ∀ ds S, fnF N ps kp fb ds S ≠ .bad → ds.length = ps.length := fun ds S h => by
    unfold fnF at h
    split at h
    · assumption
    · exact absurd rfl h
  refine ⟨hlen, fun ds S d S' h => ?_, fun ds S c ns vs S' h => ?_, fun A outer s H args us vs Q E ρ ds S hr e0 hb r so tb rd h => ?_⟩
  · unfold fnF at h
    split at h
    · exact under_noclo h
    · cases h
  · unfold fnF at h
    split at h
    · exact under_nocloX h
    · cases h
  · have hl : ds.length = ps.length := hlen ds S (fun z => by rw [z] at h; exact h)
    have hl2 : vs.length = ps.length := by rw [← rd.length]; exact hl
    unfold fnF at h
    rw [if_pos hl] at h
    have h := leave_ok S.length so.len h
    refine LamX.run_ofS lk hcd Sc hr e0 hb r hl2 fun hr' => ⟨_, hbody A outer s H E hr', ρ, startE N.length ds, S, ⟨fun i d hd => ?_, so, tb, ?_⟩, ?_⟩
    · obtain ⟨v, e1, e2⟩ := start_slot rd i d hd
      have hcp : ∀ c u, CellS s H c u → CellP (cxOf (CX P w) P w K mg base N qual scope f cdv A outer s H E) (L2.start N vs) c u := fun c u ⟨u', q1, q2, q3⟩ => .inr ⟨u', q1, q2, q3, fun z => nomatch (show c ∈ ([] : List Addr) from z)⟩
      have pl : PLe ⟨K, mg, H, ρ, CellS s H⟩ (pr (cxOf (CX P w) P w K mg base N qual scope f cdv A outer s H E) (L2.start N vs) H ρ) := ⟨rfl, rfl, fun _ _ e _ _ => e, fun _ _ _ n => n, fun _ _ q => q, hcp, so.mut, so.nofn⟩
      exact ⟨v, e1, RD.le pl d v e2⟩
    · unfold startE L2.start
      rw [List.length_append, List.length_append, List.length_map, List.length_map, List.length_replicate, List.length_replicate, rd.length]
    · generalize fb (startE N.length ds) S = z at h ⊢
      cases z with
      | ok o S' => cases o with
        | nx δ' => exact fun σ' H' ρ' l w' => h.2 .non H' ρ' l w'.sto w'.tabs rfl
        | ret d => exact h
        | brk δ' => exact h.elim
        | cnt δ' => exact h.elim
      | exc c ns vs' S' =>
        intro σ' H' ρ' δ' C dd l w' hm hx
        refine h.2 H' ρ' C dd l w'.sto w'.tabs hm ?_
        rcases hx with hx | ⟨a, fs, q1, q2, q3, q4⟩
        · exact .inl hx
        · exact .inr ⟨a, fs, q1, q2, q3, RDs.noclo (p := pr _ σ' H' ρ') (p' := pr0 K mg H' ρ') rfl rfl rfl rfl vs' _ h.1 q4⟩
      | bad => exact h
end
end MM
end
section
set_option Elab.async false
set_option linter.all false
set_option maxRecDepth 100000
set_option maxHeartbeats 4000000
/-! Calls. -/
namespace MM
open PySem PySem.Spec PyProof.Rows L2
variable [Lams]
section
variable {T : List (Addr × Str)} {X : Cx} {W : WX} {σ : L2.St} {H H1 H2 : Hp} {ρ ρ1 ρ2 : Rh} {δ : En} {S : Store} {Q : VK} {g : GE}
/-- from a body's world to a callee's -/
theorem RDs.down {pins : List (Addr × Obj)} {s : Shared} (I : Inv X pins σ H s) (w : Wld T X σ H ρ δ S) {ds : List D} {vs : List V} (r : RDs (pr X σ H ρ) ds vs) : RDs ⟨X.K, X.mg, H, ρ, CellS s H⟩ ds vs :=
  RDs.le (p := pr X σ H ρ) (p' := ⟨X.K, X.mg, H, ρ, CellS s H⟩) (w.sto.ple Le.rfl' fun c v z => cell_down I z) ds vs r
theorem good_c (w : Wld T X σ H ρ δ S) {r : Res D} (h : Good T X W σ H ρ δ Q r) (nc : ∀ d S', r = .ok d S' → d.hasClo = false) (nx : ∀ c ns vs S', r = .exc c ns vs S' → D.hasCloL vs = false) :
    GoodC T X.K X.mg H ρ Q (fun cls dd H' => W cls dd σ H') r := by
  cases r with
  | ok d S' =>
    have hc := nc d S' rfl
    exact ⟨hc, fun v H' ρ' l s t rd => h v H' ρ' l (w.next l s t) (RD.noclo (p := pr0 X.K X.mg H' ρ') (p' := pr X σ H' ρ') rfl rfl rfl rfl d v hc rd)⟩
  | exc c ns vs S' =>
    have hc := nx c ns vs S' rfl
    refine ⟨hc, fun H' ρ' C dd l s t hm hx => h H' ρ' C dd l (w.next l s t) hm ?_⟩
    rcases hx with hx | ⟨a, fs, q1, q2, q3, q4⟩
    · exact .inl hx
    · exact .inr ⟨a, fs, q1, q2, q3, RDs.noclo (p := pr0 X.K X.mg H' ρ') (p' := pr X σ H' ρ') rfl rfl rfl rfl vs _ hc q4⟩
  | bad => exact h
/-- the callee runs -/
theorem run_fnD {k : Nat} {f : Addr} {fd : FuncData} {ps : List Str} {F : List D → Store → Res D} {pins : List (Addr × Obj)} {s : Shared} {args : Args} {us : List Value} {vs : List V} {ds : List D} (tk : Takes X W) (Fn : FnD T X.prog X.w X.K X.mg X.base k f fd ps F) (hr : Room k X.A)
    (hb : BindsTo s fd args (ps.zip us)) (I : Inv X pins σ H s) (w : Wld T X σ H ρ δ S) (r : Vals vs us) (rd : RDs (pr X σ H ρ) ds vs) (h : Good T X W σ H ρ δ Q (F ds S)) : wpAny (model X.prog X.w) X.A (call (.ref f) args.pos args.kw) (EP X pins σ Q) X.xe s := by
  have hg := good_c w h (fun d S' e => Fn.nc ds S d S' e) (fun c ns vs S' e => Fn.nx ds S c ns vs S' e)
  refine wpAny_call (codeAny_mono (Fn.run X.A X.stack s H args us vs Q (fun cls dd H' => W cls dd σ H') ρ ds S hr I.env0 hb r w.sto w.tabs (RDs.down I w rd) hg) fun r s' hq => ?_)
  cases r with
  | error e => exact tk e s' (XE.of_call I (fun cls d H' h => h) hq)
  | ok fl =>
    cases fl with
    | ret u => exact I.after hq
    | next => exact False.elim hq
    | brk => exact False.elim hq
    | cont => exact False.elim hq
/-- what stands under a name: a def of the text -/
structure FnAtN (T : List (Addr × Str)) (X : Cx) (g : GE) (k : Nat) (x : Str) (ps : List Str) : Prop where
  ex : ∃ f fd F, X.mg x = some (.ref f) ∧ PySem.W.keepIn X.K (.ref f) = true ∧ FnD T X.prog X.w X.K X.mg X.base k f fd ps F ∧ (∀ us : List Value, us.length = ps.length → bindArgs fd ⟨us, []⟩ = pure (ps.zip us)) ∧ ∀ ds S, g.fn x ds S = F ds S
theorem de_call {k : Nat} {x : Str} {ps : List Str} {p pos : Pos} {e : Expr} {es : List Expr} {fs : En → Store → Res (List D)} (tk : Takes X W) (hr : Room k X.A) (hf : FnAtN T X g k x ps) (hg : Gl X x) (hdb : (x == ("__debug__" : Str)) = false)
    (he : starEach (e :: es) X.env = (false, eval e X.env) :: starEach es X.env) (hpl : (backTo pos (starEach es X.env)).any (·.1) = false) (ha : DA T X W (e :: es) fs) :
    DE T X W (.Call (.Name x p) (e :: es) [] pos) (fun δ S => (fs δ S).bind fun xs S => g.fn x xs S) := by
  obtain ⟨f, fd, F, hm, hk, Fn, hb, hF⟩ := hf.ex
  refine ⟨fun pins s σ H Q I h => ?_⟩
  obtain ⟨ρ, δ, S, w, h⟩ := h
  refine wpAny_Call_Name_kw (ld_glob I hg hm ?_ hdb)
  refine PySem.W.callWith_K (h₀ := X.base) I.ok.mod.kin hk (thn (ha.run pos pins s σ H (fun vs H1 => ∃ ρ1 S1 ds, Wld T X σ H1 ρ1 δ S1 ∧ RDs (pr X σ H1 ρ1) ds vs ∧ Good T X W σ H1 ρ1 δ Q (g.fn x ds S1)) I ⟨ρ, δ, S, w, embA_bind h fun vs H1 ρ1 ds S1 l1 w1 r1 h1 => ⟨ρ1, S1, ds, w1, r1, h1⟩⟩) fun us s1 ⟨vs, H1, I1, r, ρ1, S1, ds, w1, rd, q⟩ => ⟨I1.kIn, ?_⟩) he hpl
  rw [hF] at q
  have hl : us.length = ps.length := by
    rw [← r.length, ← rd.length]
    exact Fn.len ds S1 fun z => by rw [z] at q; exact q
  exact run_fnD (args := ⟨us, []⟩) tk Fn hr (.of_eq (hb us hl)) I1 w1 r rd q
theorem de_call0 {k : Nat} {x : Str} {ps : List Str} {p pos : Pos} (tk : Takes X W) (hr : Room k X.A) (hf : FnAtN T X g k x ps) (hg : Gl X x) (hdb : (x == ("__debug__" : Str)) = false) :
    DE T X W (.Call (.Name x p) [] [] pos) (fun δ S => g.fn x [] S) := by
  obtain ⟨f, fd, F, hm, hk, Fn, hb, hF⟩ := hf.ex
  refine ⟨fun pins s σ H Q I h => ?_⟩
  obtain ⟨ρ, δ, S, w, h⟩ := h
  refine wpAny_Call_Name_kw (ld_glob I hg hm ?_ hdb)
  have q : Good T X W σ H ρ δ Q (F [] S) := by rw [← hF]; exact h
  have hl : ([] : List Value).length = ps.length := Fn.len [] S fun z => by rw [z] at q; exact q
  exact PySem.W.callWith_K0 I.kIn hk (run_fnD (args := ⟨[], []⟩) (us := []) (vs := []) (ds := []) tk Fn hr (.of_eq (hb [] hl)) I w .nil rfl q)
/-! ### keywords alone -/
abbrev DK (T : List (Addr × Str)) (X : Cx) (W : WX) (kws : List Keyword) (f : En → Store → Res (List D)) : Prop := PK X kws (embA T X W f)
theorem PK_weak {kws : List Keyword} {t t' : TA} (h : PK X kws t) (w : ∀ σ H Q, t' σ H Q → t σ H Q) : PK X kws t' := ⟨fun pos pins s σ H Q I hq => h.run pos pins s σ H Q I (w σ H Q hq)⟩
theorem dk_nil : DK T X W [] fNil := PK_weak pk_nil fun σ H Q ⟨ρ, δ, S, w, h⟩ => h [] H ρ Le.rfl' w rfl
theorem dk_cons {e : Expr} {kws : List Keyword} {nm : Option Str} {kpos : Pos} {fa : En → Store → Res D} {fr : En → Store → Res (List D)} (ha : DE T X W e fa) (hr : DK T X W kws fr) : DK T X W (⟨nm, e, kpos⟩ :: kws) (fCons fa fr) := by
  refine PK_weak (pk_cons ha hr) ?_
  rintro σ H Q ⟨ρ, δ, S, w, h⟩
  refine ⟨ρ, δ, S, w, emb_bindL h fun v H1 ρ1 d S1 l1 w1 r1 h1 => ⟨ρ1, δ, S1, w1, embA_bindL h1 fun vs H2 ρ2 ds S2 l2 w2 r2 h2 => ?_⟩⟩
  exact h2 _ H2 ρ2 Le.rfl' w2 ⟨v, vs, rfl, r1.le (w1.ple l2), r2⟩
theorem zip_look {p : PR} : ∀ (ks : List Str) (ds : List D) (vs : List V) (y : Str), RDs p ds vs → (∃ d v, (ks.zip ds).lookup y = some d ∧ (ks.zip vs).lookup y = some v ∧ RD p d v) ∨ ((ks.zip ds).lookup y = none ∧ (ks.zip vs).lookup y = none)
  | [], ds, vs, y, r => .inr ⟨rfl, rfl⟩
  | k :: ks, [], vs, y, r => by
    have e : vs = [] := r
    rw [e]
    exact .inr ⟨rfl, rfl⟩
  | k :: ks, d :: ds, vs, y, r => by
    obtain ⟨v, vr, e, h1, h2⟩ := r
    rw [e]
    show (∃ d' v', List.lookup y ((k, d) :: ks.zip ds) = some d' ∧ List.lookup y ((k, v) :: ks.zip vr) = some v' ∧ RD p d' v') ∨ (List.lookup y ((k, d) :: ks.zip ds) = none ∧ List.lookup y ((k, v) :: ks.zip vr) = none)
    rw [List.lookup_cons, List.lookup_cons]
    cases y == k with
    | true => exact .inl ⟨d, v, rfl, rfl, h1⟩
    | false => exact zip_look ks ds vr y h2
theorem perm_rd {p : PR} (ks : List Str) {ds : List D} {vs : List V} (r : RDs p ds vs) : ∀ ps : List Str, RDs p (permBy ps ks ds) (permBy ps ks vs)
  | [] => rfl
  | y :: ps => by
    have ih := perm_rd ks r ps
    unfold permBy at ih ⊢
    rw [List.filterMap_cons, List.filterMap_cons]
    rcases zip_look ks ds vs y r with ⟨d, v, e1, e2, rd⟩ | ⟨e1, e2⟩
    · rw [e1, e2]
      exact ⟨v, _, rfl, rd, ih⟩
    · rw [e1, e2]
      exact ih
theorem zip_lookV : ∀ (ks : List Str) (vs : List V) (us : List Value) (y : Str), Vals vs us → (∃ v u, (ks.zip vs).lookup y = some v ∧ (ks.zip us).lookup y = some u ∧ RelV v u) ∨ ((ks.zip vs).lookup y = none ∧ (ks.zip us).lookup y = none)
  | [], vs, us, y, r => .inr ⟨rfl, rfl⟩
  | k :: ks, _, _, y, .nil => .inr ⟨rfl, rfl⟩
  | k :: ks, _, _, y, .cons (a := v) (b := u) (l₁ := vr) (l₂ := ur) h1 h2 => by
    show (∃ d' v', List.lookup y ((k, v) :: ks.zip vr) = some d' ∧ List.lookup y ((k, u) :: ks.zip ur) = some v' ∧ RelV d' v') ∨ (List.lookup y ((k, v) :: ks.zip vr) = none ∧ List.lookup y ((k, u) :: ks.zip ur) = none)
    rw [List.lookup_cons, List.lookup_cons]
    cases y == k with
    | true => exact .inl ⟨v, u, rfl, rfl, h1⟩
    | false => exact zip_lookV ks vr ur y h2
theorem perm_vals (ks : List Str) {vs : List V} {us : List Value} (r : Vals vs us) : ∀ ps : List Str, Vals (permBy ps ks vs) (permBy ps ks us)
  | [] => .nil
  | y :: ps => by
    have ih := perm_vals ks r ps
    unfold permBy at ih ⊢
    rw [List.filterMap_cons, List.filterMap_cons]
    rcases zip_lookV ks vs us y r with ⟨d, v, e1, e2, rd⟩ | ⟨e1, e2⟩
    · rw [e1, e2]
      exact .cons rd ih
    · rw [e1, e2]
      exact ih
/-- how keywords alone bind -/
structure FnKw (T : List (Addr × Str)) (X : Cx) (g : GE) (k : Nat) (x : Str) (ps ks : List Str) : Prop where
  ex : ∃ f fd F, X.mg x = some (.ref f) ∧ PySem.W.keepIn X.K (.ref f) = true ∧ FnD T X.prog X.w X.K X.mg X.base k f fd ps F ∧ (∀ us : List Value, us.length = ks.length → bindArgs fd ⟨[], ks.zip us⟩ = pure (ps.zip (permBy ps ks us))) ∧ ∀ ds S, g.fn x ds S = F ds S
theorem de_kcl {k : Nat} {x : Str} {ps ks : List Str} {p pos : Pos} {kws : List Keyword} {fs : En → Store → Res (List D)} (tk : Takes X W) (hr : Room k X.A) (hf : FnKw T X g k x ps ks) (hg : Gl X x) (hdb : (x == ("__debug__" : Str)) = false)
    (hall : (backToKw pos (keywordEach kws X.env)).all (·.1.isSome) = true) (hks : (backToKw pos (keywordEach kws X.env)).filterMap (·.1) = ks)
    (hpl : ((backTo pos (starEach [] X.env)).any (·.1) || (backToKw pos (keywordEach kws X.env)).any (·.1.isNone)) = false) (ha : DK T X W kws fs) :
    DE T X W (.Call (.Name x p) [] kws pos) (fun δ S => (fs δ S).bind fun xs S => if xs.length = ks.length then g.fn x (permBy ps ks xs) S else .bad) := by
  obtain ⟨f, fd, F, hm, hk, Fn, hb, hF⟩ := hf.ex
  refine ⟨fun pins s σ H Q I h => ?_⟩
  obtain ⟨ρ, δ, S, w, h⟩ := h
  refine wpAny_Call_Name_kw (ld_glob I hg hm ?_ hdb)
  refine PySem.W.callWith_KW0 (h₀ := X.base) I.ok.mod.kin hk hall (thn (ha.run pos pins s σ H (fun vs H1 => ∃ ρ1 S1 ds, Wld T X σ H1 ρ1 δ S1 ∧ RDs (pr X σ H1 ρ1) ds vs ∧ Good T X W σ H1 ρ1 δ Q (if ds.length = ks.length then g.fn x (permBy ps ks ds) S1 else .bad)) I ⟨ρ, δ, S, w, embA_bind h fun vs H1 ρ1 ds S1 l1 w1 r1 h1 => ⟨ρ1, S1, ds, w1, r1, h1⟩⟩) fun us s1 ⟨vs, H1, I1, r, ρ1, S1, ds, w1, rd, q⟩ => ⟨I1.kIn, ?_⟩) hpl
  obtain ⟨hl, q⟩ := good_if q
  rw [hF] at q
  rw [hks]
  exact run_fnD (args := ⟨[], ks.zip us⟩) tk Fn hr (.of_eq (hb us (by rw [← r.length, ← rd.length]; exact hl))) I1 w1 (perm_vals ks r ps) (perm_rd ks rd ps) q
end
end MM
end
section
set_option Elab.async false
set_option linter.all false
set_option maxRecDepth 100000
set_option maxHeartbeats 4000000
/-! Lambdas: made. -/
namespace MM
open PySem PySem.Spec PyProof.Rows L2
variable [Lams]
section
variable {T : List (Addr × Str)} {X : Cx} {W : WX} {σ : L2.St} {H H1 H2 : Hp} {ρ ρ1 ρ2 : Rh} {δ : En} {S : Store} {Q : VK} {g : GE} {K : PySem.W.Frag} {mg : Str → Option Value} {pins : List (Addr × Obj)} {s : Shared}
theorem le_ext (e : LamX.ExtN H H1) (st : ∀ a o, H a = some o → ∃ o', H1 a = some o') : Le H ρ H1 ρ := ⟨⟨[], by simp, fun _ z => nomatch z⟩, rfl, fun a o h _ t => e a o h t, st⟩
theorem StoreOk.extN (so : StoreOk K mg H ρ S) (e : LamX.ExtN H H1) (st : ∀ a o, H a = some o → ∃ o', H1 a = some o') : StoreOk K mg H1 ρ S := by
  have pl : PLe (pr0 K mg H ρ) (pr0 K mg H1 ρ) := so.ple (le_ext e st) fun _ _ z => z
  refine ⟨so.len, so.nd, fun k a m e1 e2 => ?_, fun a ha => ⟨?_, (so.wk a ha).2⟩⟩
  · have hm := so.there (List.mem_of_getElem? e1)
    refine (so.ob k a m e1 e2).le pl ?_
    rcases hm with ⟨xs, q⟩ | ⟨C, dx, fs, q⟩
    · show H1 a = H a
      rw [q]
      exact e a _ q (fun _ z => by cases z)
    · show H1 a = H a
      rw [q]
      exact e a _ q (fun _ z => by cases z)
  · rcases (so.wk a ha).1 with ⟨xs, q⟩ | ⟨xs, q⟩ | ⟨xs, q⟩
    · exact .inl ⟨xs, e a _ q (fun _ z => by cases z)⟩
    · exact .inr (.inl ⟨xs, e a _ q (fun _ z => by cases z)⟩)
    · exact .inr (.inr ⟨xs, e a _ q (fun _ z => by cases z)⟩)
theorem cloO_new {f : Addr} {o : Obj} {P : Program} {w : World} {H : Hp} {h : Heap} (e : h.get? f = some o) : ObjOk P w H h f (cloO f o) := ⟨e, ⟨o, e⟩, fun h1 h2 q st => st _ q⟩
/-- a lambda is made, its function object is known from now on -/
theorem lam_made {c P : Addr} {params : Arguments} {body : Expr} {scope : Scope} {pos : Pos} {E : Value → Shared → Prop} {Qf : Value → Shared → Prop} (I : Inv X pins σ H s) (TB : LamX.TabB X.base X.mg c P) (hcode : X.env.code = .ref c)
    (hm : (P, X.env.qual ++ "<lambda>") ∈ T) (hu : ∀ p ∈ T, p.1 = P → p.2 = X.env.qual ++ "<lambda>") (hT : LamX.Tabs T H) (hdef : defaultsOf params X.env = ([], [])) (hfree : ∀ y ∈ scope.names, y.2 = .free → ∃ c, X.env.cells.lookup y.1 = some c)
    (h : ∀ (f c' : Addr) (pm ctv : Value) (H1 : Hp) (s' : Shared), Inv X pins σ H1 s' → LamX.ExtN H H1 → (∀ a o, H a = some o → ∃ o', H1 a = some o') → LamX.Tabs T H1 →
      H1 f = some (cloO f (PySem.W.kla_obj "<lambda>" (X.env.qual ++ "<lambda>") params body scope (cloFrom X.env.cells scope.names []) pm c' ctv)) → H1 c' = some (LamX.CodeO c' (X.env.qual ++ "<lambda>")) → Qf (.ref f) s') :
    wpAny (model X.prog X.w) X.A (eval (.Lambda params body scope pos) X.env) Qf E s := by
  obtain ⟨ps, hP, ht, ha⟩ := hT _ hm
  refine PySem.W.kla_eval hdef ?_
  have bP : s.heap.BuiltinsAt X.mg P := TB.bm.keeps I.bk
  have hP' : s.heap.get? P = some { cls := .none, data := .fields ps } := I.hok P _ hP
  cases hc : codeAmong pos ps.toList with
  | none =>
    refine PySem.W.kla_makeFunction (mg := X.mg) (c := c) (P := P) (ps := ps) (closure_ok hfree) I.ok.glob (I.mod.glob.keeps I.bk) hcode (TB.code.keeps I.bk) hP' ht hc TB.gP bP fun c' ctv h' tk hx hge hlt hrec htb => ?_
    obtain ⟨c2, oc, vs, t, e2, hoc, hd, hv⟩ := hrec
    cases e2
    have hsz : s.heap.objs.size ≤ h'.objs.size := Nat.le_trans hge (Nat.le_of_lt hlt)
    have nC : H c' = none := I.hok.fresh hge
    have I1 := LamX.inv_table (t' := tk) (more := #[rawInt pos.line, rawInt pos.col, .ref c']) (h' := h') (q := X.env.qual ++ "<lambda>") I hP (fun b o hb e => hx b o hb e) htb hge ⟨oc, vs, t, hoc, hd, hv⟩
    have hE : LamX.ExtN H (L2.upd (L2.upd H P (.tbl (ps ++ #[rawInt pos.line, rawInt pos.col, .ref c']))) c' (LamX.CodeO c' (X.env.qual ++ "<lambda>"))) := fun b o e n => by
      rw [upd_ne (ne_of_none e nC), upd_ne (fun z => n ps (Option.some.inj (e.symm.trans (by rw [z]; exact hP))))]
      exact e
    have hS : ∀ a o, H a = some o → ∃ o', (L2.upd (L2.upd H P (.tbl (ps ++ #[rawInt pos.line, rawInt pos.col, .ref c']))) c' (LamX.CodeO c' (X.env.qual ++ "<lambda>"))) a = some o' := fun a o e => by
      rw [upd_ne (ne_of_none e nC)]
      by_cases z : a = P
      · rw [z, upd_same]
        exact ⟨_, rfl⟩
      · rw [upd_ne z]
        exact ⟨o, e⟩
    have eL : (ps ++ #[rawInt pos.line, rawInt pos.col, .ref c']).toList = ps.toList ++ [rawInt pos.line, rawInt pos.col, .ref c'] := by simp
    have hT1 : LamX.Tabs T (L2.upd (L2.upd H P (.tbl (ps ++ #[rawInt pos.line, rawInt pos.col, .ref c']))) c' (LamX.CodeO c' (X.env.qual ++ "<lambda>"))) := fun p hp => by
      by_cases hb : p.1 = P
      · rw [hu p hp hb, hb]
        refine ⟨_, by rw [upd_ne (ne_of_none hP nC), upd_same], by rw [eL]; exact PySem.TriplesOk_snoc _ _ _ _ ht, fun p' cv hcv => ?_⟩
        rw [eL] at hcv
        rcases LamX.among_app _ ht hcv with z | z
        · obtain ⟨c0, e1, e2⟩ := ha p' cv z
          exact ⟨c0, e1, hE _ _ e2 LamX.codeO_ne⟩
        · exact ⟨c', z, upd_same⟩
      · obtain ⟨ps', a1, a2, a3⟩ := hT p hp
        refine ⟨ps', by rw [upd_ne (ne_of_none a1 nC), upd_ne hb]; exact a1, a2, fun p' cv hcv => ?_⟩
        obtain ⟨c0, e1, e2⟩ := a3 p' cv hcv
        exact ⟨c0, e1, hE _ _ e2 LamX.codeO_ne⟩
    generalize hH : L2.upd (L2.upd H P (.tbl (ps ++ #[rawInt pos.line, rawInt pos.col, .ref c']))) c' (LamX.CodeO c' (X.env.qual ++ "<lambda>")) = H1 at I1 hE hS hT1
    have hn : H1 h'.objs.size = none := I1.hok.fresh (Nat.le_refl _)
    have hc1 : H1 c' = some (LamX.CodeO c' (X.env.qual ++ "<lambda>")) := by rw [← hH, upd_same]
    have I2 := I1.laid (a := h'.objs.size) (o := cloO h'.objs.size (PySem.W.kla_obj "<lambda>" (X.env.qual ++ "<lambda>") params body scope (cloFrom X.env.cells scope.names []) ((X.mg "__name__").getD .none) c' ctv))
      (h' := h'.push (PySem.W.kla_obj "<lambda>" (X.env.qual ++ "<lambda>") params body scope (cloFrom X.env.cells scope.names []) ((X.mg "__name__").getD .none) c' ctv)) (t' := tk) (fun b u e => Heap.get?_push_of_some _ e) (Nat.le_refl _) (cloO_new (Heap.get?_push_size _ rfl))
    refine h h'.objs.size c' ((X.mg "__name__").getD .none) ctv _ _ I2 (fun a o e n => ?_) (fun a o e => ?_) (hT1.ext fun b o e => by rw [upd_ne (ne_of_none e hn)]; exact e) upd_same (by rw [upd_ne (ne_of_none hc1 hn)]; exact hc1)
    · have := hE a o e n
      rw [upd_ne (ne_of_none this hn)]
      exact this
    · obtain ⟨o', e'⟩ := hS a o e
      exact ⟨o', by rw [upd_ne (ne_of_none e' hn)]; exact e'⟩
  | some cv =>
    obtain ⟨c', e, hco⟩ := ha pos cv hc
    subst e
    refine PySem.W.kla_makeFunctionHit (mg := X.mg) (c := c) (P := P) (ps := ps) (closure_ok hfree) I.ok.glob (I.mod.glob.keeps I.bk) hcode (TB.code.keeps I.bk) hP' ht hc bP fun ctv h' tk hx hsz => ?_
    have I1 : Inv X pins σ H { s with heap := h', toks := tk } := I.kept hx
    have hn : H h'.objs.size = none := I1.hok.fresh (Nat.le_refl _)
    have I2 := I1.laid (a := h'.objs.size) (o := cloO h'.objs.size (PySem.W.kla_obj "<lambda>" (X.env.qual ++ "<lambda>") params body scope (cloFrom X.env.cells scope.names []) ((X.mg "__name__").getD .none) c' ctv))
      (h' := h'.push (PySem.W.kla_obj "<lambda>" (X.env.qual ++ "<lambda>") params body scope (cloFrom X.env.cells scope.names []) ((X.mg "__name__").getD .none) c' ctv)) (t' := tk) (fun b u e => Heap.get?_push_of_some _ e) (Nat.le_refl _) (cloO_new (Heap.get?_push_size _ rfl))
    refine h h'.objs.size c' ((X.mg "__name__").getD .none) ctv _ _ I2 (fun a o e n => by rw [upd_ne (ne_of_none e hn)]; exact e) (fun a o e => ⟨o, by rw [upd_ne (ne_of_none e hn)]; exact e⟩) (hT.ext fun b o e => by rw [upd_ne (ne_of_none e hn)]; exact e) upd_same (by rw [upd_ne (ne_of_none hco hn)]; exact hco)
end
end MM
end
section
set_option Elab.async false
set_option linter.all false
set_option maxRecDepth 100000
set_option maxHeartbeats 4000000
/-! Lambdas: as values, called. -/
namespace MM
open PySem PySem.Spec PyProof.Rows L2 NdefX
variable [Lams]
section
variable {T : List (Addr × Str)} {X : Cx} {W : WX} {σ : L2.St} {H H1 H2 : Hp} {ρ ρ1 ρ2 : Rh} {δ : En} {S : Store} {Q : VK} {g : GE} {K : PySem.W.Frag} {mg : Str → Option Value} {pins : List (Addr × Obj)} {s : Shared}
theorem getSlots_ok {p : PR} (h : ∀ (i : Nat) (d : D), δ[i]? = some (some d) → ∃ v, σ[i]? = some (some v) ∧ RD p d v) : ∀ (js : List Nat) (ds : List D), getSlots js δ = some ds → ∃ us, RDs p ds us ∧ us.length = js.length ∧ ∀ (i j : Nat) (u : V), js[i]? = some j → us[i]? = some u → σ[j]? = some (some u)
  | [], ds, e => by
    cases e
    exact ⟨[], rfl, rfl, fun i j u e => by simp at e⟩
  | j :: js, ds, e => by
    unfold getSlots at e
    split at e
    · rename_i d hd
      obtain ⟨ds', e1, e2⟩ := Option.map_eq_some_iff.mp e
      obtain ⟨us, r, hl, hk⟩ := getSlots_ok h js ds' e1
      obtain ⟨v, hv, rv⟩ := h j d hd
      refine ⟨v :: us, by rw [← e2]; exact ⟨v, us, rfl, rv, r⟩, by rw [List.length_cons, List.length_cons, hl], fun i k u e3 e4 => ?_⟩
      cases i with
      | zero =>
        have e3 : j = k := by simpa using e3
        have e4 : v = u := by simpa using e4
        rw [← e3, ← e4]
        exact hv
      | succ i => exact hk i k u (by simpa using e3) (by simpa using e4)
    · cases e
/-- what must be seen of a lambda's text where it is made -/
structure LamAt (T : List (Addr × Str)) (X : Cx) (id : Nat) (r : LamRec) (js : List Nat) : Prop where
  tab : Lams.tab id = some r
  qual : X.env.qual ++ "<lambda>" = r.qual
  code : ∃ c P, X.env.code = .ref c ∧ LamX.TabB X.base X.mg c P ∧ (P, X.env.qual ++ "<lambda>") ∈ T ∧ ∀ p ∈ T, p.1 = P → p.2 = X.env.qual ++ "<lambda>"
  dflt : defaultsOf r.args X.env = ([], [])
  free : ∀ y ∈ r.sc.names, y.2 = .free → (X.env.scope.names.lookup y.1 = some .cell ∨ X.env.scope.names.lookup y.1 = some .free) ∧ y.1 ∈ r.fr
  fr : ∀ y ∈ r.fr, (y, NameKind.free) ∈ r.sc.names
  at_ : js.map (fun j => X.N[j]?) = r.fr.map some
theorem de_lam {id : Nat} {r : LamRec} {js : List Nat} {pos : Pos} (L : LamAt T X id r js) : DE T X W (.Lambda r.args r.body r.sc pos) (fun δ S => match getSlots js δ with
    | some ds => .ok (.clo id ds) S
    | none => .bad) := by
  refine ⟨fun pins s σ H Q I h => ?_⟩
  obtain ⟨ρ, δ, S, w, h⟩ := h
  obtain ⟨c, P, hcode, TB, hm, hu⟩ := L.code
  have hf : ∀ y ∈ r.sc.names, y.2 = .free → ∃ c, X.env.cells.lookup y.1 = some c := fun y hy e => ((L.free y hy e).1).elim (fun z => I.ok.has _ (.inl z)) fun z => I.ok.has _ (.inr z)
  cases hg : getSlots js δ with
  | none =>
    have h : Good T X W σ H ρ δ Q (match getSlots js δ with
      | some ds => .ok (.clo id ds) S
      | none => .bad) := h
    rw [hg] at h
    exact h.elim
  | some ds =>
    have h : Good T X W σ H ρ δ Q (match getSlots js δ with
      | some ds => .ok (.clo id ds) S
      | none => .bad) := h
    rw [hg] at h
    refine lam_made I TB hcode hm hu w.tabs L.dflt hf fun f c' pm ctv H1 s' I1 eN st T1 hfo hco => ?_
    have le : Le H ρ H1 ρ := le_ext eN st
    have w1 : Wld T X σ H1 ρ δ S := w.next le (w.sto.extN eN st) T1
    obtain ⟨us, rus, hul, hus⟩ := getSlots_ok (p := pr X σ H1 ρ) (σ := σ) (fun i d e => w1.slot i d e) js ds hg
    have hjl : js.length = r.fr.length := by
      have q := congrArg List.length L.at_
      rw [List.length_map, List.length_map] at q
      exact q
    refine ⟨.ref f, H1, I1, rfl, h (.ref f) H1 ρ le w1 ⟨r, f, c', cloFrom X.env.cells r.sc.names [], pm, ctv, us, L.tab, rfl, by rw [← L.qual]; exact hfo, by rw [← L.qual]; exact hco, rus, ?_, fun y a e => ?_, fun x y a e1 e2 => ?_, fun i x u e1 e2 => ?_⟩⟩
    · rw [hul, hjl]
    · rcases cloFrom_mem (PySem.mem_of_lookup e) with z | ⟨z, _⟩
      · cases z
      · exact (L.free _ z rfl).2
    · exact I1.ok.inj x y a (clo_cm hf e1) (clo_cm hf e2)
    · have hxm := List.mem_of_getElem? e1
      have hfr := L.fr x hxm
      have hk := (L.free _ hfr rfl).1
      obtain ⟨a, ha⟩ := hf _ hfr rfl
      refine ⟨a, clo_has hf hfr ha, ?_⟩
      have hi : i < js.length := by rw [hjl]; exact (List.getElem?_eq_some_iff.mp e1).1
      have e3 : js[i]? = some js[i] := List.getElem?_eq_getElem hi
      refine .inl ⟨js[i], x, ?_, hk, ha, hus i _ u e3 e2⟩
      have e4 : (js.map fun j => X.N[j]?)[i]? = some (some x) := by
        rw [L.at_, List.getElem?_map, e1]
        rfl
      rw [List.getElem?_map, e3] at e4
      exact Option.some.inj e4
/-! ### called -/
abbrev lamNF (r : LamRec) (cl : List (Str × Addr)) (c : Addr) : NF := ⟨"<lambda>", r.qual, r.args, [], r.sc, cl, c⟩
def cloF (r : LamRec) (fe : En → Store → Res D) (ds caps : List D) (S : Store) : Res D := if ds.length = r.ps.length then leave S.length false (fe (ds.map some ++ caps.map some) S) else .bad
/-- what holds of a lambda's text and its body -/
structure LamOk (T : List (Addr × Str)) (P : Program) (w : World) (K : PySem.W.Frag) (mg : Str → Option Value) (base : Heap) (k : Nat) (r : LamRec) (fe : En → Store → Res D) : Prop where
  sc : NScope (r.ps ++ r.fr) r.ps r.fr r.sc
  bind : ∀ (cl : List (Str × Addr)) (pm cv ctv : Value) (us : List Value), us.length = r.ps.length → bindArgs (PySem.W.kla_fn "<lambda>" r.qual r.args r.body r.sc cl pm cv ctv) ⟨us, []⟩ = pure (r.ps.zip us)
  body : ∀ (A : Around) (outer : List Env) (s : Shared) (H : Hp) (E : XK) (cl : List (Str × Addr)) (c f : Addr), Room k (A.deeper (envF (lamNF r cl c) f s.heap.objs.size)) →
    DE T (ncx (CX P w) P w K mg base (r.ps ++ r.fr) (lamNF r cl c) f A outer s H E) (fun cls dd _ H => E cls dd H) r.body fe
theorem cloO_at {P : Program} {w : World} {h : Heap} {f : Addr} {o : Obj} (hok : HOk P w H h) (e : H f = some (cloO f o)) : h.get? f = some o := (hok f _ e).1
theorem run_clo {P : Program} {w : World} {base : Heap} {k : Nat} {id : Nat} {r : LamRec} {fe : En → Store → Res D} (hid : Lams.tab id = some r) (L : LamOk T P w K mg base k r fe) {A : Around} {outer : List Env} {us : List Value} {vs : List V} {E : XK} {ds caps : List D} {f : Addr} (hr : Room (k + 1) A) (e0 : Env0 P w K mg base A outer s H)
    (rv : Vals vs us) (so : StoreOk K mg H ρ S) (tb : LamX.Tabs T H) (rf : RD ⟨K, mg, H, ρ, CellS s H⟩ (.clo id caps) (.ref f)) (rd : RDs ⟨K, mg, H, ρ, CellS s H⟩ ds vs) (h : GoodC T K mg H ρ Q E (cloF r fe ds caps S)) :
    codeAny (model P w) A (.call (.ref f) ⟨us, []⟩) (CR (CX P w) outer P w H s Q E) s := by
  obtain ⟨r', f'', c', cl, pm, ctv, ws, er, ef, hfo, hco, rws, cap⟩ := rf
  rw [hid] at er
  cases er
  cases ef
  unfold cloF at h
  split at h
  · rename_i hl
    have h := leave_ok S.length so.len h
    have lim : s.heap.NoLimit := e0.mod.nolimit.keeps fun b o e => (e0.bs b o e).1
    have ho := cloO_at e0.hok hfo
    have hl2 : vs.length = r.ps.length := by rw [← rd.length]; exact hl
    have hlu : us.length = r.ps.length := by rw [← rv.length]; exact hl2
    refine PySem.W.kla_callFunE hr.depth ho rfl L.sc.co L.sc.gen rfl (codeO_at e0.hok hco) ?_
    rw [L.bind cl pm (.ref c') ctv us hlu]
    refine wpAny_pure (wpAny_newFunctionEnv L.sc.nocell (fun ⟨n, _⟩ hy => L.sc.par n (List.of_mem_zip hy).1) (fun h₁ hns hsb => ⟨lim.fresh _ hsb, ?_⟩) L.sc.kind)
    show codeAny _ _ (.expr r.body (envF (lamNF r cl c') f s.heap.objs.size)) _ _
    have kp : ∀ b o, s.heap.get? b = some o → h₁.get? b = some o := fun b o e => hsb.extBut b o (Nat.ne_of_lt (Heap.lt_size e)) (Heap.get?_push_of_some _ e)
    have C : CellsAt (lamNF r cl c').cl r.fr (ws.map some) s.heap H := by
      refine ⟨by rw [List.length_map]; exact cap.len, fun y a e => ?_, cap.inj, fun i y e => ?_⟩
      · have hy := cap.sub y a e
        obtain ⟨i, hi⟩ := List.mem_iff_getElem?.mp hy
        have hi2 : i < ws.length := by rw [cap.len]; exact (List.getElem?_eq_some_iff.mp hi).1
        obtain ⟨a', e1, u, q1, q2, q3⟩ := cap.at_ i y ws[i] hi (List.getElem?_eq_getElem hi2)
        have e : cl.lookup y = some a := e
        rw [e] at e1
        cases e1
        exact ⟨q3, _, q1⟩
      · have hi2 : i < ws.length := by rw [cap.len]; exact (List.getElem?_eq_some_iff.mp e).1
        obtain ⟨a', e1, u, q1, q2, q3⟩ := cap.at_ i y ws[i] e (List.getElem?_eq_getElem hi2)
        refine ⟨a', e1, fun v ev => ⟨u, ?_, q1⟩⟩
        rw [List.getElem?_map, List.getElem?_eq_getElem hi2] at ev
        have ev : ws[i] = v := by simpa using ev
        rw [← ev]
        exact q2
    have I : Inv (ncx (CX P w) P w K mg base (r.ps ++ r.fr) (lamNF r cl c') f A outer s H E) [] (startF (r.ps ++ r.fr) vs (ws.map some)) H { s with heap := h₁, toks := s.toks + (r.ps.zip us).length } := inv_startN L.sc hr.hd e0 hl2 rv C hns kp
    have hst : startF (r.ps ++ r.fr) vs (ws.map some) = vs.map some ++ ws.map some := by
      unfold startF
      have : (r.ps ++ r.fr).length - vs.length - (ws.map some).length = 0 := by
        rw [List.length_append, List.length_map, hl2, cap.len]
        omega
      rw [this]
      simp
    rw [hst] at I
    have hcp : ∀ c u, CellS s H c u → CellP (ncx (CX P w) P w K mg base (r.ps ++ r.fr) (lamNF r cl c') f A outer s H E) (vs.map some ++ ws.map some) c u := fun c u ⟨u', q1, q2, q3⟩ => .inr ⟨u', q1, q2, q3, fun z => nomatch (show c ∈ ([] : List Addr) from z)⟩
    have pl : PLe ⟨K, mg, H, ρ, CellS s H⟩ (pr (ncx (CX P w) P w K mg base (r.ps ++ r.fr) (lamNF r cl c') f A outer s H E) (vs.map some ++ ws.map some) H ρ) := ⟨rfl, rfl, fun _ _ e _ _ => e, fun _ _ _ n => n, fun _ _ q => q, hcp, so.mut, so.nofn⟩
    have wd : Wld T (ncx (CX P w) P w K mg base (r.ps ++ r.fr) (lamNF r cl c') f A outer s H E) (vs.map some ++ ws.map some) H ρ (ds.map some ++ caps.map some) S := by
      refine ⟨fun i d e => ?_, so, tb, by rw [List.length_append, List.length_append, List.length_map, List.length_map, List.length_map, List.length_map, rd.length, rws.length]⟩
      rw [← List.map_append, List.getElem?_map] at e
      have e9 : (vs.map some ++ ws.map some)[i]? = (vs ++ ws)[i]?.map some := by rw [← List.map_append, List.getElem?_map]
      rw [e9]
      cases e2 : (ds ++ caps)[i]? with
      | none => rw [e2] at e; cases e
      | some d' =>
        rw [e2] at e
        have e : d' = d := by simpa using e
        obtain ⟨v, e3, e4⟩ := (rd.append rws).get e2
        rw [e3]
        exact ⟨v, rfl, by rw [← e]; exact e4.le pl⟩
    refine PySem.W.kla_codeExpr (wpAny_mono ((L.body A outer s H E cl c' f (hr.deeper _)).run [] _ _ H Q I ⟨ρ, _, S, wd, ?_⟩) (fun v s' hq => ?_) fun e s' hq => hq)
    · generalize fe (ds.map some ++ caps.map some) S = z at h ⊢
      cases z with
      | ok d S' => exact fun v H' ρ' l w' rr => h.2 v H' ρ' l w'.sto w'.tabs (RD.noclo (p := pr _ _ H' ρ') (p' := pr0 K mg H' ρ') rfl rfl rfl rfl d v h.1 rr)
      | exc c ns vs' S' =>
        intro H' ρ' C dd l w' hm hx
        refine h.2 H' ρ' C dd l w'.sto w'.tabs hm ?_
        rcases hx with hx | ⟨a, fs, q1, q2, q3, q4⟩
        · exact .inl hx
        · exact .inr ⟨a, fs, q1, q2, q3, RDs.noclo (p := pr _ _ H' ρ') (p' := pr0 K mg H' ρ') rfl rfl rfl rfl vs' _ h.1 q4⟩
      | bad => exact h
    · obtain ⟨v', H', J, rr, q⟩ := hq
      exact ⟨v', H', J.os, J.bare, J.base, J.hok, rr, q⟩
  · exact h.elim
end
end MM
end
section
set_option Elab.async false
set_option linter.all false
set_option maxRecDepth 100000
set_option maxHeartbeats 4000000
/-! A name that holds a function, called. -/
namespace MM
open PySem PySem.Spec PyProof.Rows L2 NdefX
variable [Lams]
section
variable {T : List (Addr × Str)} {X : Cx} {W : WX} {σ : L2.St} {H H1 H2 : Hp} {ρ ρ1 ρ2 : Rh} {δ : En} {S : Store} {Q : VK} {g : GE} {K : PySem.W.Frag} {mg : Str → Option Value} {pins : List (Addr × Obj)} {s : Shared}
structure ClOk (T : List (Addr × Str)) (X : Cx) (g : GE) (k : Nat) : Prop where
  clo : ∀ id caps ds S, g.cl (.clo id caps) ds S ≠ .bad → ∃ r fe, Lams.tab id = some r ∧ LamOk T X.prog X.w X.K X.mg X.base k r fe ∧ g.cl (.clo id caps) ds S = cloF r fe ds caps S
  glo : ∀ x ds S, g.cl (.glo x) ds S ≠ .bad → ∃ ps, FnAtN T X g k x ps ∧ g.cl (.glo x) ds S = g.fn x ds S
  kp : ∀ y a, g.gk y = true → X.mg y = some (.ref a) → PySem.W.keepIn X.K (.ref a) = true
  oth : ∀ d ds S, g.cl d ds S ≠ .bad → (∃ id caps, d = .clo id caps) ∨ ∃ x, d = .glo x
theorem good_nb {r : Res D} (h : Good T X W σ H ρ δ Q r) : r ≠ .bad := fun z => by rw [z] at h; exact h
/-- the called value's call -/
theorem run_cl {k : Nat} {us : List Value} {vs : List V} {d : D} {ds : List D} {f : Addr} (tk : Takes X W) (hc : ClOk T X g k) (hr : Room (k + 1) X.A) (I : Inv X pins σ H s) (w : Wld T X σ H ρ δ S) (rf : RD (pr X σ H ρ) d (.ref f)) (r : Vals vs us) (rd : RDs (pr X σ H ρ) ds vs)
    (h : Good T X W σ H ρ δ Q (g.cl d ds S)) : wpAny (model X.prog X.w) X.A (call (.ref f) us) (EP X pins σ Q) X.xe s := by
  rcases hc.oth d ds S (good_nb h) with ⟨id, caps, rfl⟩ | ⟨x, rfl⟩
  · obtain ⟨rec, fe, hid, L, e⟩ := hc.clo id caps ds S (good_nb h)
    rw [e] at h
    have nc : ∀ d S', cloF rec fe ds caps S = .ok d S' → d.hasClo = false := fun d S' e => by
      unfold cloF at e
      split at e
      · exact under_noclo e
      · cases e
    have nx : ∀ c ns vs S', cloF rec fe ds caps S = .exc c ns vs S' → D.hasCloL vs = false := fun c ns vs S' e => by
      unfold cloF at e
      split at e
      · exact under_nocloX e
      · cases e
    have hg := good_c w h nc nx
    have rf' : RD ⟨X.K, X.mg, H, ρ, CellS s H⟩ (.clo id caps) (.ref f) := RD.le (p := pr X σ H ρ) (w.sto.ple Le.rfl' fun c v z => cell_down I z) _ _ rf
    refine wpAny_call (codeAny_mono (run_clo (E := fun cls dd H' => W cls dd σ H') hid L hr I.env0 r w.sto w.tabs rf' (RDs.down I w rd) hg) fun r s' hq => ?_)
    cases r with
    | error e => exact tk e s' (XE.of_call I (fun cls d H' h => h) hq)
    | ok fl =>
      cases fl with
      | ret u => exact I.after hq
      | next => exact False.elim hq
      | brk => exact False.elim hq
      | cont => exact False.elim hq
  · obtain ⟨ps, hf, e⟩ := hc.glo x ds S (good_nb h)
    rw [e] at h
    obtain ⟨f', fd, F, hm, hk, Fn, hb, hF⟩ := hf.ex
    rw [hF] at h
    obtain ⟨a, ea, ha⟩ := rf
    have ha : X.mg x = some (.ref a) := ha
    rw [hm] at ha
    cases ha
    cases ea
    have hl : us.length = ps.length := by
      rw [← r.length, ← rd.length]
      exact Fn.len ds S (good_nb h)
    exact run_fnD (args := ⟨us, []⟩) tk Fn (hr.mono (Nat.le_succ k)) (.of_eq (hb us hl)) I w r rd h
/-- what is called is a function object -/
theorem cl_fnAt {k : Nat} {d : D} {ds : List D} {v : V} {S1 : Store} (hc : ClOk T X g k) (I : Inv X pins σ H s) (rf : RD (pr X σ H ρ) d v) (h : g.cl d ds S1 ≠ .bad) : ∃ f, v = .ref f ∧ (PySem.W.FnAt f s.heap ∨ PySem.W.keepIn X.K (.ref f) = true) := by
  rcases hc.oth d ds S1 h with ⟨id, caps, rfl⟩ | ⟨x, rfl⟩
  · obtain ⟨r, f, c', cl, pm, ctv, us, er, ef, hfo, _⟩ := rf
    exact ⟨f, ef, .inl ⟨_, _, _, _, cloO_at I.hok hfo⟩⟩
  · obtain ⟨ps, hf, e⟩ := hc.glo x ds S1 h
    obtain ⟨f', fd, F, hm, hk, _⟩ := hf.ex
    obtain ⟨a, ea, ha⟩ := rf
    have ha : X.mg x = some (.ref a) := ha
    rw [hm] at ha
    cases ha
    exact ⟨f', ea, .inr hk⟩
theorem de_clv {k i : Nat} {x : Str} {p pos : Pos} {e : Expr} {es : List Expr} {fs : En → Store → Res (List D)} (tk : Takes X W) (hc : ClOk T X g k) (hr : Room (k + 1) X.A) (hN : X.N[i]? = some x) (hv : Vis X.env.scope x) (hd : (x == ("__debug__" : Str)) = false) (hcd : (x == ("__classdict__" : Str)) = false)
    (he : starEach (e :: es) X.env = (false, eval e X.env) :: starEach es X.env) (hpl : (backTo pos (starEach es X.env)).any (·.1) = false) (ha : DA T X W (e :: es) fs) :
    DE T X W (.Call (.Name x p) (e :: es) [] pos) (fun δ S => match δ[i]? with
      | some (some d) => if clKind g d then (fs δ S).bind fun xs S => g.cl d xs S else .bad
      | _ => .bad) := by
  refine ⟨fun pins s σ H Q I h => ?_⟩
  obtain ⟨ρ, δ, S, w, h⟩ := h
  obtain ⟨d, hδ, hk, h⟩ : ∃ d, δ[i]? = some (some d) ∧ clKind g d = true ∧ Good T X W σ H ρ δ Q ((fs δ S).bind fun xs S => g.cl d xs S) := by
    dsimp only at h
    split at h
    · rename_i d hd'
      obtain ⟨h1, h2⟩ := good_if h
      exact ⟨d, hd', h1, h2⟩
    · exact h.elim
  obtain ⟨v, hs, rv⟩ := w.slot i d hδ
  refine wpAny_Call_Name_kw (thn ((pe_var (pos := p) hN hv hd hcd).run pins s σ H (fun v' H1 => v' = v ∧ H1 = H) I ⟨v, hs, rfl, rfl⟩) fun u s1 ⟨v', H1, I1, r1, q1⟩ => ?_)
  obtain ⟨ev', eH⟩ := q1
  subst ev'
  rw [eH] at I1
  have hargs := ha.run pos pins s1 σ H (fun vs H1 => ∃ ρ1 S1 ds, Le H ρ H1 ρ1 ∧ Wld T X σ H1 ρ1 δ S1 ∧ RDs (pr X σ H1 ρ1) ds vs ∧ Good T X W σ H1 ρ1 δ Q (g.cl d ds S1)) I1 ⟨ρ, δ, S, w, embA_bind h fun vs H1 ρ1 ds S1 l1 w1 r1 h1 => ⟨ρ1, S1, ds, l1, w1, r1, h1⟩⟩
  cases d with
  | clo ci caps =>
    obtain ⟨r, f, c', cl, pm, ctv, us, er, ef, hfo, hrest⟩ := id rv
    subst ef
    obtain rfl : u = Value.ref f := r1
    refine PySem.W.callWith_F (first := []) ⟨_, _, _, _, cloO_at I1.hok hfo⟩ (thn hargs fun us s2 ⟨vs, H2, I2, r, ρ2, S2, ds, l2, w2, rd, q⟩ => ?_) he hpl
    have rv2 := rv.le (w.ple l2)
    obtain ⟨r', f', c'', cl', pm', ctv', us', er', ef', hfo', _⟩ := id rv2
    cases ef'
    exact ⟨⟨_, _, _, _, cloO_at I2.hok hfo'⟩, run_cl tk hc hr I2 w2 rv2 r rd q⟩
  | glo y =>
    obtain ⟨a, ea, ham⟩ := id rv
    subst ea
    obtain rfl : u = Value.ref a := r1
    refine PySem.W.callWith_K (h₀ := X.base) I1.ok.mod.kin (hc.kp y a hk ham) (thn hargs fun us s2 ⟨vs, H2, I2, r, ρ2, S2, ds, l2, w2, rd, q⟩ => ⟨I2.kIn, ?_⟩) he hpl
    exact run_cl tk hc hr I2 w2 (rv.le (w.ple l2)) r rd q
  | _ => cases hk
theorem de_clv0 {k i : Nat} {x : Str} {p pos : Pos} (tk : Takes X W) (hc : ClOk T X g k) (hr : Room (k + 1) X.A) (hN : X.N[i]? = some x) (hv : Vis X.env.scope x) (hd : (x == ("__debug__" : Str)) = false) (hcd : (x == ("__classdict__" : Str)) = false) :
    DE T X W (.Call (.Name x p) [] [] pos) (fun δ S => match δ[i]? with
      | some (some d) => if clKind g d then g.cl d [] S else .bad
      | _ => .bad) := by
  refine ⟨fun pins s σ H Q I h => ?_⟩
  obtain ⟨ρ, δ, S, w, h⟩ := h
  obtain ⟨d, hδ, hk, h⟩ : ∃ d, δ[i]? = some (some d) ∧ clKind g d = true ∧ Good T X W σ H ρ δ Q (g.cl d [] S) := by
    dsimp only at h
    split at h
    · rename_i d hd'
      obtain ⟨h1, h2⟩ := good_if h
      exact ⟨d, hd', h1, h2⟩
    · exact h.elim
  obtain ⟨v, hs, rv⟩ := w.slot i d hδ
  refine wpAny_Call_Name_kw (thn ((pe_var (pos := p) hN hv hd hcd).run pins s σ H (fun v' H1 => v' = v ∧ H1 = H) I ⟨v, hs, rfl, rfl⟩) fun u s1 ⟨v', H1, I1, r1, q1⟩ => ?_)
  obtain ⟨ev', eH⟩ := q1
  subst ev'
  rw [eH] at I1
  cases d with
  | clo ci caps =>
    obtain ⟨r, f, c', cl, pm, ctv, us, er, ef, hfo, hrest⟩ := id rv
    subst ef
    obtain rfl : u = Value.ref f := r1
    exact PySem.W.callWith_F0 (first := []) ⟨_, _, _, _, cloO_at I1.hok hfo⟩ (run_cl (us := []) (vs := []) (ds := []) tk hc hr I1 w rv .nil rfl h)
  | glo y =>
    obtain ⟨a, ea, ham⟩ := id rv
    subst ea
    obtain rfl : u = Value.ref a := r1
    exact PySem.W.callWith_K0 I1.kIn (hc.kp y a hk ham) (run_cl (us := []) (vs := []) (ds := []) tk hc hr I1 w rv .nil rfl h)
  | _ => cases hk
end
end MM
end
section
set_option Elab.async false
set_option linter.all false
set_option maxRecDepth 100000
set_option maxHeartbeats 4000000
/-! Instances: fields, properties, methods, construction. -/
namespace MM
open PySem PySem.Spec PyProof.Rows L2 NdefX
variable [Lams]
section
variable {T : List (Addr × Str)} {X : Cx} {W : WX} {σ : L2.St} {H H1 H2 : Hp} {ρ ρ1 ρ2 : Rh} {δ : En} {S : Store} {Q : VK} {g : GE} {K : PySem.W.Frag} {mg : Str → Option Value} {pins : List (Addr × Obj)} {s : Shared}
/-- fields of the text's classes -/
structure FsOk (K : PySem.W.Frag) (mg : Str → Option Value) (g : GE) : Prop where
  ok : ∀ c f C, g.fs c f = true → mg c = some (.ref C) → Cls K C ∧ NoAttr K C f
theorem insOf_ok (w : Wld T X σ H ρ δ S) {d : D} {v : V} {c : Str} {ns : List Str} {vs : List D} (r : RD (pr X σ H ρ) d v) (e : insOf S d = some (c, ns, vs)) :
    ∃ a C dx fs, v = .ref a ∧ H a = some (.ins C dx fs) ∧ X.mg c = some (.ref C) ∧ fs.map (·.1) = ns ∧ RDs (pr X σ H ρ) vs (fs.map (·.2)) := by
  unfold insOf at e
  cases d with
  | obj c' ns' vs' =>
    cases e
    obtain ⟨a, C, dx, fs, e1, h1, n, h2, h3, h4⟩ := r
    exact ⟨a, C, dx, fs, e1, h1, h2, h3, h4⟩
  | ref k =>
    dsimp only at e
    split at e
    · rename_i c' ns' vs' hs
      cases e
      obtain ⟨a, e1, e2⟩ := r
      obtain ⟨C, dx, fs, h1, h2, h3, h4⟩ := w.sto.ob k a _ e2 hs
      exact ⟨a, C, dx, fs, e1, h1, h2, h3, h4.le (w.sto.ple Le.rfl' fun _ _ z => z.elim)⟩
    · cases e
  | _ => cases e
theorem look_ok {p : PR} {f : Str} : ∀ (ns : List Str) (vs : List D) (fs : List (Str × V)) (d : D), fs.map (·.1) = ns → RDs p vs (fs.map (·.2)) → (ns.zip vs).lookup f = some d → ∃ v, fs.lookup f = some v ∧ RD p d v
  | [], vs, fs, d, e, r, h => by simp at h
  | n :: ns, [], fs, d, e, r, h => by simp at h
  | n :: ns, v :: vs, [], d, e, r, h => by simp at e
  | n :: ns, v :: vs, (m, u) :: fs, d, e, r, h => by
    have e : m :: fs.map (·.1) = n :: ns := e
    injection e with e1 e2
    obtain ⟨u', us, e3, r1, r2⟩ := r
    have e3 : u :: fs.map (·.2) = u' :: us := e3
    injection e3 with e3 e4
    subst e1
    subst e3
    subst e4
    have h : List.lookup f ((m, v) :: ns.zip vs) = some d := h
    show ∃ v, List.lookup f ((m, u) :: fs) = some v ∧ _
    rw [List.lookup_cons] at h ⊢
    cases hb : f == m with
    | true =>
      rw [hb] at h
      cases h
      exact ⟨u, rfl, r1⟩
    | false =>
      rw [hb] at h
      exact look_ok ns vs fs d e2 r2 h
/-- a property's getter, a method -/
structure MeOk (T : List (Addr × Str)) (X : Cx) (g : GE) (k : Nat) : Prop where
  pp : ∀ c f C, g.pp c f = true → X.mg c = some (.ref C) → Cls X.K C ∧ ∃ p fa fd F, PropOf X.K C f p fa ∧ FnD T X.prog X.w X.K X.mg X.base k fa fd [("self" : Str)] F ∧ (∀ us : List Value, us.length = 1 → bindArgs fd ⟨us, []⟩ = pure ([("self" : Str)].zip us)) ∧ ∀ o S, g.me c f o [] S = F [o] S
/-- a def's promise where no closures are handed, and no exception wanted -/
theorem FnD.ok {P : Program} {w : World} {base : Heap} {k : Nat} {f : Addr} {fd : FuncData} {ps : List Str} {F : List D → Store → Res D} (h : FnD T P w K mg base k f fd ps F) :
    FnOk P w K mg base (CX P w) k f fd ps (fun vs H Q E => ∃ ρ ds S, StoreOk K mg H ρ S ∧ LamX.Tabs T H ∧ D.hasCloL ds = false ∧ RDs (pr0 K mg H ρ) ds vs ∧ GoodC T K mg H ρ Q E (F ds S)) := by
  refine ⟨fun vs H Q E ⟨ρ, ds, S, so, tb, hc, rd, hg⟩ => ?_, fun A outer s H args us vs Q E hr e0 hb r ⟨ρ, ds, S, so, tb, hc, rd, hg⟩ => ?_⟩
  · rw [← rd.length]
    exact h.len ds S fun z => by rw [z] at hg; exact hg
  · exact h.run A outer s H args us vs Q E ρ ds S hr e0 hb r so tb (RDs.noclo (p := pr0 K mg H ρ) (p' := ⟨K, mg, H, ρ, CellS s H⟩) rfl rfl rfl rfl ds vs hc rd) hg
theorem nox_none {X : Cx} (hx : ∀ e s, ¬ X.nox.xe e s) : True := trivial
theorem binds_of {K : PySem.W.Frag} {fd : FuncData} {ps : List Str} (hb : ∀ us : List Value, us.length = ps.length → bindArgs fd ⟨us, []⟩ = pure (ps.zip us)) : L2.Binds K fd ps [] := .all hb
theorem passes0 (X : Cx) : Passes (CX X.prog X.w) X (fun _ _ _ => False) := fun pins σ H s e s' I c => by
  obtain ⟨_, _, _, _, _, _, _, _, _, _, _, _, z⟩ := c
  exact z.elim
theorem de_fld {k : Nat} {e : Expr} {f : Str} {pos : Pos} {fe : En → Store → Res D} (fs : FsOk X.K X.mg g) (me : MeOk T X g k) (hr : Room (k + 1) X.A) (hb : attrPlain e = true) (he : DE T X W e fe) :
    DE T X W (.Attribute e f pos) (fun δ S => (fe δ S).bind fun x S => opFld g x f S) := by
  refine ⟨fun pins s σ H Q I h => ?_⟩
  obtain ⟨ρ, δ, S, w, h⟩ := h
  refine attr_of (attrBase hb) (thn (he.run pins s σ H (fun v H1 => ∃ ρ1 S1 d, Wld T X σ H1 ρ1 δ S1 ∧ RD (pr X σ H1 ρ1) d v ∧ Good T X W σ H1 ρ1 δ Q (opFld g d f S1)) I ⟨ρ, δ, S, w, emb_bind h fun v H1 ρ1 d S1 l1 w1 r1 h1 => ⟨ρ1, S1, d, w1, r1, h1⟩⟩) fun u s1 ⟨v, H1, I1, rv, ρ1, S1, d, w1, r1, q⟩ => ?_)
  unfold opFld at q
  cases hi : insOf S1 d with
  | none => rw [hi] at q; exact q.elim
  | some z =>
    obtain ⟨c, ns, vs⟩ := z
    rw [hi] at q
    dsimp only at q
    obtain ⟨a, C, dx, fls, e1, h1, h2, h3, h4⟩ := insOf_ok w1 r1 hi
    subst e1
    obtain rfl : u = Value.ref a := rv
    cases hf : g.fs c f with
    | true =>
      rw [hf, if_pos rfl] at q
      cases hl : (ns.zip vs).lookup f with
      | none => rw [hl] at q; exact q.elim
      | some d' =>
        rw [hl] at q
        obtain ⟨v', e2, r2⟩ := look_ok ns vs fls d' h3 h4 hl
        obtain ⟨c1, c2⟩ := fs.ok c f C hf h2
        exact getattr_ok I1 h1 c1 c2 e2 fun u' s2 I2 ru => ⟨v', H1, I2, ru, fin q w1 r2⟩
    | false =>
      rw [hf, if_neg Bool.false_ne_true] at q
      cases hp : g.pp c f with
      | false => rw [hp, if_neg Bool.false_ne_true] at q; exact q.elim
      | true =>
        rw [hp, if_pos rfl] at q
        obtain ⟨c1, p, fa, fd, F, po, Fn, hbi, hF⟩ := me.pp c f C hp h2
        rw [hF] at q
        cases hd : d.hasClo with
        | true => rw [hd, if_pos rfl] at q; exact q.elim
        | false =>
          rw [hd, if_neg Bool.false_ne_true] at q
          refine getprop_ok (ds := []) (dvs := []) I1 h1 c1 po Fn.ok hr (binds_of hbi) .nil (passes0 X.nox) ?_
          refine ⟨ρ1, [d], S1, w1.sto, w1.tabs, by unfold D.hasCloL; rw [hd]; rfl, ⟨_, [], rfl, RD.noclo (p := pr X σ H1 ρ1) (p' := pr0 X.K X.mg H1 ρ1) rfl rfl rfl rfl d _ hd r1, rfl⟩, ?_⟩
          cases hres : F [d] S1 with
          | ok d' S' =>
            rw [hres] at q
            have q : Good T X W σ H1 ρ1 δ Q (if d'.hasClo then .bad else .ok d' S') := q
            have hc := Fn.nc _ _ _ _ hres
            rw [hc, if_neg Bool.false_ne_true] at q
            exact ⟨hc, fun v H' ρ' l s t rd => q v H' ρ' l (w1.next l s t) (RD.noclo (p := pr0 X.K X.mg H' ρ') (p' := pr X σ H' ρ') rfl rfl rfl rfl d' v hc rd)⟩
          | exc _ _ _ _ => rw [hres] at q; exact q.elim
          | bad => rw [hres] at q; exact q.elim
end
end MM
end
section
set_option Elab.async false
set_option linter.all false
set_option maxRecDepth 100000
set_option maxHeartbeats 4000000
/-! Construction, methods, stores of fields. -/
namespace MM
open PySem PySem.Spec PyProof.Rows L2 NdefX
variable [Lams]
/-- C(..): a new instance, __init__ on it -/
def mkF (c : Str) (kp : Bool) (F : List D → Store → Res D) (ds : List D) (S : Store) : Res D := if D.hasCloL ds then .bad else match F (.ref S.length :: ds) (S ++ [.ins c [] []]) with
  | .ok .non S' => leave S.length kp (.ok (.ref S.length) S')
  | .exc x ns vs S' => leave S.length kp (.exc x ns vs S')
  | _ => .bad
section
variable {T : List (Addr × Str)} {X : Cx} {W : WX} {σ : L2.St} {H H1 H2 : Hp} {ρ ρ1 ρ2 : Rh} {δ : En} {S : Store} {Q : VK} {g : GE} {K : PySem.W.Frag} {mg : Str → Option Value} {pins : List (Addr × Obj)} {s : Shared}
theorem mkF_nc {c : Str} {kp : Bool} {F : List D → Store → Res D} {ds : List D} {d : D} {S' : Store} (h : mkF c kp F ds S = .ok d S') : d.hasClo = false := by
  unfold mkF at h
  split at h
  · cases h
  · split at h
    · exact under_noclo h
    · exact under_noclo h
    · cases h
theorem mkF_nx {c : Str} {kp : Bool} {F : List D → Store → Res D} {ds : List D} {x : Str} {ns : List Str} {vs : List D} {S' : Store} (h : mkF c kp F ds S = .exc x ns vs S') : D.hasCloL vs = false := by
  unfold mkF at h
  split at h
  · cases h
  · split at h
    · exact under_nocloX h
    · exact under_nocloX h
    · cases h
theorem run_makeD {k : Nat} {f C : Addr} {c : Str} {kp : Bool} {fd : FuncData} {ps : List Str} {F : List D → Store → Res D} {us uo : List Value} {kw : List (Str × Value)} {vs : List V} {ds : List D} (tk : Takes X W) (M : Mk X.K C f) (hm : X.mg c = some (.ref C)) (Fn : FnD T X.prog X.w X.K X.mg X.base k f fd ps F) (hr : Room (k + 1) X.A)
    (hb : ∀ self, bindArgs fd ⟨self :: us, kw⟩ = pure (ps.zip (self :: uo))) (I : Inv X pins σ H s) (w : Wld T X σ H ρ δ S) (r : Vals vs uo) (rd : RDs (pr X σ H ρ) ds vs) (h : Good T X W σ H ρ δ Q (mkF c kp F ds S)) :
    wpAny (model X.prog X.w) X.A (call (.ref C) us kw) (EP X pins σ Q) X.xe s := by
  have hg := good_c w h (fun d S' e => mkF_nc e) (fun x ns vs S' e => mkF_nx e)
  unfold mkF at hg
  cases hc : D.hasCloL ds with
  | true => rw [hc, if_pos rfl] at hg; exact hg.elim
  | false =>
    rw [hc, if_neg Bool.false_ne_true] at hg
    have hn1 : H s.heap.objs.size = none := I.hok.fresh (Nat.le_refl _)
    have hn2 : H (s.heap.objs.size + 1) = none := I.hok.fresh (Nat.le_succ _)
    have I2 := Inv.made (C := C) I
    have ne : s.heap.objs.size ≠ s.heap.objs.size + 1 := Nat.ne_of_lt (Nat.lt_succ_self _)
    have hn3 : (L2.upd H s.heap.objs.size (.own (s.heap.objs.size + 1))) (s.heap.objs.size + 1) = none := by rw [upd_ne ne.symm]; exact hn2
    have le1 : Le H ρ (L2.upd H s.heap.objs.size (.own (s.heap.objs.size + 1))) ρ := Le.upd hn1
    have le2 : Le (L2.upd H s.heap.objs.size (.own (s.heap.objs.size + 1))) ρ (L2.upd (L2.upd H s.heap.objs.size (.own (s.heap.objs.size + 1))) (s.heap.objs.size + 1) (.ins C s.heap.objs.size [])) (ρ.add (s.heap.objs.size + 1)) := Le.new hn3
    have so : StoreOk X.K X.mg (L2.upd (L2.upd H s.heap.objs.size (.own (s.heap.objs.size + 1))) (s.heap.objs.size + 1) (.ins C s.heap.objs.size [])) (ρ.add (s.heap.objs.size + 1)) (S ++ [.ins c [] []]) :=
      (w.sto.upd hn1).new hn3 ⟨C, s.heap.objs.size, [], upd_same, hm, rfl, rfl⟩
    have tb := tabs_upd (o := .ins C s.heap.objs.size []) (tabs_upd (o := .own (s.heap.objs.size + 1)) w.tabs hn1) hn3
    have le := le1.trans le2
    generalize hH2 : L2.upd (L2.upd H s.heap.objs.size (.own (s.heap.objs.size + 1))) (s.heap.objs.size + 1) (.ins C s.heap.objs.size []) = H2 at I2 so tb le
    have idx : ∀ {ρ' : Rh} {H' : Hp}, Le H2 (ρ.add (s.heap.objs.size + 1)) H' ρ' → ρ'.l[S.length]? = some (s.heap.objs.size + 1) := fun {ρ' H'} l => by
      obtain ⟨q, eq, _⟩ := l.pre
      have eq : ρ'.l = (ρ.l ++ [s.heap.objs.size + 1]) ++ q := eq
      rw [eq, List.getElem?_append_left (by rw [List.length_append, ← w.sto.len]; simp), List.getElem?_append_right (by rw [w.sto.len]; exact Nat.le_refl _), w.sto.len, Nat.sub_self]
      rfl
    have rself : RD ⟨X.K, X.mg, H2, ρ.add (s.heap.objs.size + 1), CellS { s with heap := (s.heap.push PySem.W.emptyDict).push (PySem.W.instObj C s.heap.objs.size) } H2⟩ (.ref S.length) (.ref (s.heap.objs.size + 1)) := ⟨_, rfl, idx Le.rfl'⟩
    have rds : RDs ⟨X.K, X.mg, H2, ρ.add (s.heap.objs.size + 1), CellS { s with heap := (s.heap.push PySem.W.emptyDict).push (PySem.W.instObj C s.heap.objs.size) } H2⟩ ds vs :=
      RDs.noclo (p := pr X σ H2 (ρ.add (s.heap.objs.size + 1))) (p' := ⟨X.K, X.mg, H2, ρ.add (s.heap.objs.size + 1), CellS { s with heap := (s.heap.push PySem.W.emptyDict).push (PySem.W.instObj C s.heap.objs.size) } H2⟩) rfl rfl rfl rfl ds vs hc (rd.le (w.ple le))
    have hG : GoodC T X.K X.mg H2 (ρ.add (s.heap.objs.size + 1)) (fun v H' => v = .non ∧ Q (.ref (s.heap.objs.size + 1)) H') (fun cls dd H' => W cls dd σ H') (F (.ref S.length :: ds) (S ++ [.ins c [] []])) := by
      generalize F (.ref S.length :: ds) (S ++ [.ins c [] []]) = z at hg ⊢
      cases z with
      | ok d S' =>
        cases d with
        | non =>
          have hg := leave_ok S.length w.sto.len hg
          exact ⟨rfl, fun v H' ρ' l s' t rv => ⟨rv, hg.2 _ H' ρ' (le.trans l) s' t ⟨_, rfl, idx l⟩⟩⟩
        | _ => exact hg.elim
      | exc x ns vs' S' =>
        have hg := leave_ok S.length w.sto.len hg
        exact ⟨hg.1, fun H' ρ' C' dd l s' t hm' hx => hg.2 H' ρ' C' dd (le.trans l) s' t hm' hx⟩
      | bad => exact hg.elim
    refine wpAny_call (make_map (f := f) I.kIn M.makes M.init (beq_iff_eq.mp M.fn) (codeAny_mono (Fn.run _ X.stack _ H2 ⟨Value.ref (s.heap.objs.size + 1) :: us, kw⟩ (Value.ref (s.heap.objs.size + 1) :: uo) (V.ref (s.heap.objs.size + 1) :: vs) _ _ (ρ.add (s.heap.objs.size + 1)) (.ref S.length :: ds) (S ++ [.ins c [] []]) (hr.make C us kw)
      (I2.env0.make C us kw) (.of_eq (hb _)) (.cons rfl r) so tb ⟨_, _, rfl, rself, rds⟩ hG) fun r s' hq' => ?_))
    cases r with
    | error e => exact tk e s' (XE.of_call I2 (fun cls d H' h => h) hq')
    | ok fl =>
      cases fl with
      | ret u =>
        obtain ⟨v, H', I3, rv, ev', q3⟩ := I2.after hq'
        subst ev'
        exact ⟨rv, ⟨V.ref (s.heap.objs.size + 1), H', I3, rfl, q3⟩⟩
      | next => exact False.elim hq'
      | brk => exact False.elim hq'
      | cont => exact False.elim hq'
/-- what stands under a name: a class of the text -/
structure ClAtN (T : List (Addr × Str)) (X : Cx) (g : GE) (k : Nat) (x : Str) (ps : List Str) : Prop where
  ex : ∃ C f fd F kp, X.mg x = some (.ref C) ∧ Mk X.K C f ∧ FnD T X.prog X.w X.K X.mg X.base k f fd ("self" :: ps) F ∧ (∀ (self : Value) (us : List Value), us.length = ps.length → bindArgs fd ⟨self :: us, []⟩ = pure ((("self" : Str) :: ps).zip (self :: us))) ∧ ∀ ds S, g.fn x ds S = mkF x kp F ds S
theorem de_make {k : Nat} {x : Str} {ps : List Str} {p pos : Pos} {e : Expr} {es : List Expr} {fs : En → Store → Res (List D)} (tk : Takes X W) (hr : Room (k + 1) X.A) (hf : ClAtN T X g k x ps) (hg : Gl X x) (hdb : (x == ("__debug__" : Str)) = false)
    (he : starEach (e :: es) X.env = (false, eval e X.env) :: starEach es X.env) (hpl : (backTo pos (starEach es X.env)).any (·.1) = false) (ha : DA T X W (e :: es) fs) :
    DE T X W (.Call (.Name x p) (e :: es) [] pos) (fun δ S => (fs δ S).bind fun xs S => g.fn x xs S) := by
  obtain ⟨C, f, fd, F, kp, hm, M, Fn, hb, hF⟩ := hf.ex
  refine ⟨fun pins s σ H Q I h => ?_⟩
  obtain ⟨ρ, δ, S, w, h⟩ := h
  refine wpAny_Call_Name_kw (ld_glob I hg hm ?_ hdb)
  refine PySem.W.callWith_K (h₀ := X.base) I.ok.mod.kin M.kp (thn (ha.run pos pins s σ H (fun vs H1 => ∃ ρ1 S1 ds, Wld T X σ H1 ρ1 δ S1 ∧ RDs (pr X σ H1 ρ1) ds vs ∧ Good T X W σ H1 ρ1 δ Q (g.fn x ds S1)) I ⟨ρ, δ, S, w, embA_bind h fun vs H1 ρ1 ds S1 l1 w1 r1 h1 => ⟨ρ1, S1, ds, w1, r1, h1⟩⟩) fun us s1 ⟨vs, H1, I1, r, ρ1, S1, ds, w1, rd, q⟩ => ⟨I1.kIn, ?_⟩) he hpl
  rw [hF] at q
  have hl : us.length = ps.length := by
    rw [← r.length, ← rd.length]
    have : (D.ref S1.length :: ds).length = (("self" : Str) :: ps).length := Fn.len _ (S1 ++ [.ins x [] []]) fun z => by
      unfold mkF at q
      rw [z] at q
      split at q <;> exact q
    simpa using this
  exact run_makeD (us := us) (uo := us) (kw := []) tk M hm Fn hr (fun self => hb self us hl) I1 w1 r rd q
end
end MM
end
section
set_option Elab.async false
set_option linter.all false
set_option maxRecDepth 100000
set_option maxHeartbeats 4000000
/-! Stores of fields; name = [comprehension]. -/
namespace MM
open PySem PySem.Spec PyProof.Rows L2 NdefX
variable [Lams]
section
variable {T : List (Addr × Str)} {X : Cx} {W : WX} {σ : L2.St} {H H1 H2 : Hp} {ρ ρ1 ρ2 : Rh} {δ : En} {S : Store} {Q : VK} {g : GE} {K : PySem.W.Frag} {mg : Str → Option Value} {pins : List (Addr × Obj)} {s : Shared}
theorem putFD_ok {p : PR} {f : Str} {d : D} {y : V} (r : RD p d y) : ∀ (ns : List Str) (vs : List D) (fs : List (Str × V)), fs.map (·.1) = ns → RDs p vs (fs.map (·.2)) →
    (putF f y fs).map (·.1) = (putFD f d ns vs).1 ∧ RDs p (putFD f d ns vs).2 ((putF f y fs).map (·.2))
  | [], vs, fs, e, rr => by
    have e1 : fs = [] := List.map_eq_nil_iff.mp e
    subst e1
    have e2 : vs = [] := rr.nil_iff.mpr rfl
    subst e2
    exact ⟨rfl, y, [], rfl, r, rfl⟩
  | n :: ns, [], fs, e, rr => by
    have e2 : fs.map (·.2) = [] := rr
    have e3 : fs = [] := List.map_eq_nil_iff.mp e2
    rw [e3] at e
    cases e
  | n :: ns, v :: vs, [], e, rr => by cases e
  | n :: ns, v :: vs, (m, u) :: fs, e, rr => by
    have e : m :: fs.map (·.1) = n :: ns := e
    injection e with e1 e2
    obtain ⟨u', us, e3, r1, r2⟩ := rr
    have e3 : u :: fs.map (·.2) = u' :: us := e3
    injection e3 with e3 e4
    subst e1
    subst e3
    subst e4
    unfold putFD putF
    by_cases h : m = f
    · rw [if_pos h, if_pos h]
      exact ⟨by show m :: _ = m :: _; rw [e2], y, _, rfl, r, r2⟩
    · rw [if_neg h, if_neg h]
      obtain ⟨i1, i2⟩ := putFD_ok r ns vs fs e2 r2
      exact ⟨by show m :: _ = m :: _; rw [i1], u, _, rfl, r1, i2⟩
theorem ds_fld {o e : Expr} {f : Str} {pos pos' : Pos} {fo fe : En → Store → Res MM.D} (fsk : FsOk X.K X.mg g) (ho : DE T X W o fo) (he : DE T X W e fe) (hs : swapsWith e (some (.Attribute o f pos')) pos.line X.env = pure false) :
    DS T X W (.Assign [.Attribute o f pos'] e pos) (fun δ S => (fe δ S).bind fun d S => (fo δ S).bind fun x S => match opFldPut g S x f d with
      | some S' => .ok (.nx δ) S'
      | none => .bad) := by
  refine PS_weak (ps_fld ho he hs) ?_
  rintro D σ H ⟨ρ, δ, S, w, h⟩
  refine ⟨ρ, δ, S, w, s_bind h fun v H1 ρ1 d S1 l1 w1 r1 h1 => ⟨ρ1, δ, S1, w1, s_bind h1 fun x H2 ρ2 dx S2 l2 w2 r2 h2 => ?_⟩⟩
  split at h2
  · rename_i S' hp
    unfold opFldPut at hp
    cases dx with
    | ref k =>
      dsimp only at hp
      split at hp
      · rename_i c ns vs hl
        cases hc : d.hasClo with
        | true => rw [hc, if_pos rfl] at hp; cases hp
        | false =>
          rw [hc, if_neg Bool.false_ne_true] at hp
          split at hp
          · rename_i hz
            cases hp
            obtain ⟨a, e1, e2⟩ := r2
            obtain ⟨C, dxx, fls, q1, q2, q3, q4⟩ := w2.sto.ob k a _ e2 hl
            obtain ⟨c1, c2⟩ := fsk.ok c f C hz.2 q2
            have rv := r1.le (w1.ple l2)
            have hp : a ∈ ρ2.l := List.mem_of_getElem? e2
            have le : Le H2 ρ2 (L2.upd H2 a (.ins C dxx (putF f v fls))) ρ2 := Le.put hp
            have pl0 : PLe (pr0 X.K X.mg H2 ρ2) (pr0 X.K X.mg (L2.upd H2 a (.ins C dxx (putF f v fls))) ρ2) := w2.sto.ple le fun _ _ z => z
            have rd' : RD (pr0 X.K X.mg (L2.upd H2 a (.ins C dxx (putF f v fls))) ρ2) d v := RD.noclo (p := pr X σ (L2.upd H2 a (.ins C dxx (putF f v fls))) ρ2) (p' := pr0 X.K X.mg (L2.upd H2 a (.ins C dxx (putF f v fls))) ρ2) rfl rfl rfl rfl d v hc (rv.le (w2.ple le))
            obtain ⟨i1, i2⟩ := putFD_ok (f := f) rd' ns vs fls q3 (q4.le pl0)
            have hlen : fls.length = ns.length := by rw [← q3, List.length_map]
            refine ⟨a, C, dxx, fls, e1, q1, c1, c2, by rw [hlen]; omega, h2 σ _ ρ2 le (w2.next le (w2.sto.put (m := .ins c (putFD f d ns vs).1 (putFD f d ns vs).2) e2 ⟨C, dxx, putF f v fls, upd_same, q2, i1, i2⟩) (tabs_put w2.tabs q1 (fun _ z => by cases z) (fun _ z => by cases z)))⟩
          · cases hp
      · cases hp
    | _ => cases hp
  · exact h2.elim
/-- name = [..] with the stores swapped -/
theorem ds_setLc {i : Nat} {y : Str} {py : Pos} {elt tg iter : Expr} {ifs : List Expr} {scope : Scope} {own : List (Str × Nat)} {pos spos : Pos} {gs : List Nat} {m : Bool} {fi : En → Store → Res MM.Its} {fc fe : En → Store → Res MM.D} (hc : X.calm = true) (hN : X.N.Nodup) (hy : X.N[i]? = some y) (hyl : X.env.scope.names.lookup y = some .local)
    (hsw : swapsWith (.ListComp elt [⟨tg, iter, ifs, 0⟩] scope pos) (some (.Name y py)) spos.line X.env = pure true) (hi : DI T X W tg iter fi) (ok : BlkOk X.N X.env.scope scope own)
    (hg : ∀ (s : Shared) (H : Hp) (C : Addr) (cl : List (Str × Addr)) (fp : List Addr), PG (X.blk s H scope (compEnvC scope cl C X.env) fp) tg (gB X.K gs)) (hgo : ∀ i ∈ gs, i ∈ own.map (·.2))
    (ht : ∀ (s : Shared) (H : Hp) (C : Addr) (cl : List (Str × Addr)) (fp : List Addr), PTs (X.blk s H scope (compEnvC scope cl C X.env) fp) ifs (embT0 T X.K X.mg fc))
    (he : ∀ (s : Shared) (H : Hp) (C : Addr) (cl : List (Str × Addr)) (fp : List Addr), DE T (X.blk s H scope (compEnvC scope cl C X.env) fp) W0 elt fe) (hs : ∀ x, foldedSetIterable iter X.env x = pure x) :
    DS T X W (.Assign [.Name y py] (.ListComp elt [⟨tg, iter, ifs, 0⟩] scope pos) spos) (fun δ S => ((fi δ S).bind fun I S => (lcLoop I.c (stepL gs (wipeC (wipeE δ (own.map (·.2)))) fc fe) I.l S []).bind fun xs S => endL m xs S).bind fun d S => (asnG g (.nam false i) d δ S).bind fun δ S => .ok (.nx δ) S) := by
  refine PS_weak (ps_setLc (te := embE0 T X.K X.mg fe) hc hN hy hyl hsw hi ok hg ht (fun s H C cl fp => pe0 (he s H C cl fp)) hs) ?_
  rintro D σ H ⟨ρ, δ, S, w, h⟩
  refine ⟨ρ, δ, S, w, ?_⟩
  have h : GoodF T X W H ρ D (((fi δ S).bind fun I S => (lcLoop I.c (stepL gs (wipeC (wipeE δ (own.map (·.2)))) fc fe) I.l S []).bind fun xs S => endL m xs S).bind fun d S => (asnG g (.nam false i) d δ S).bind fun δ S => .ok (.nx δ) S) := h
  have h2 : Good T X W σ H ρ δ (fun x H1 => gName i x σ H1 D.nx) ((fi δ S).bind fun I S => (lcLoop I.c (stepL gs (wipeC (wipeE δ (own.map (·.2)))) fc fe) I.l S []).bind fun xs S => endL m xs S) :=
    s_bind h fun v H1 ρ1 d S1 l1 w1 r1 h1 => by
      have h1 : GoodF T X W H1 ρ1 D (.ok (.nx (δ.set i (some d))) S1) := h1
      exact h1 _ H1 ρ1 Le.rfl' (w1.setL hN r1 hy hyl)
  generalize fi δ S = r at h2 ⊢
  cases r with
  | ok l S1 =>
    intro J H1 ρ1 l1 w1 hW
    have h2 : Good T X W σ H ρ δ _ ((lcLoop l.c (stepL gs (wipeC (wipeE δ (own.map (·.2)))) fc fe) l.l S1 []).bind fun xs S => endL m xs S) := h2
    exact lc_go w1 hW hgo (Good.le h2 l1)
  | exc _ _ _ _ => exact h2
  | bad => exact h2
end
end MM
end
section
set_option Elab.async false
set_option linter.all false
set_option maxRecDepth 100000
set_option maxHeartbeats 4000000
/-! == by an own __eq__. -/
namespace MM
open PySem PySem.Spec PyProof.Rows L2 NdefX
variable [Lams]
def names7 : List String := ["NoneType", "bool", "int", "str", "tuple", "list", "dict"]
structure OeC (K : PySem.W.Frag) (C f : Addr) : Prop where
  cl : Cls K C
  eq : PySem.W.findIn K (.ref C) "__eq__" = some (some (.ref f))
  fn : PySem.W.isFn K (.ref f) = true
  no : ∀ (h : Heap) (x : Addr) (o : Obj), K.In h → h.get? x = some o → o.cls = .ref C → h.OwnEqNoNe x C f "object" [.type "object"]
  ty : ∀ n ∈ names7, PySem.W.subIn K (.type n) (.ref C) = some false
structure OeOk (T : List (Addr × Str)) (X : Cx) (g : GE) (k : Nat) : Prop where
  ok : ∀ c C, g.oe c = true → X.mg c = some (.ref C) → ∃ f fd F, OeC X.K C f ∧ FnD T X.prog X.w X.K X.mg X.base k f fd [("self" : Str), ("other" : Str)] F ∧
    (∀ us : List Value, us.length = 2 → bindArgs fd ⟨us, []⟩ = pure ([("self" : Str), ("other" : Str)].zip us)) ∧ ∀ o y S, g.me c ("__eq__" : Str) o [y] S = F [o, y] S
  oth : ∀ c C c' C', g.oe c = true → X.mg c = some (.ref C) → g.cls.contains c' = true → X.mg c' = some (.ref C') → C' = C ∨ PySem.W.subIn X.K (.ref C') (.ref C) = some false
section
variable {T : List (Addr × Str)} {X : Cx} {W : WX} {σ : L2.St} {H H1 H2 : Hp} {ρ ρ1 ρ2 : Rh} {δ : En} {S : Store} {Q : VK} {g : GE} {K : PySem.W.Frag} {mg : Str → Option Value} {pins : List (Addr × Obj)} {s : Shared} {k : Nat}
theorem cls_at0 (so : StoreOk K mg H ρ S) {d : D} {v : V} {c : Str} (r : RD (pr0 K mg H ρ) d v) (e : clsName S d = some c) : ∃ a C dx fs, v = .ref a ∧ H a = some (.ins C dx fs) ∧ mg c = some (.ref C) := by
  unfold clsName at e
  cases d with
  | obj c' ns vs =>
    cases e
    obtain ⟨a, C, dx, fs, e1, e2, _, e4, _⟩ := r
    exact ⟨a, C, dx, fs, e1, e2, e4⟩
  | ref k =>
    dsimp only at e
    split at e
    · rename_i c' ns vs hl
      cases e
      obtain ⟨a, e1, e2⟩ := r
      obtain ⟨C, dx, fs, h1, h2, _⟩ := so.ob k a _ e2 hl
      exact ⟨a, C, dx, fs, e1, h1, h2⟩
    · cases e
  | _ => cases e
/-- the type of a value of a built-in kind -/
theorem ty_looks (I : Inv X pins σ H s) (so : StoreOk X.K X.mg H ρ S) {d : D} {v : V} {u : Value} {t : String} (r : RD (pr0 X.K X.mg H ρ) d v) (ru : RelV v u) (e : tyName S d = some t) : (∀ M, PySem.W.Looks M s.heap (typeOf u) (.type t)) ∧ t ∈ names7 := by
  have tupL : ∀ {a : Addr} {xs : List V}, SqT X.K H a xs → ∀ M, PySem.W.Looks M s.heap (typeOf (.ref a)) (.type "tuple") := fun {a xs} hs M => by
    obtain ⟨its, _, ⟨o, h1, h2, _⟩, _⟩ := I.tuple hs
    exact PySem.W.kitAt_ty M _ ⟨o, h1, h2⟩
  have lstL : ∀ {a : Addr} {xs : List V}, SqL X.K H a xs → ∀ M, PySem.W.Looks M s.heap (typeOf (.ref a)) (.type "list") := fun {a xs} hs M => by
    obtain ⟨its, _, ⟨o, n, h1, h2, _⟩, _⟩ := I.list hs
    exact PySem.W.kitAt_ty M _ ⟨o, h1, h2⟩
  unfold tyName at e
  cases d with
  | non =>
    cases e
    rw [show v = .non from r] at ru
    cases (show u = Value.none from ru)
    exact ⟨fun M => PySem.W.Looks.of_pure rfl, by decide⟩
  | bl b =>
    cases e
    rw [show v = .bl b from r] at ru
    cases (show u = Value.bool b from ru)
    exact ⟨fun M => PySem.W.Looks.of_pure rfl, by decide⟩
  | int b =>
    cases e
    rw [show v = .int b from r] at ru
    obtain ⟨t, q⟩ := (show ∃ t, u = Value.int b t from ru)
    cases q
    exact ⟨fun M => PySem.W.Looks.of_pure rfl, by decide⟩
  | str b =>
    cases e
    rw [show v = .str b from r] at ru
    obtain ⟨t, q⟩ := (show ∃ t, u = Value.str b t from ru)
    cases q
    exact ⟨fun M => PySem.W.Looks.of_pure rfl, by decide⟩
  | tup l =>
    cases e
    obtain ⟨a, xs, e1, s1, _⟩ := r
    rw [e1] at ru
    cases (show u = Value.ref a from ru)
    exact ⟨tupL s1, by decide⟩
  | lst l =>
    cases e
    obtain ⟨a, xs, e1, s1, _⟩ := r
    rw [e1] at ru
    cases (show u = Value.ref a from ru)
    exact ⟨lstL (SqL.of s1), by decide⟩
  | scr l =>
    cases e
    obtain ⟨a, e1, q⟩ := r
    rw [e1] at ru
    cases (show u = Value.ref a from ru)
    refine ⟨lstL (xs := l.map V.int) ?_, by decide⟩
    rcases q with ⟨q, _⟩ | q
    · exact .inl q
    · rcases q with (q | ⟨o, q⟩) | q
      · cases q
      · cases q
      · exact .inr q
  | dic ks vs =>
    cases e
    obtain ⟨a, kvs, e1, _, q, _⟩ := r
    rw [e1] at ru
    cases (show u = Value.ref a from ru)
    obtain ⟨_, _, vs, _, p⟩ := (show ObjOk X.prog X.w H s.heap a (.dK kvs) from I.hok a _ q)
    obtain ⟨o, es, ep, h1, h2, _⟩ := p
    exact ⟨fun M => PySem.W.kitAt_ty M _ ⟨o, h1, h2.1⟩, by decide⟩
  | dct ks vs =>
    cases e
    obtain ⟨a, kvs, e1, _, q, _⟩ := r
    rw [e1] at ru
    cases (show u = Value.ref a from ru)
    obtain ⟨_, _, xs, _, o, es, ep, h1, h2, _⟩ := (show ObjOk X.prog X.w H s.heap a (.dT kvs) from I.hok a _ q)
    exact ⟨fun M => PySem.W.kitAt_ty M _ ⟨o, h1, h2.1⟩, by decide⟩
  | ref k =>
    dsimp only at e
    split at e
    · rename_i l hl
      cases e
      obtain ⟨a, e1, e2⟩ := r
      obtain ⟨xs, h1, _⟩ := so.ob k a _ e2 hl
      rw [e1] at ru
      cases (show u = Value.ref a from ru)
      exact ⟨lstL (SqL.of h1), by decide⟩
    · cases e
  | _ => cases e
def rOe (T : List (Addr × Str)) (X : Cx) (g : GE) (ng : Bool) : R2 := fun x y H Q => ∃ ρ S a b, StoreOk X.K X.mg H ρ S ∧ LamX.Tabs T H ∧ a.hasClo = false ∧ b.hasClo = false ∧ RD (pr0 X.K X.mg H ρ) a x ∧ RD (pr0 X.K X.mg H ρ) b y ∧
  GoodC T X.K X.mg H ρ Q (fun _ _ _ => False) (opOeq g ng a b S)
theorem op_oe {ng : Bool} (ok : OeOk T X g k) (hr : Room (k + 1) X.A) : OpR X (compareOp (if ng then .NotEq else .Eq)) (rOe T X g ng) := by
  intro pins s σ H x y v u Q I rx ry h
  obtain ⟨ρ, S, a, b, so, tb, hca, hcb, ra, rb, hg⟩ := h
  unfold opOeq at hg
  cases hc : clsName S a with
  | none => rw [hc] at hg; exact hg.elim
  | some c =>
  rw [hc] at hg
  dsimp only at hg
  split at hg
  · rename_i hcond
    rw [hca, hcb] at hg
    have hg : GoodC T X.K X.mg H ρ Q (fun _ _ _ => False) (match g.me c ("__eq__" : Str) a [b] S with
      | .ok (.bl b) S' => .ok (.bl (ng != b)) S'
      | _ => .bad) := hg
    unfold oeB at hcond
    rw [Bool.and_eq_true] at hcond
    obtain ⟨a', C, dx, fs, rfl, hins, hm⟩ := cls_at0 so ra hc
    obtain rfl : v = Value.ref a' := rx
    obtain ⟨f, fd, F, oc, Fn, hb, hF⟩ := ok.ok c C hcond.1 hm
    rw [hF] at hg
    have hG : GoodC T X.K X.mg H ρ (fun v H' => ∃ r, v = V.bl r ∧ Q (.bl (ng != r)) H') (fun _ _ _ => False) (F [a, b] S) := by
      generalize F [a, b] S = z at hg ⊢
      cases z with
      | ok d S' =>
        cases d with
        | bl r => exact ⟨rfl, fun v H' ρ' l s' t rv => ⟨r, rv, hg.2 (.bl (ng != r)) H' ρ' l s' t rfl⟩⟩
        | _ => exact hg.elim
      | exc _ _ _ _ => exact hg.elim
      | bad => exact hg.elim
    have key : ∀ (A : Around), Room k A → A.frames = X.A.frames → wpAny (model X.prog X.w) A (call (.ref f) [.ref a', u]) (fun w s' => ∃ r, w = .bool r ∧ EP X pins σ Q (.bool (ng != r)) s') X.xe s := fun A hr' hfr => by
      have e0 : Env0 X.prog X.w X.K X.mg X.base A X.stack s H := by
        have e := I.env0
        exact ⟨by rw [hfr]; exact e.frames, e.mod, e.bs, e.bsz, e.funs, e.frf, e.hok, e.bare⟩
      have rds : RDs ⟨X.K, X.mg, H, ρ, CellS s H⟩ [a, b] [V.ref a', y] := ⟨_, _, rfl, RD.noclo (p := pr0 X.K X.mg H ρ) (p' := ⟨X.K, X.mg, H, ρ, CellS s H⟩) rfl rfl rfl rfl a _ hca ra, _, _, rfl, RD.noclo (p := pr0 X.K X.mg H ρ) (p' := ⟨X.K, X.mg, H, ρ, CellS s H⟩) rfl rfl rfl rfl b _ hcb rb, rfl⟩
      refine wpAny_call (codeAny_mono (Fn.run A X.stack s H ⟨[.ref a', u], []⟩ [.ref a', u] [.ref a', y] _ _ ρ [a, b] S hr' e0 (.of_eq (hb _ rfl)) (.cons rfl (.cons ry .nil)) so tb rds hG) fun r s' hq => ?_)
      cases r with
      | error e =>
        obtain ⟨_, _, _, _, _, _, _, _, _, _, _, _, z⟩ := hq
        exact z.elim
      | ok fl =>
        cases fl with
        | ret w =>
          obtain ⟨z, H', I', rz, r, ez, hQ⟩ := I.after hq
          subst ez
          obtain rfl : w = Value.bool r := rz
          exact ⟨r, rfl, .bl (ng != r), H', I', rfl, hQ⟩
        | next => exact False.elim hq
        | brk => exact False.elim hq
        | cont => exact False.elim hq
    obtain ⟨mA, J, _⟩ := ins_get I.hok hins
    obtain ⟨od, J, _⟩ := J.look
    obtain ⟨m, hFr⟩ := I.fr
    cases ng with
    | false =>
      have hy : (∀ M, PySem.W.Looks M s.heap (typeOf u) (.ref C)) ∨ ∃ tt, (∀ M, PySem.W.Looks M s.heap (typeOf u) tt) ∧ PySem.W.subIn X.K tt (.ref C) = some false := by
        have h2 : ((tyName S b).isSome || ((clsName S b).map g.cls.contains).getD false) = true := hcond.2
        rw [Bool.or_eq_true] at h2
        rcases h2 with h2 | h2
        · obtain ⟨t, ht⟩ := Option.isSome_iff_exists.mp h2
          obtain ⟨q1, q2⟩ := ty_looks I so rb ry ht
          exact .inr ⟨_, q1, oc.ty t q2⟩
        · cases hcb' : clsName S b with
          | none => rw [hcb'] at h2; cases h2
          | some c' =>
            rw [hcb'] at h2
            have h2 : g.cls.contains c' = true := h2
            obtain ⟨b', C', dx', fs', e1, hins', hm'⟩ := cls_at0 so rb hcb'
            rw [e1] at ry
            obtain rfl : u = Value.ref b' := ry
            obtain ⟨mB, J', _⟩ := ins_get I.hok hins'
            obtain ⟨od', J', _⟩ := J'.look
            rcases ok.oth c C c' C' hcond.1 hm h2 hm' with z | z
            · rw [← z]
              exact .inl fun M => J'.type
            · exact .inr ⟨_, fun M => J'.type, z⟩
      have fin : wpAny (model X.prog X.w) X.A (call (.ref f) [.ref a', u]) (PySem.W.CmpBack (EP X pins σ Q)) X.xe s := by
        refine wpAny_mono (key X.A (hr.mono (Nat.le_succ k)) rfl) (fun w s' ⟨r, e, q⟩ => ?_) fun _ _ x => x
        subst e
        have q : EP X pins σ Q (.bool r) s' := by
          have e2 : (false != r) = r := by cases r <;> rfl
          rw [e2] at q
          exact q
        exact q
      show wpAny _ X.A (richCompare .Eq (.ref a') u) _ _ s
      have hu : X.A.units < cLine := by have := hr.un; omega
      rcases hy with hy | ⟨tt, hy, hs⟩
      · exact PySem.W.cmp_K (op := .Eq) (tb := .ref C) hu hFr I.ok.mod.kin J (hy _) (by simp [PySem.W.notFirst]) oc.eq oc.fn fin
      · exact PySem.W.cmp_K (op := .Eq) (tb := tt) hu hFr I.ok.mod.kin J (hy _) (by unfold PySem.W.notFirst; rw [hs]; simp) oc.eq oc.fn fin
    | true =>
      have h2 : clsName S b = some c := of_decide_eq_true hcond.2
      obtain ⟨b', C', dx', fs', e1, hins', hm'⟩ := cls_at0 so rb h2
      rw [hm] at hm'
      cases hm'
      rw [e1] at ry
      obtain rfl : u = Value.ref b' := ry
      obtain ⟨mB, J', _⟩ := ins_get I.hok hins'
      obtain ⟨od', J', _⟩ := J'.look
      have no := oc.no s.heap a' _ I.kIn J.at_ J.cls
      have hu : X.A.units + 1 < cLine := by have := hr.un; omega
      have kk := key X.A.in1 hr.in1 rfl
      obtain ⟨hp, gg, dd, tt, os⟩ := s
      exact compareOp_ne_ownEq PySem.F.cmp_object no J'.at_ J'.cls hu (wpAny_mono kk (fun w s' ⟨r, e, q⟩ => ⟨r, e, by
        have e2 : (true != r) = !r := by cases r <;> rfl
        rw [e2] at q
        exact q⟩) fun _ _ x => x)
  · exact hg.elim
/-- from a body's world -/
theorem oe_emb {ng : Bool} (ok : OeOk T X g k) {a b : D} {x y : V} (w : Wld T X σ H ρ δ S) (ra : RD (pr X σ H ρ) a x) (rb : RD (pr X σ H ρ) b y) (h : Good T X W σ H ρ δ Q (opOeq g ng a b S)) : rOe T X g ng x y H Q := by
  have hc : a.hasClo = false ∧ b.hasClo = false := by
    unfold opOeq at h
    cases hc : clsName S a with
    | none => rw [hc] at h; exact h.elim
    | some c =>
      rw [hc] at h
      dsimp only at h
      split at h
      · cases hz : (a.hasClo || b.hasClo) with
        | true => rw [hz, if_pos rfl] at h; exact h.elim
        | false => exact Bool.or_eq_false_iff.mp hz
      · exact h.elim
  refine ⟨ρ, S, a, b, w.sto, w.tabs, hc.1, hc.2, RD.noclo (p := pr X σ H ρ) (p' := pr0 X.K X.mg H ρ) rfl rfl rfl rfl a x hc.1 ra, RD.noclo (p := pr X σ H ρ) (p' := pr0 X.K X.mg H ρ) rfl rfl rfl rfl b y hc.2 rb, ?_⟩
  have isb : (∃ r S', opOeq g ng a b S = .ok (.bl r) S') ∨ opOeq g ng a b S = .bad := by
    unfold opOeq
    split
    · split
      · split
        · exact .inr rfl
        · split
          · exact .inl ⟨_, _, rfl⟩
          · exact .inr rfl
      · exact .inr rfl
    · exact .inr rfl
  rcases isb with ⟨r, S', e⟩ | e
  · rw [e] at h ⊢
    exact ⟨rfl, fun v H' ρ' l s' t rv => h v H' ρ' l (w.next l s' t) rv⟩
  · rw [e] at h
    exact h.elim
theorem de_oeq {ng : Bool} {ea eb : Expr} {fa fb : En → Store → Res D} {pos : Pos} (ok : OeOk T X g k) (hr : Room (k + 1) X.A) (hm : behindInMarks (if ng then CmpOp.NotEq else .Eq) eb = false) (ha : DE T X W ea fa) (hb : DE T X W eb fb) :
    DE T X W (.Compare ea [if ng then .NotEq else .Eq] [eb] pos) (fun δ S => (fa δ S).bind fun x S => (fb δ S).bind fun y S => opOeq g ng x y S) :=
  PE_weak (pe_cmpR (op_oe ok hr) ha hb hm) (emb2 (op := fun S x y => opOeq g ng x y S) fun σ H ρ δ S Q a b x y w ra rb h => oe_emb ok w ra rb h)
theorem dt_oeq {ng : Bool} {ea eb : Expr} {fa fb : En → Store → Res D} {pos : Pos} (ok : OeOk T X g k) (hr : Room (k + 1) X.A) (hm : behindInMarks (if ng then CmpOp.NotEq else .Eq) eb = false) (ha : DE T X W ea fa) (hb : DE T X W eb fb) :
    DT T X W (.Compare ea [if ng then .NotEq else .Eq] [eb] pos) (fun δ S => (fa δ S).bind fun x S => (fb δ S).bind fun y S => opOeq g ng x y S) := by
  refine PT_weak (pt_cmpR (op_oe ok hr) ha hb hm) ?_
  rintro σ H Q h
  exact emb2 (op := fun S x y => opOeq g ng x y S) (fun σ H ρ δ S Q a b x y w ra rb h => oe_emb ok w ra rb h) σ H _ h
end
end MM
end
section
set_option Elab.async false
set_option linter.all false
set_option maxRecDepth 100000
set_option maxHeartbeats 4000000
/-! The check that a term is an expression's. -/
namespace MM
open PySem PySem.Spec PyProof.Rows L2 NdefX
variable [Lams]
/-- what is known where an expression stands -/
structure CC where
  N : List Str
  sc : Scope
  blt : List Str
  kds : List Str
  fns : List (Str × List Str)
  cls : List (Str × List Str)
  kws : List (Str × List Str × List Str)
  lam : Bool
structure Ob where
  id : Nat
  args : Arguments
  body : Expr
  sc : Scope
  js : List Nat
def glB (C : CC) (x : Str) : Bool := decide (C.sc.names.lookup x = some .globalImplicit) && !(x == ("__debug__" : Str))
def visB (C : CC) (x : Str) : Bool := decide (C.sc.names.lookup x = some .local) || decide (C.sc.names.lookup x = some .cell) || decide (C.sc.names.lookup x = some .free)
def nmB (x : Str) : Bool := !(x == ("__debug__" : Str)) && !(x == ("__classdict__" : Str))
def notSl : Expr → Bool
  | .Slice _ _ _ _ => false
  | _ => true
def tstB : Expr → Bool
  | .IfExp _ _ _ _ => false
  | _ => true
def tyB (n : String) (x : Str) : Bool := match bootBuiltins x with
  | some (.type m) => m == n
  | _ => false
def gd (b : Bool) : Option Unit := if b then some () else none
def biIs (C : CC) (f : Bi) (x : Str) : Bool := match biV f with
  | .builtin "math.gcd" => x == ("gcd" : Str) && C.blt.contains ("@gcd" : Str)
  | .builtin id => C.blt.contains x && !(x == ("__name__" : Str)) && (match bootBuiltins x with
    | some (.builtin m) => m == id
    | _ => false)
  | .type n => C.blt.contains x && !(x == ("__name__" : Str)) && tyB n x
  | _ => false
def mtIs (m : Mt) (nm : Str) (n : Nat) : Bool := match m with
  | .split => nm == ("split" : Str)
  | .join => nm == ("join" : Str)
  | .append => nm == ("append" : Str)
  | .extend => nm == ("extend" : Str)
  | .get => nm == ("get" : Str) && n == 2
/-- the names of a comprehension's targets, as slots -/
def tgSlots (N : List Str) : Expr → Option (List Nat)
  | .Name x _ => (N.idxOf? x).map fun i => [i]
  | .Tuple es _ _ => if es.length == 1 then none else es.mapM fun
    | .Name x _ => N.idxOf? x
    | _ => none
  | _ => none
def tgNames : Expr → List Str
  | .Name x _ => [x]
  | .Tuple es _ _ => es.filterMap fun
    | .Name x _ => some x
    | _ => none
  | _ => []
def locB (sc : Scope) (x : Str) : Bool := decide (sc.names.lookup x = some .local) || decide (sc.names.lookup x = some .cell)
def tupT (ik : Ik) (t : Expr) : Bool := match ik with
  | .enumerate => (match t with
    | .Tuple _ _ _ => true
    | _ => false)
  | .zip => (match t with
    | .Tuple _ _ _ => true
    | _ => false)
  | _ => true
def notSet : Expr → Bool
  | .Set _ _ _ => false
  | _ => true
def iterHead (C : CC) (ik : Ik) (it : Expr) : Option (List Expr) := match ik, it with
  | .plain, e => some [e]
  | .range, .Call (.Name x _) [a] [] _ => if x == ("range" : Str) && glB C x && C.blt.contains x then some [a] else none
  | .range2, .Call (.Name x _) [a, b] [] _ => if x == ("range" : Str) && glB C x && C.blt.contains x then some [a, b] else none
  | .enumerate, .Call (.Name x _) [a] [] _ => if x == ("enumerate" : Str) && glB C x && C.blt.contains x then some [a] else none
  | .zip, .Call (.Name x _) [a, b] [] _ => if x == ("zip" : Str) && glB C x && C.blt.contains x then some [a, b] else none
  | _, _ => none
mutual
def chk (C : CC) : Tm → Expr → Option (List Ob)
  | .var i, e => match e with
    | .Name x _ => do gd (decide (C.N[i]? = some x) && visB C x && nmB x); pure []
    | _ => none
  | .cint i, e => match e with
    | .Constant (.int j) _ _ => do gd (i == j); pure []
    | _ => none
  | .cbl i, e => match e with
    | .Constant (.bool j) _ _ => do gd (i == j); pure []
    | _ => none
  | .cnon, e => match e with
    | .Constant .none _ _ => some []
    | _ => none
  | .cstr i, e => match e with
    | .Constant (.str j) _ _ => do gd (decide (i = j)); pure []
    | _ => none
  | .glb y, e => match e with
    | .Name x _ => do gd (decide (x = y) && glB C x); pure []
    | _ => none
  | .typ n, e => match e with
    | .Name x _ => do gd (glB C x && C.blt.contains x && tyB n x && !(x == ("__name__" : Str))); pure []
    | _ => none
  | .bin op a b, e => match e with
    | .BinOp a' op' b' _ => do gd (decide (op = op')); let x ← chk C a a'; let y ← chk C b b'; pure (x ++ y)
    | _ => none
  | .neg a, e => match e with
    | .UnaryOp .USub a' _ => chk C a a'
    | _ => none
  | .not a, e => match e with
    | .UnaryOp .Not a' _ => do gd (tstB a'); chk C a a'
    | _ => none
  | .and a b, e => match e with
    | .BoolOp .And [a', b'] _ => do gd (tstB a' && tstB b'); let x ← chk C a a'; let y ← chk C b b'; pure (x ++ y)
    | .BoolOp .And (a' :: b' :: c' :: r) pos => do gd (tstB a'); let x ← chk C a a'; let y ← chk C b (.BoolOp .And (b' :: c' :: r) pos); pure (x ++ y)
    | _ => none
  | .or a b, e => match e with
    | .BoolOp .Or [a', b'] _ => do gd (tstB a' && tstB b'); let x ← chk C a a'; let y ← chk C b b'; pure (x ++ y)
    | .BoolOp .Or (a' :: b' :: c' :: r) pos => do gd (tstB a'); let x ← chk C a a'; let y ← chk C b (.BoolOp .Or (b' :: c' :: r) pos); pure (x ++ y)
    | _ => none
  | .cmp op a b, e => match e with
    | .Compare a' [op'] [b'] _ => do gd (decide (op = op') && !behindInMarks op b'); let x ← chk C a a'; let y ← chk C b b'; pure (x ++ y)
    | _ => none
  | .chn op1 op2 a b c, e => match e with
    | .Compare a' [p1, p2] [b', c'] _ => do gd (decide (op1 = p1) && decide (op2 = p2) && !lastMarks [op1, op2] [b', c']); let x ← chk C a a'; let y ← chk C b b'; let z ← chk C c c'; pure (x ++ (y ++ z))
    | _ => none
  | .oeq ng a b, e => match e with
    | .Compare a' [op'] [b'] _ => do gd (decide ((if ng then CmpOp.NotEq else .Eq) = op') && !behindInMarks op' b'); let x ← chk C a a'; let y ← chk C b b'; pure (x ++ y)
    | _ => none
  | .ite c a b, e => match e with
    | .IfExp c' a' b' _ => do gd (tstB c'); let x ← chk C c c'; let y ← chk C a a'; let z ← chk C b b'; pure (x ++ (y ++ z))
    | _ => none
  | .star _, _ => none
  | .tup l, e => match e with
    | .Tuple es _ _ => chks C l es
    | _ => none
  | .lst _ l, e => match e with
    | .List es _ => chks C l es
    | _ => none
  | .ix a i, e => match e with
    | .Subscript a' i' _ => do gd (notSl i'); let x ← chk C a a'; let y ← chk C i i'; pure (x ++ y)
    | _ => none
  | .sl a lo hi, e => match e with
    | .Subscript a' (.Slice lo' hi' none _) _ => do
      let x ← chk C a a'
      let y ← (match lo' with
        | none => do gd lo.isCnon; pure []
        | some l => do gd (!lo.isCnon); chk C lo l)
      let z ← (match hi' with
        | none => do gd hi.isCnon; pure []
        | some l => do gd (!hi.isCnon); chk C hi l)
      pure (x ++ (y ++ z))
    | _ => none
  | .fld a f, e => match e with
    | .Attribute a' f' _ => do gd (decide (f = f') && attrPlain a'); chk C a a'
    | _ => none
  | .call f l, e => match e with
    | .Call (.Name x _) es [] _ => do gd (decide (f = x) && glB C x && ((C.fns.lookup x).isSome || ((C.cls.lookup x).isSome && !es.isEmpty))); chks C l es
    | _ => none
  | .kcl f ps ks l, e => match e with
    | .Call (.Name x _) [] kws _ => do gd (decide (f = x) && glB C x && C.kws.contains (x, ps, ks) && decide (kws.map (·.arg) = ks.map some)); chks C l (kws.map (·.value))
    | _ => none
  | .clv i l, e => match e with
    | .Call (.Name x _) es [] _ => do gd (decide (C.N[i]? = some x) && visB C x && nmB x); chks C l es
    | _ => none
  | .blt f l, e => match e with
    | .Call (.Name x _) es [] _ => do gd (glB C x && biIs C f x && !es.isEmpty); chks C l es
    | _ => none
  | .mth m o l, e => match e with
    | .Call (.Attribute o' nm apos) es [] cpos => do gd (attrPlain o' && (apos.endLine == cpos.line) && decide (es.length < 30) && !es.isEmpty && mtIs m nm es.length); let x ← chk C o o'; let y ← chks C l es; pure (x ++ y)
    | _ => none
  | .omt _ _ _, _ => none
  | .lc _ tg ik it c el own, e => match e with
    | .ListComp el' [⟨t', i', ifs, a⟩] scope _ => do
      gd (a == 0 && tupT ik t' && notSet i' && (tgNames t').all (locB scope) && decide (tgSlots C.N t' = some tg) && tg.all (fun i => own.contains i) && blkC C.N C.sc scope (own.map fun i => (C.N.getD i Str.empty, i)))
      let hs ← iterHead C ik i'
      let x ← chks C it hs
      let C' : CC := { C with sc := relS scope C.sc, lam := false }
      let y ← (match ifs with
        | [] => (match c with
          | .cbl true => some []
          | _ => none)
        | [c'] => do gd (tstB c'); chk C' c c'
        | _ => none)
      let z ← chk C' el el'
      gd (y.isEmpty && z.isEmpty)
      pure x
    | _ => none
  | .dcp tg ik it c ka klo khi v own, e => match e with
    | .DictComp kx vx [⟨t', i', ifs, a⟩] scope _ => do
      gd (a == 0 && tupT ik t' && notSet i' && (tgNames t').all (locB scope) && decide (tgSlots C.N t' = some tg) && tg.all (fun i => own.contains i) && blkC C.N C.sc scope (own.map fun i => (C.N.getD i Str.empty, i)))
      let hs ← iterHead C ik i'
      let x ← chks C it hs
      let C' : CC := { C with sc := relS scope C.sc, lam := false }
      let y ← (match ifs with
        | [] => (match c with
          | .cbl true => some []
          | _ => none)
        | [c'] => do gd (tstB c'); chk C' c c'
        | _ => none)
      let z ← (match kx with
        | .Subscript a' (.Slice lo' hi' none _) _ => do
          let x ← chk C' ka a'
          let y ← (match lo' with
            | none => do gd klo.isCnon; pure []
            | some l => do gd (!klo.isCnon); chk C' klo l)
          let z ← (match hi' with
            | none => do gd khi.isCnon; pure []
            | some l => do gd (!khi.isCnon); chk C' khi l)
          pure (x ++ (y ++ z))
        | _ => none)
      let u ← chk C' v vx
      gd (y.isEmpty && (z.isEmpty && u.isEmpty))
      pure x
    | _ => none
  | .fst l, e => match e with
    | .JoinedStr vs _ => do gd (!vs.isEmpty); chkF C l vs
    | _ => none
  | .lam id caps, e => match e with
    | .Lambda args body sc _ => do gd C.lam; pure [⟨id, args, body, sc, caps⟩]
    | _ => none
  | .kin ng x a, e => match e with
    | .Compare a' [op] [.Name y _] _ => do gd (decide (x = y) && glB C x && decide (op = if ng then .NotIn else .In) && C.kds.contains x); chk C a a'
    | _ => none
  | .kget x a, e => match e with
    | .Subscript (.Name y _) a' _ => do gd (decide (x = y) && glB C x && C.kds.contains x && notSl a'); chk C a a'
    | _ => none
def chks (C : CC) : List Tm → List Expr → Option (List Ob)
  | [], es => match es with
    | [] => some []
    | _ => none
  | t :: r, es => match es with
    | e :: es => do gd (notStar e); let x ← chk C t e; let y ← chks C r es; pure (x ++ y)
    | _ => none
def chkF (C : CC) : List Tm → List Expr → Option (List Ob)
  | [], es => match es with
    | [] => some []
    | _ => none
  | t :: r, es => match es with
    | .FormattedValue e cv none _ :: es => do gd (cv == -1); let x ← chk C t e; let y ← chkF C r es; pure (x ++ y)
    | .Constant (.str s) _ _ :: es => match t with
      | .cstr s' => do gd (decide (s = s')); chkF C r es
      | _ => none
    | _ => none
end
end MM
end
section
set_option Elab.async false
set_option linter.all false
set_option maxRecDepth 100000
set_option maxHeartbeats 4000000
/-! What the check means: the helpers. -/
namespace MM
open PySem PySem.Spec PyProof.Rows L2 NdefX
variable [Lams]
structure CtxOk (T : List (Addr × Str)) (X : Cx) (W : WX) (g : GE) (k : Nat) (C : CC) : Prop where
  N_ : X.N = C.N
  nd : X.N.Nodup
  sc_ : X.env.scope = C.sc
  calm : X.calm = true
  takes : Takes X W
  room : Room (k + 1) X.A
  kit : KitOk X.K X.mg g
  con : ConOk X g
  kd : KdOk X.K X.w X.mg g
  kds : ∀ x, C.kds.contains x = true → ∃ kvs, g.kd x = some kvs
  blt : ∀ x, C.blt.contains x = true → X.mg x = none
  gcd : C.blt.contains ("@gcd" : Str) = true → X.mg ("gcd" : Str) = some (.builtin "math.gcd")
  fns : ∀ x ps, C.fns.lookup x = some ps → FnAtN T X g k x ps
  cls : ∀ x ps, C.cls.lookup x = some ps → ClAtN T X g k x ps
  kws : ∀ x ps ks, C.kws.contains (x, ps, ks) = true → FnKw T X g k x ps ks
  cl : ClOk T X g k
  fs : FsOk X.K X.mg g
  me : MeOk T X g k
  oe : OeOk T X g k
section
variable {T : List (Addr × Str)} {X : Cx} {W : WX} {g : GE} {k : Nat} {C : CC}
theorem CtxOk.units (c : CtxOk T X W g k C) : X.A.units + 65 < cLine := by have := c.room.un; omega
theorem CtxOk.gl (c : CtxOk T X W g k C) {x : Str} (h : glB C x = true) : Gl X x ∧ (x == ("__debug__" : Str)) = false := by
  unfold glB at h
  rw [Bool.and_eq_true, decide_eq_true_eq] at h
  refine ⟨?_, by simpa using h.2⟩
  show X.env.scope.names.lookup x = _
  rw [c.sc_]
  exact h.1
theorem CtxOk.vis (c : CtxOk T X W g k C) {x : Str} (h : visB C x = true) : Vis X.env.scope x := by
  unfold visB at h
  rw [c.sc_]
  simpa [Vis, Bool.or_eq_true, or_assoc] using h
theorem nm_ok {x : Str} (h : nmB x = true) : (x == ("__debug__" : Str)) = false ∧ (x == ("__classdict__" : Str)) = false := by
  unfold nmB at h
  rw [Bool.and_eq_true] at h
  exact ⟨by simpa using h.1, by simpa using h.2⟩
theorem gd_ok {b : Bool} {u : Unit} (h : gd b = some u) : b = true := by
  unfold gd at h
  split at h
  · assumption
  · cases h
theorem plainIx_of {e : Expr} (h : notSl e = true) : PlainIx e := fun o i => by
  cases e <;> first | rfl | cases h
/-- what is no and, or, not, comparison, if-expression: its truth is its value's -/
def valB : Expr → Bool
  | .UnaryOp .Not _ _ => false
  | .BoolOp _ _ _ => false
  | .IfExp _ _ _ _ => false
  | .Compare _ _ _ _ => false
  | _ => true
theorem isTrue_of {e : Expr} (h : valB e = true) (env : Env) (whole : Sem Value) : isTrue e env whole = (do let v ← whole; standAt e.pos; holding [v] (truthy v)) := by
  cases e <;> first | rfl | cases h | skip
  rename_i op x p
  cases op <;> first | rfl | cases h
theorem tyB_ok {n : String} {x : Str} (h : tyB n x = true) : bootBuiltins x = some (.type n) := by
  unfold tyB at h
  split at h
  · rename_i m e
    have h : m = n := by simpa using h
    rw [e, h]
  · cases h
theorem BiAt.of (c : CtxOk T X W g k C) {f : Bi} {x : Str} (h : biIs C f x = true) : BiAt X x (biV f) := by
  unfold biIs at h
  split at h
  · rename_i e
    rw [e]
    rw [Bool.and_eq_true] at h
    have hx : x = ("gcd" : Str) := by simpa using h.1
    rw [hx]
    exact .own (c.gcd h.2)
  · rename_i id hne e
    rw [e]
    rw [Bool.and_eq_true, Bool.and_eq_true] at h
    split at h
    · rename_i m hm
      have h2 : m = id := by simpa using h.2
      exact .blt (c.blt x h.1.1) (by rw [hm, h2]) (by have := h.1.2; intro z; rw [z] at this; simp at this)
    · exact absurd h.2 Bool.false_ne_true
  · rename_i n e
    rw [e]
    rw [Bool.and_eq_true, Bool.and_eq_true] at h
    exact .ty (c.blt x h.1.1) (tyB_ok h.2) (by have := h.1.2; intro z; rw [z] at this; simp at this)
  · cases h
theorem anyStar {es : List Expr} {env : Env} {pos : Pos} (h : es.all notStar = true) : (backTo pos (starEach es env)).any (·.1) = false := starEach_any h
theorem chks_star {C : CC} : ∀ {ts : List Tm} {es : List Expr} {obs : List Ob}, chks C ts es = some obs → es.all notStar = true
  | [], es, obs, h => by
    unfold chks at h
    split at h
    · rfl
    · cases h
  | t :: r, es, obs, h => by
    unfold chks at h
    split at h
    · rename_i e es
      obtain ⟨u, h1, h⟩ := Option.bind_eq_some_iff.mp h
      obtain ⟨x, h2, h⟩ := Option.bind_eq_some_iff.mp h
      obtain ⟨y, h3, h⟩ := Option.bind_eq_some_iff.mp h
      rw [List.all_cons, gd_ok h1, chks_star h3]
      rfl
    · cases h
end
end MM
end
section
set_option Elab.async false
set_option linter.all false
set_option maxRecDepth 100000
set_option maxHeartbeats 8000000
/-! What the check means: the rule of terms. -/
namespace MM
open PySem PySem.Spec PyProof.Rows L2 NdefX
variable [Lams]
def ObOk (T : List (Addr × Str)) (X : Cx) (o : Ob) : Prop := ∃ r, r.args = o.args ∧ r.body = o.body ∧ r.sc = o.sc ∧ LamAt T X o.id r o.js
theorem de_congr {T : List (Addr × Str)} {X : Cx} {W : WX} {e : Expr} {f f' : En → Store → Res D} (h : DE T X W e f) (q : ∀ δ S, f δ S = f' δ S) : DE T X W e f' := by
  have : f = f' := funext fun δ => funext fun S => q δ S
  rw [← this]
  exact h
theorem dt_congr {T : List (Addr × Str)} {X : Cx} {W : WX} {e : Expr} {f f' : En → Store → Res D} (h : DT T X W e f) (q : ∀ δ S, f δ S = f' δ S) : DT T X W e f' := by
  have : f = f' := funext fun δ => funext fun S => q δ S
  rw [← this]
  exact h
theorem da_congr {T : List (Addr × Str)} {X : Cx} {W : WX} {e : List Expr} {f f' : En → Store → Res (List D)} (h : DA T X W e f) (q : ∀ δ S, f δ S = f' δ S) : DA T X W e f' := by
  have : f = f' := funext fun δ => funext fun S => q δ S
  rw [← this]
  exact h
/-- how an option's do goes -/
theorem bnd {α β : Type} {o : Option α} {f : α → Option β} {b : β} (h : (o >>= f) = some b) : ∃ a, o = some a ∧ f a = some b := Option.bind_eq_some_iff.mp h
theorem obs_l {T : List (Addr × Str)} {X : Cx} {x y : List Ob} (h : ∀ o ∈ x ++ y, ObOk T X o) : ∀ o ∈ x, ObOk T X o := fun o ho => h o (List.mem_append_left _ ho)
theorem obs_r {T : List (Addr × Str)} {X : Cx} {x y : List Ob} (h : ∀ o ∈ x ++ y, ObOk T X o) : ∀ o ∈ y, ObOk T X o := fun o ho => h o (List.mem_append_right _ ho)
section
variable {T : List (Addr × Str)} {g : GE} {k : Nat}
abbrev IH (T : List (Addr × Str)) (X : Cx) (W : WX) (g : GE) (C : CC) (t : Tm) : Prop := ∀ e obs, chk C t e = some obs → (∀ o ∈ obs, ObOk T X o) → DE T X W e (ev g t)
abbrev IT (T : List (Addr × Str)) (X : Cx) (W : WX) (g : GE) (C : CC) (t : Tm) : Prop := ∀ e obs, tstB e = true → chk C t e = some obs → (∀ o ∈ obs, ObOk T X o) → DT T X W e (ev g t)
abbrev IHs (T : List (Addr × Str)) (X : Cx) (W : WX) (g : GE) (C : CC) (ts : List Tm) : Prop := ∀ es obs, chks C ts es = some obs → (∀ o ∈ obs, ObOk T X o) → DA T X W es (evs g ts)
variable {X : Cx} {W : WX} {C : CC} {a b c : Tm} {e : Expr} {obs : List Ob} {l : List Tm}
theorem chk_bin {op : Operator} (ia : IH T X W g C a) (ib : IH T X W g C b) (h : chk C (.bin op a b) e = some obs) (ho : ∀ o ∈ obs, ObOk T X o) : DE T X W e (ev g (.bin op a b)) := by
  unfold chk at h
  split at h
  · obtain ⟨_, h1, h⟩ := bnd h
    obtain ⟨x, h2, h⟩ := bnd h
    obtain ⟨y, h3, h⟩ := bnd h
    cases h
    have e1 := of_decide_eq_true (gd_ok h1)
    subst e1
    exact de_congr (de_bin (ia _ _ h2 (obs_l ho)) (ib _ _ h3 (obs_r ho))) fun δ S => rfl
  · cases h
theorem chk_var {i : Nat} (c : CtxOk T X W g k C) (h : chk C (.var i) e = some obs) : DE T X W e (ev g (.var i)) := by
  unfold chk at h
  split at h
  · obtain ⟨_, h1, h⟩ := bnd h
    have h1 := gd_ok h1
    rw [Bool.and_eq_true, Bool.and_eq_true, decide_eq_true_eq] at h1
    obtain ⟨n1, n2⟩ := nm_ok h1.2
    exact de_var (by rw [c.N_]; exact h1.1.1) (c.vis h1.1.2) n1 n2
  · cases h
theorem chk_cint {i : Int} (h : chk C (.cint i) e = some obs) : DE T X W e (ev g (.cint i)) := by
  unfold chk at h
  split at h
  · obtain ⟨_, h1, h⟩ := bnd h
    have h1 := eq_of_beq (gd_ok h1)
    subst h1
    exact de_int
  · cases h
theorem chk_cbl {i : Bool} (h : chk C (.cbl i) e = some obs) : DE T X W e (ev g (.cbl i)) := by
  unfold chk at h
  split at h
  · obtain ⟨_, h1, h⟩ := bnd h
    have h1 := eq_of_beq (gd_ok h1)
    subst h1
    exact de_bl
  · cases h
theorem chk_cnon (h : chk C .cnon e = some obs) : DE T X W e (ev g .cnon) := by
  unfold chk at h
  split at h
  · exact de_non
  · cases h
theorem chk_cstr {i : Str} (h : chk C (.cstr i) e = some obs) : DE T X W e (ev g (.cstr i)) := by
  unfold chk at h
  split at h
  · obtain ⟨_, h1, h⟩ := bnd h
    have h1 := of_decide_eq_true (gd_ok h1)
    rw [h1]
    exact de_str
  · cases h
theorem chk_glb {y : Str} (c : CtxOk T X W g k C) (h : chk C (.glb y) e = some obs) : DE T X W e (ev g (.glb y)) := by
  unfold chk at h
  split at h
  · obtain ⟨_, h1, h⟩ := bnd h
    have h1 := gd_ok h1
    rw [Bool.and_eq_true, decide_eq_true_eq] at h1
    obtain ⟨g1, g2⟩ := c.gl h1.2
    rw [← h1.1]
    exact de_glb c.con g1 g2
  · cases h
theorem chk_typ {n : String} (c : CtxOk T X W g k C) (h : chk C (.typ n) e = some obs) : DE T X W e (ev g (.typ n)) := by
  unfold chk at h
  split at h
  · obtain ⟨_, h1, h⟩ := bnd h
    have h1 := gd_ok h1
    rw [Bool.and_eq_true, Bool.and_eq_true, Bool.and_eq_true] at h1
    obtain ⟨g1, g2⟩ := c.gl h1.1.1.1
    exact de_typ g1 (c.blt _ h1.1.1.2) (tyB_ok h1.1.2) (by have := h1.2; intro z; rw [z] at this; simp at this) g2
  · cases h
theorem chk_neg (ia : IH T X W g C a) (h : chk C (.neg a) e = some obs) (ho : ∀ o ∈ obs, ObOk T X o) : DE T X W e (ev g (.neg a)) := by
  unfold chk at h
  split at h
  · exact de_congr (de_neg (ia _ _ h ho)) fun δ S => rfl
  · cases h
theorem chk_not (ia : IH T X W g C a) (ta : IT T X W g C a) (h : chk C (.not a) e = some obs) (ho : ∀ o ∈ obs, ObOk T X o) : DE T X W e (ev g (.not a)) ∧ DT T X W e (ev g (.not a)) := by
  unfold chk at h
  split at h
  · obtain ⟨_, h1, h⟩ := bnd h
    exact ⟨de_congr (de_not (ta _ _ (gd_ok h1) h ho) (ia _ _ h ho)) fun δ S => rfl, dt_congr (dt_not (ta _ _ (gd_ok h1) h ho)) fun δ S => rfl⟩
  · cases h
theorem chk_cmp {op : CmpOp} (c : CtxOk T X W g k C) (ia : IH T X W g C a) (ib : IH T X W g C b) (h : chk C (.cmp op a b) e = some obs) (ho : ∀ o ∈ obs, ObOk T X o) : DE T X W e (ev g (.cmp op a b)) ∧ DT T X W e (ev g (.cmp op a b)) := by
  unfold chk at h
  split at h
  · obtain ⟨_, h1, h⟩ := bnd h
    obtain ⟨x, h2, h⟩ := bnd h
    obtain ⟨y, h3, h⟩ := bnd h
    cases h
    have h1 := gd_ok h1
    rw [Bool.and_eq_true, decide_eq_true_eq] at h1
    obtain ⟨e1, e2⟩ := h1
    subst e1
    have e2 := (Bool.not_eq_true' _).mp e2
    exact ⟨de_congr (de_cmp c.units e2 (ia _ _ h2 (obs_l ho)) (ib _ _ h3 (obs_r ho))) fun δ S => rfl, dt_congr (dt_cmp c.units e2 (ia _ _ h2 (obs_l ho)) (ib _ _ h3 (obs_r ho))) fun δ S => rfl⟩
  · cases h
theorem chk_oeq {ng : Bool} (c : CtxOk T X W g k C) (ia : IH T X W g C a) (ib : IH T X W g C b) (h : chk C (.oeq ng a b) e = some obs) (ho : ∀ o ∈ obs, ObOk T X o) : DE T X W e (ev g (.oeq ng a b)) ∧ DT T X W e (ev g (.oeq ng a b)) := by
  unfold chk at h
  split at h
  · obtain ⟨_, h1, h⟩ := bnd h
    obtain ⟨x, h2, h⟩ := bnd h
    obtain ⟨y, h3, h⟩ := bnd h
    cases h
    have h1 := gd_ok h1
    rw [Bool.and_eq_true, decide_eq_true_eq] at h1
    obtain ⟨e1, e2⟩ := h1
    subst e1
    have e2 := (Bool.not_eq_true' _).mp e2
    exact ⟨de_congr (de_oeq c.oe c.room e2 (ia _ _ h2 (obs_l ho)) (ib _ _ h3 (obs_r ho))) fun δ S => rfl, dt_congr (dt_oeq c.oe c.room e2 (ia _ _ h2 (obs_l ho)) (ib _ _ h3 (obs_r ho))) fun δ S => rfl⟩
  · cases h
theorem chk_chn {o1 o2 : CmpOp} {d : Tm} (c : CtxOk T X W g k C) (ia : IH T X W g C a) (ib : IH T X W g C b) (ic : IH T X W g C d) (h : chk C (.chn o1 o2 a b d) e = some obs) (ho : ∀ o ∈ obs, ObOk T X o) : DE T X W e (ev g (.chn o1 o2 a b d)) ∧ DT T X W e (ev g (.chn o1 o2 a b d)) := by
  unfold chk at h
  split at h
  · obtain ⟨_, h1, h⟩ := bnd h
    obtain ⟨x, h2, h⟩ := bnd h
    obtain ⟨y, h3, h⟩ := bnd h
    obtain ⟨z, h4, h⟩ := bnd h
    cases h
    have h1 := gd_ok h1
    rw [Bool.and_eq_true, Bool.and_eq_true, decide_eq_true_eq, decide_eq_true_eq] at h1
    obtain ⟨⟨e1, e3⟩, e2⟩ := h1
    subst e1
    subst e3
    have e2 := (Bool.not_eq_true' _).mp e2
    exact ⟨de_congr (de_chn c.units e2 (ia _ _ h2 (obs_l ho)) (ib _ _ h3 (obs_l (obs_r ho))) (ic _ _ h4 (obs_r (obs_r ho)))) fun δ S => rfl, dt_congr (dt_chn c.units e2 (ia _ _ h2 (obs_l ho)) (ib _ _ h3 (obs_l (obs_r ho))) (ic _ _ h4 (obs_r (obs_r ho)))) fun δ S => rfl⟩
  · cases h
theorem chk_ite {d : Tm} (tc : IT T X W g C d) (ia : IH T X W g C a) (ib : IH T X W g C b) (h : chk C (.ite d a b) e = some obs) (ho : ∀ o ∈ obs, ObOk T X o) : DE T X W e (ev g (.ite d a b)) := by
  unfold chk at h
  split at h
  · obtain ⟨_, h1, h⟩ := bnd h
    obtain ⟨x, h2, h⟩ := bnd h
    obtain ⟨y, h3, h⟩ := bnd h
    obtain ⟨z, h4, h⟩ := bnd h
    cases h
    exact de_congr (de_ite (tc _ _ (gd_ok h1) h2 (obs_l ho)) (ia _ _ h3 (obs_l (obs_r ho))) (ib _ _ h4 (obs_r (obs_r ho)))) fun δ S => rfl
  · cases h
theorem chk_tup (il : IHs T X W g C l) (h : chk C (.tup l) e = some obs) (ho : ∀ o ∈ obs, ObOk T X o) : DE T X W e (ev g (.tup l)) := by
  unfold chk at h
  split at h
  · exact de_congr (de_tup (il _ _ h ho)) fun δ S => rfl
  · cases h
theorem chk_lst {m : Bool} (il : IHs T X W g C l) (h : chk C (.lst m l) e = some obs) (ho : ∀ o ∈ obs, ObOk T X o) : DE T X W e (ev g (.lst m l)) := by
  unfold chk at h
  split at h
  · exact de_congr (de_lst (m := m) (il _ _ h ho)) fun δ S => rfl
  · cases h
theorem chk_ix (ia : IH T X W g C a) (ib : IH T X W g C b) (h : chk C (.ix a b) e = some obs) (ho : ∀ o ∈ obs, ObOk T X o) : DE T X W e (ev g (.ix a b)) := by
  unfold chk at h
  split at h
  · obtain ⟨_, h1, h⟩ := bnd h
    obtain ⟨x, h2, h⟩ := bnd h
    obtain ⟨y, h3, h⟩ := bnd h
    cases h
    exact de_congr (de_ix (ia _ _ h2 (obs_l ho)) (ib _ _ h3 (obs_r ho)) (plainIx_of (gd_ok h1))) fun δ S => rfl
  · cases h
end
end MM
end
section
set_option Elab.async false
set_option linter.all false
set_option maxRecDepth 100000
set_option maxHeartbeats 8000000
/-! What the check means: calls, logic, slices, fields. -/
namespace MM
open PySem PySem.Spec PyProof.Rows L2 NdefX
variable [Lams]
theorem dw_congr {T : List (Addr × Str)} {X : Cx} {W : WX} {e : Expr} {f f' : En → Store → Res D} (h : DW T X W e f) (q : ∀ δ S, f δ S = f' δ S) : DW T X W e f' := by
  have : f = f' := funext fun δ => funext fun S => q δ S
  rw [← this]
  exact h
section
variable {T : List (Addr × Str)} {g : GE} {k : Nat} {X : Cx} {W : WX} {C : CC} {a b c : Tm} {e : Expr} {obs : List Ob} {l : List Tm}
theorem chk_and (ia : IH T X W g C a) (ib : IH T X W g C b) (ta : IT T X W g C a) (tb : IT T X W g C b) (wb : ∀ y z r pos obs, chk C b (.BoolOp .And (y :: z :: r) pos) = some obs → (∀ o ∈ obs, ObOk T X o) → DW T X W (.BoolOp .And (y :: z :: r) pos) (ev g b))
    (h : chk C (.and a b) e = some obs) (ho : ∀ o ∈ obs, ObOk T X o) : DE T X W e (ev g (.and a b)) ∧ DW T X W e (ev g (.and a b)) := by
  unfold chk at h
  split at h
  · obtain ⟨_, h1, h⟩ := bnd h
    obtain ⟨x, h2, h⟩ := bnd h
    obtain ⟨y, h3, h⟩ := bnd h
    cases h
    have h1 := gd_ok h1
    rw [Bool.and_eq_true] at h1
    refine ⟨de_congr (de_and (ia _ _ h2 (obs_l ho)) (de_one (ib _ _ h3 (obs_r ho)))) fun δ S => rfl, ?_⟩
    exact dw_congr (dw_and (ta _ _ h1.1 h2 (obs_l ho)) (dw_and1 (tb _ _ h1.2 h3 (obs_r ho)))) fun δ S => rfl
  · obtain ⟨_, h1, h⟩ := bnd h
    obtain ⟨x, h2, h⟩ := bnd h
    obtain ⟨y, h3, h⟩ := bnd h
    cases h
    refine ⟨de_congr (de_and (ia _ _ h2 (obs_l ho)) (ib _ _ h3 (obs_r ho))) fun δ S => rfl, ?_⟩
    exact dw_congr (dw_and (ta _ _ (gd_ok h1) h2 (obs_l ho)) (wb _ _ _ _ _ h3 (obs_r ho))) fun δ S => rfl
  · cases h
theorem chk_or (ia : IH T X W g C a) (ib : IH T X W g C b) (ta : IT T X W g C a) (tb : IT T X W g C b) (wb : ∀ y z r pos obs, chk C b (.BoolOp .Or (y :: z :: r) pos) = some obs → (∀ o ∈ obs, ObOk T X o) → DW T X W (.BoolOp .Or (y :: z :: r) pos) (ev g b))
    (h : chk C (.or a b) e = some obs) (ho : ∀ o ∈ obs, ObOk T X o) : DE T X W e (ev g (.or a b)) ∧ DW T X W e (ev g (.or a b)) := by
  unfold chk at h
  split at h
  · obtain ⟨_, h1, h⟩ := bnd h
    obtain ⟨x, h2, h⟩ := bnd h
    obtain ⟨y, h3, h⟩ := bnd h
    cases h
    have h1 := gd_ok h1
    rw [Bool.and_eq_true] at h1
    refine ⟨de_congr (de_or (ia _ _ h2 (obs_l ho)) (de_one (ib _ _ h3 (obs_r ho)))) fun δ S => rfl, ?_⟩
    exact dw_congr (dw_or (ta _ _ h1.1 h2 (obs_l ho)) (dw_or1 (tb _ _ h1.2 h3 (obs_r ho)))) fun δ S => rfl
  · obtain ⟨_, h1, h⟩ := bnd h
    obtain ⟨x, h2, h⟩ := bnd h
    obtain ⟨y, h3, h⟩ := bnd h
    cases h
    refine ⟨de_congr (de_or (ia _ _ h2 (obs_l ho)) (ib _ _ h3 (obs_r ho))) fun δ S => rfl, ?_⟩
    exact dw_congr (dw_or (ta _ _ (gd_ok h1) h2 (obs_l ho)) (wb _ _ _ _ _ h3 (obs_r ho))) fun δ S => rfl
  · cases h
theorem chk_fld {f : Str} (c : CtxOk T X W g k C) (ia : IH T X W g C a) (h : chk C (.fld a f) e = some obs) (ho : ∀ o ∈ obs, ObOk T X o) : DE T X W e (ev g (.fld a f)) := by
  unfold chk at h
  split at h
  · obtain ⟨_, h1, hh⟩ := bnd h
    clear h
    have h1 := gd_ok h1
    rw [Bool.and_eq_true, decide_eq_true_eq] at h1
    obtain ⟨e1, e2⟩ := h1
    subst e1
    exact de_congr (de_fld c.fs c.me c.room e2 (ia _ _ hh ho)) fun δ S => rfl
  · cases h
theorem look_some {α : Type} {l : List (Str × α)} {x : Str} (h : (l.lookup x).isSome = true) : ∃ y, l.lookup x = some y := Option.isSome_iff_exists.mp h
theorem chk_call {f : Str} (c : CtxOk T X W g k C) (il : IHs T X W g C l) (h : chk C (.call f l) e = some obs) (ho : ∀ o ∈ obs, ObOk T X o) : DE T X W e (ev g (.call f l)) := by
  unfold chk at h
  split at h
  · rename_i x p es pos
    obtain ⟨_, h1, hh⟩ := bnd h
    clear h
    have h1 := gd_ok h1
    rw [Bool.and_eq_true, Bool.and_eq_true, decide_eq_true_eq] at h1
    obtain ⟨⟨e1, e2⟩, e3⟩ := h1
    subst e1
    obtain ⟨g1, g2⟩ := c.gl e2
    have hst := chks_star hh
    have hd := il _ _ hh ho
    cases es with
    | nil =>
      have e3 : ((C.fns.lookup f).isSome || ((C.cls.lookup f).isSome && !true)) = true := e3
      rw [Bool.not_true, Bool.and_false, Bool.or_false] at e3
      obtain ⟨ps, hps⟩ := look_some e3
      cases l with
      | nil => exact de_congr (de_call0 c.takes (c.room.mono (Nat.le_succ k)) (c.fns f ps hps) g1 g2) fun δ S => rfl
      | cons t r =>
        unfold chks at hh
        cases hh
    | cons e0 es =>
      have hst2 := hst
      rw [List.all_cons, Bool.and_eq_true] at hst2
      have he := starEach_plain (env := X.env) (es := es) hst2.1
      have hpl := starEach_any (env := X.env) (pos := pos) hst2.2
      rcases (Bool.or_eq_true _ _).mp e3 with z | z
      · obtain ⟨ps, hps⟩ := look_some z
        exact de_congr (de_call c.takes (c.room.mono (Nat.le_succ k)) (c.fns f ps hps) g1 g2 he hpl hd) fun δ S => rfl
      · rw [Bool.and_eq_true] at z
        obtain ⟨ps, hps⟩ := look_some z.1
        exact de_congr (de_make c.takes c.room (c.cls f ps hps) g1 g2 he hpl hd) fun δ S => rfl
  · cases h
theorem chk_clv {i : Nat} (c : CtxOk T X W g k C) (il : IHs T X W g C l) (h : chk C (.clv i l) e = some obs) (ho : ∀ o ∈ obs, ObOk T X o) : DE T X W e (ev g (.clv i l)) := by
  unfold chk at h
  split at h
  · rename_i x p es pos
    obtain ⟨_, h1, h⟩ := bnd h
    have h1 := gd_ok h1
    rw [Bool.and_eq_true, Bool.and_eq_true, decide_eq_true_eq] at h1
    obtain ⟨⟨e1, e2⟩, e3⟩ := h1
    obtain ⟨n1, n2⟩ := nm_ok e3
    have hN : X.N[i]? = some x := by rw [c.N_]; exact e1
    have hst := chks_star h
    have hd := il _ _ h ho
    cases es with
    | nil =>
      cases l with
      | nil => exact de_congr (de_clv0 c.takes c.cl c.room hN (c.vis e2) n1 n2) fun δ S => rfl
      | cons t r =>
        unfold chks at h
        cases h
    | cons e0 es =>
      rw [List.all_cons, Bool.and_eq_true] at hst
      exact de_congr (de_clv c.takes c.cl c.room hN (c.vis e2) n1 n2 (starEach_plain (env := X.env) (es := es) hst.1) (starEach_any (env := X.env) (pos := pos) hst.2) hd) fun δ S => rfl
  · cases h
theorem chk_blt {f : Bi} (c : CtxOk T X W g k C) (il : IHs T X W g C l) (h : chk C (.blt f l) e = some obs) (ho : ∀ o ∈ obs, ObOk T X o) : DE T X W e (ev g (.blt f l)) := by
  unfold chk at h
  split at h
  · rename_i x p es pos
    obtain ⟨_, h1, h⟩ := bnd h
    have h1 := gd_ok h1
    rw [Bool.and_eq_true, Bool.and_eq_true] at h1
    obtain ⟨⟨e1, e2⟩, e3⟩ := h1
    obtain ⟨g1, g2⟩ := c.gl e1
    have hst := chks_star h
    have hd := il _ _ h ho
    cases es with
    | nil => cases e3
    | cons e0 es =>
      rw [List.all_cons, Bool.and_eq_true] at hst
      exact de_congr (de_blt c.calm c.kit (BiAt.of c e2) g1 g2 (starEach_plain (env := X.env) (es := es) hst.1) (starEach_any (env := X.env) (pos := pos) hst.2) hd) fun δ S => rfl
  · cases h
theorem mtIs_ok {m : Mt} {nm : Str} {n : Nat} (h : mtIs m nm (n + 1) = true) : (m = .split ∧ nm = "split") ∨ (m = .join ∧ nm = "join") ∨ (m = .append ∧ nm = "append") ∨ (m = .extend ∧ nm = "extend") ∨ (m = .get ∧ nm = "get" ∧ n = 1) := by
  unfold mtIs at h
  cases m with
  | split => exact .inl ⟨rfl, eq_of_beq h⟩
  | join => exact .inr (.inl ⟨rfl, eq_of_beq h⟩)
  | append => exact .inr (.inr (.inl ⟨rfl, eq_of_beq h⟩))
  | extend => exact .inr (.inr (.inr (.inl ⟨rfl, eq_of_beq h⟩)))
  | get =>
    rw [Bool.and_eq_true] at h
    have := eq_of_beq h.2
    exact .inr (.inr (.inr (.inr ⟨rfl, eq_of_beq h.1, by omega⟩)))
theorem chk_mth {m : Mt} (c : CtxOk T X W g k C) (ia : IH T X W g C a) (il : IHs T X W g C l) (h : chk C (.mth m a l) e = some obs) (ho : ∀ o ∈ obs, ObOk T X o) : DE T X W e (ev g (.mth m a l)) := by
  unfold chk at h
  split at h
  · rename_i o' nm apos es cpos
    obtain ⟨_, h1, h⟩ := bnd h
    obtain ⟨x, h2, h⟩ := bnd h
    obtain ⟨y, h3, h⟩ := bnd h
    cases h
    have h1 := gd_ok h1
    rw [Bool.and_eq_true, Bool.and_eq_true, Bool.and_eq_true, Bool.and_eq_true, decide_eq_true_eq] at h1
    obtain ⟨⟨⟨⟨e1, e2⟩, e3⟩, e4⟩, e5⟩ := h1
    have hst := chks_star h3
    cases es with
    | nil => cases e4
    | cons e0 es =>
      exact de_congr (de_mth (by have := c.units; omega) (mtIs_ok e5) e1 e2 e3 hst (ia _ _ h2 (obs_l ho)) (il _ _ h3 (obs_r ho))) fun δ S => rfl
  · cases h
end
end MM
end
section
set_option Elab.async false
set_option linter.all false
set_option maxRecDepth 100000
set_option maxHeartbeats 8000000
/-! What the check means: slices, keywords, lambdas, f-strings, written dicts, lists. -/
namespace MM
open PySem PySem.Spec PyProof.Rows L2 NdefX
variable [Lams]
section
variable {T : List (Addr × Str)} {g : GE} {k : Nat} {X : Cx} {W : WX} {C : CC} {a b c : Tm} {e : Expr} {obs : List Ob} {l : List Tm}
theorem chk_nil {es : List Expr} (h : chks C [] es = some obs) : DA T X W es (evs g []) := by
  unfold chks at h
  split at h
  · exact da_congr da_nil fun δ S => rfl
  · cases h
theorem evs_cons {t : Tm} {r : List Tm} (hs : ∀ a, t ≠ .star a) (δ : En) (S : Store) : evs g (t :: r) δ S = fCons (ev g t) (evs g r) δ S := by
  cases t with
  | star a => exact absurd rfl (hs a)
  | _ => rfl
theorem chk_cons {t : Tm} {r : List Tm} {es : List Expr} (it : IH T X W g C t) (ir : IHs T X W g C r) (h : chks C (t :: r) es = some obs) (ho : ∀ o ∈ obs, ObOk T X o) : DA T X W es (evs g (t :: r)) := by
  unfold chks at h
  split at h
  · obtain ⟨_, h1, h⟩ := bnd h
    obtain ⟨x, h2, h⟩ := bnd h
    obtain ⟨y, h3, h⟩ := bnd h
    cases h
    refine da_congr (da_cons (starEach_plain (gd_ok h1)) (it _ _ h2 (obs_l ho)) (ir _ _ h3 (obs_r ho))) fun δ S => (evs_cons (fun z hz => ?_) δ S).symm
    rw [hz] at h2
    unfold chk at h2
    cases h2
  · cases h
theorem fmt_con {x : Str} {j : Nat} {pos : Pos} : DE T X W (.Constant (.str x) j pos) (fun δ S => (ev g (.cstr x) δ S).bind fmtR) := by
  refine PE_weak (pe_str (x := x)) ?_
  rintro σ H Q ⟨ρ, δ, S, w, h⟩
  have h : Good T X W σ H ρ δ Q (fmtR (.str x) S) := h
  unfold fmtR fmtD at h
  dsimp only at h
  by_cases hz : x.length ≤ line
  · rw [if_pos hz] at h
    exact h (.str x) H ρ Le.rfl' w rfl
  · rw [if_neg hz] at h
    exact h.elim
abbrev IHF (T : List (Addr × Str)) (X : Cx) (W : WX) (g : GE) (C : CC) (ts : List Tm) : Prop := ∀ es obs, chkF C ts es = some obs → (∀ o ∈ obs, ObOk T X o) → DJ T X W es (ts.map fun t δ S => (ev g t δ S).bind fmtR)
theorem chkF_nil {es : List Expr} (h : chkF C [] es = some obs) : DJ T X W es (([] : List Tm).map fun t δ S => (ev g t δ S).bind fmtR) := by
  unfold chkF at h
  split at h
  · exact .nil
  · cases h
theorem chkF_cons {t : Tm} {r : List Tm} {es : List Expr} (it : IH T X W g C t) (ir : IHF T X W g C r) (h : chkF C (t :: r) es = some obs) (ho : ∀ o ∈ obs, ObOk T X o) : DJ T X W es ((t :: r).map fun t δ S => (ev g t δ S).bind fmtR) := by
  unfold chkF at h
  split at h
  · obtain ⟨_, h1, h⟩ := bnd h
    obtain ⟨x, h2, h⟩ := bnd h
    obtain ⟨y, h3, h⟩ := bnd h
    cases h
    have e1 := eq_of_beq (gd_ok h1)
    subst e1
    exact .cons (de_fmt (it _ _ h2 (obs_l ho))) (ir _ _ h3 (obs_r ho))
  · split at h
    · obtain ⟨_, h1, h⟩ := bnd h
      have e1 := of_decide_eq_true (gd_ok h1)
      rw [e1] at *
      exact .cons fmt_con (ir _ _ h ho)
    · cases h
  · cases h
theorem chk_fst (il : IHF T X W g C l) (h : chk C (.fst l) e = some obs) (ho : ∀ o ∈ obs, ObOk T X o) : DE T X W e (ev g (.fst l)) := by
  unfold chk at h
  split at h
  · rename_i vs p
    obtain ⟨_, h1, h⟩ := bnd h
    have hd := il _ _ h ho
    have hev : ∀ δ S, (evFf (l.map fun t δ S => (ev g t δ S).bind fmtR) Str.empty δ S).bind (fun s S => .ok (.str s) S) = ev g (.fst l) δ S := fun δ S => by
      rw [← evF_eq]
      rfl
    cases vs with
    | nil => cases (gd_ok h1)
    | cons v1 r =>
      cases r with
      | nil =>
        cases l with
        | nil => cases hd
        | cons t l =>
          cases hd with
          | cons q qr =>
            cases l with
            | nil => exact de_congr (de_fstr1 q) hev
            | cons _ _ => cases qr
      | cons v2 r => exact de_congr (de_fstr hd) hev
  · cases h
theorem chk_lam {id : Nat} {js : List Nat} (h : chk C (.lam id js) e = some obs) (ho : ∀ o ∈ obs, ObOk T X o) : DE T X W e (ev g (.lam id js)) := by
  unfold chk at h
  split at h
  · obtain ⟨_, h1, h⟩ := bnd h
    cases h
    obtain ⟨r, e1, e2, e3, L⟩ := ho _ List.mem_cons_self
    dsimp only at e1 e2 e3
    subst e1
    subst e2
    subst e3
    exact de_congr (de_lam L) fun δ S => rfl
  · cases h
theorem chk_kin {ng : Bool} {x : Str} (c : CtxOk T X W g k C) (ia : IH T X W g C a) (h : chk C (.kin ng x a) e = some obs) (ho : ∀ o ∈ obs, ObOk T X o) : DE T X W e (ev g (.kin ng x a)) := by
  unfold chk at h
  split at h
  · obtain ⟨_, h1, hh⟩ := bnd h
    clear h
    have h1 := gd_ok h1
    rw [Bool.and_eq_true, Bool.and_eq_true, Bool.and_eq_true, decide_eq_true_eq, decide_eq_true_eq] at h1
    obtain ⟨⟨⟨e1, e2⟩, e3⟩, e4⟩ := h1
    obtain ⟨g1, g2⟩ := c.gl e2
    subst e1
    subst e3
    exact de_congr (de_kin c.kd g1 g2 (ia _ _ hh ho)) fun δ S => rfl
  · cases h
theorem chk_kget {x : Str} (c : CtxOk T X W g k C) (ia : IH T X W g C a) (h : chk C (.kget x a) e = some obs) (ho : ∀ o ∈ obs, ObOk T X o) : DE T X W e (ev g (.kget x a)) := by
  unfold chk at h
  split at h
  · obtain ⟨_, h1, hh⟩ := bnd h
    clear h
    have h1 := gd_ok h1
    rw [Bool.and_eq_true, Bool.and_eq_true, Bool.and_eq_true, decide_eq_true_eq] at h1
    obtain ⟨⟨⟨e1, e2⟩, e3⟩, e4⟩ := h1
    obtain ⟨g1, g2⟩ := c.gl e2
    obtain ⟨kvs, hk⟩ := c.kds x e3
    subst e1
    exact de_congr (de_kget c.kd hk g1 g2 (ia _ _ hh ho) (plainIx_of e4)) fun δ S => rfl
  · cases h
end
end MM
end
section
set_option Elab.async false
set_option linter.all false
set_option maxRecDepth 100000
set_option maxHeartbeats 8000000
/-! What the check means: comprehensions. -/
namespace MM
open PySem PySem.Spec PyProof.Rows L2 NdefX
variable [Lams]
section
variable {T : List (Addr × Str)} {g : GE} {k : Nat} {X : Cx} {W : WX} {C : CC} {a b c : Tm} {e : Expr} {obs : List Ob} {l : List Tm}
theorem takesW0 {X : Cx} : Takes X W0 := fun _ _ x => by
  obtain ⟨_, _, _, _, _, _, _, _, _, _, _, _, _, _, _, _, z⟩ := x
  exact z.elim
theorem CtxOk.blk (c : CtxOk T X W g k C) (scope : Scope) (s : Shared) (H : Hp) (Ca : Addr) (cl : List (Str × Addr)) (fp : List Addr) :
    CtxOk T (X.blk s H scope (compEnvC scope cl Ca X.env) fp) W0 g k { C with sc := relS scope C.sc, lam := false } where
  N_ := c.N_
  nd := c.nd
  sc_ := by rw [← c.sc_]; rfl
  calm := c.calm
  takes := takesW0
  room := c.room
  kit := c.kit
  con := c.con
  kd := c.kd
  kds := c.kds
  blt := c.blt
  gcd := c.gcd
  fns := fun x ps h => ⟨(c.fns x ps h).ex⟩
  cls := fun x ps h => ⟨(c.cls x ps h).ex⟩
  kws := fun x ps ks h => ⟨(c.kws x ps ks h).ex⟩
  cl := ⟨c.cl.clo, fun x ds S h => by
    obtain ⟨ps, h1, h2⟩ := c.cl.glo x ds S h
    exact ⟨ps, ⟨h1.ex⟩, h2⟩, c.cl.kp, c.cl.oth⟩
  fs := c.fs
  me := ⟨c.me.pp⟩
  oe := ⟨c.oe.ok, c.oe.oth⟩
theorem idx_at {l : List Str} {x : Str} {i : Nat} (h : l.idxOf? x = some i) : l[i]? = some x := by
  unfold List.idxOf? at h
  obtain ⟨hi, h1, _⟩ := List.findIdx?_eq_some_iff_getElem.mp h
  rw [List.getElem?_eq_getElem hi, eq_of_beq h1]
/-- targets that are names -/
theorem pgs_of {Y : Cx} (hN : Y.N.Nodup) : ∀ (es : List Expr) (g : List Nat), (es.mapM fun | .Name x _ => Y.N.idxOf? x | _ => none) = some g →
    (∀ x ∈ es.filterMap (fun | .Name x _ => some x | _ => none), Loc Y.env.scope x ∧ (Y.fn x = true ∨ Y.env.scope.names.lookup x = some .local)) →
    PGs Y es (gSeq g) ∧ (assignEach es Y.env).length = g.length ∧ (assignEach es Y.env).findIdx? (·.1) = none
  | [], g, h, _ => by
    have h : g = [] := by simpa using h.symm
    rw [h]
    exact ⟨pgs_nil, rfl, rfl⟩
  | e :: es, g, h, hx => by
    rw [List.mapM_cons] at h
    obtain ⟨i, h1, h⟩ := bnd h
    obtain ⟨r, h2, h⟩ := bnd h
    cases h
    cases e with
    | Name x p =>
      have h1 : Y.N.idxOf? x = some i := h1
      have hx1 := hx x (by rw [List.filterMap_cons]; exact List.mem_cons_self)
      obtain ⟨i1, i2, i3⟩ := pgs_of hN es r h2 (fun y hy => hx y (by rw [List.filterMap_cons]; exact List.mem_cons_of_mem _ hy))
      refine ⟨pgs_cons (pg_name hN (idx_at h1) hx1.1 hx1.2) i1 rfl, ?_, ?_⟩
      · show (assignEach es Y.env).length + 1 = _
        rw [i2]
        rfl
      · show List.findIdx? _ ((false, _) :: assignEach es Y.env) = none
        rw [List.findIdx?_cons]
        simp [i3]
    | _ => cases h1
theorem pg_of {Y : Cx} (hc : Y.calm = true) (hN : Y.N.Nodup) {t : Expr} {gs : List Nat} (h : tgSlots Y.N t = some gs) (hx : ∀ x ∈ tgNames t, Loc Y.env.scope x ∧ (Y.fn x = true ∨ Y.env.scope.names.lookup x = some .local)) : PG Y t (gB Y.K gs) := by
  unfold tgSlots at h
  split at h
  · rename_i x p
    obtain ⟨i, h1, h2⟩ := Option.map_eq_some_iff.mp h
    rw [← h2]
    have := hx x List.mem_cons_self
    exact pg_name hN (idx_at h1) this.1 this.2
  · rename_i es kk p
    split at h
    · cases h
    · rename_i hl
      obtain ⟨i1, i2, i3⟩ := pgs_of hN es gs h hx
      have hne : ∀ i, gs ≠ [i] := fun i z => by
        have hes : (assignEach es Y.env).length = es.length := by
          clear i1 i2 i3 h hx hl
          induction es with
          | nil => rfl
          | cons e es ih => cases e <;> (show (assignEach es Y.env).length + 1 = _; rw [ih]; rfl)
        rw [z] at i2
        rw [hes] at i2
        rw [i2] at hl
        exact hl rfl
      have : gB Y.K gs = gTup Y.K gs.length (gSeq gs) := by
        unfold gB
        split
        · exact absurd rfl (hne _)
        · rfl
      rw [this]
      exact pg_tup hc i1 i2 i3
  · cases h
theorem iter_ok {ik : Ik} {it : Expr} {tg : Expr} {hs : List Expr} {fs : En → Store → Res (List D)} (c : CtxOk T X W g k C) (h : iterHead C ik it = some hs) (ht : ik = .enumerate ∨ ik = .zip → ∃ es kk p, tg = .Tuple es kk p) (hd : DA T X W hs fs) (hst : hs.all notStar = true) (h1 : ∀ e, ik = .plain → hs = [e] → ∃ fe, DE T X W e fe ∧ ∀ δ S, fs δ S = fOne fe δ S) :
    DI T X W tg it (fun δ S => (fs δ S).bind fun its S => iterK ik its S) := by
  unfold iterHead at h
  split at h
  · cases h
    obtain ⟨fe, q1, q2⟩ := h1 it rfl rfl
    have e : fs = fOne fe := funext fun δ => funext fun S => q2 δ S
    rw [e]
    exact di_plain q1
  · split at h
    · rename_i hx
      cases h
      rw [Bool.and_eq_true, Bool.and_eq_true] at hx
      have ex := eq_of_beq hx.1.1
      obtain ⟨g1, g2⟩ := c.gl hx.1.2
      have hb := c.blt _ hx.2
      subst ex
      rw [List.all_cons, Bool.and_eq_true] at hst
      exact di_range1 g1 hb (starEach_plain hst.1) hd
    · cases h
  · split at h
    · rename_i hx
      cases h
      rw [Bool.and_eq_true, Bool.and_eq_true] at hx
      have ex := eq_of_beq hx.1.1
      obtain ⟨g1, g2⟩ := c.gl hx.1.2
      have hb := c.blt _ hx.2
      subst ex
      rw [List.all_cons, List.all_cons, Bool.and_eq_true, Bool.and_eq_true] at hst
      exact di_range2 g1 hb ((starEach_plain hst.1).trans (by rw [starEach_plain hst.2.1]; rfl)) (starEach_plain hst.2.1) hd
    · cases h
  · split at h
    · rename_i hx
      cases h
      rw [Bool.and_eq_true, Bool.and_eq_true] at hx
      have ex := eq_of_beq hx.1.1
      obtain ⟨g1, g2⟩ := c.gl hx.1.2
      have hb := c.blt _ hx.2
      subst ex
      rw [List.all_cons, Bool.and_eq_true] at hst
      obtain ⟨es, kk, p, et⟩ := ht (.inl rfl)
      rw [et]
      exact di_enum g1 hb (starEach_plain hst.1) hd
    · cases h
  · split at h
    · rename_i hx
      cases h
      rw [Bool.and_eq_true, Bool.and_eq_true] at hx
      have ex := eq_of_beq hx.1.1
      obtain ⟨g1, g2⟩ := c.gl hx.1.2
      have hb := c.blt _ hx.2
      subst ex
      rw [List.all_cons, List.all_cons, Bool.and_eq_true, Bool.and_eq_true] at hst
      obtain ⟨es, kk, p, et⟩ := ht (.inr rfl)
      rw [et]
      exact di_zip g1 hb (starEach_plain hst.1) (starEach_any (by rw [List.all_cons, hst.2.1]; rfl)) hd
    · cases h
  · cases h
end
end MM
end
section
set_option Elab.async false
set_option linter.all false
set_option maxRecDepth 100000
set_option maxHeartbeats 8000000
/-! What the check means: comprehensions, slices, keywords. -/
namespace MM
open PySem PySem.Spec PyProof.Rows L2 NdefX
variable [Lams]
section
variable {T : List (Addr × Str)} {g : GE} {k : Nat} {X : Cx} {W : WX} {C : CC} {a b c : Tm} {e : Expr} {obs : List Ob} {l : List Tm}
theorem tupT_ok {ik : Ik} {t : Expr} (h : tupT ik t = true) : ik = .enumerate ∨ ik = .zip → ∃ es kk p, t = .Tuple es kk p := by
  rintro (z | z) <;> subst z <;> cases t <;> first | exact ⟨_, _, _, rfl⟩ | cases h
theorem fold_ok {e : Expr} (h : notSet e = true) (env : Env) (x : Value) : foldedSetIterable e env x = pure x := by
  cases e <;> first | rfl | cases h
theorem loc_blk {scope : Scope} {env : Env} {x : Str} (h : locB scope x = true) : Loc (relabel scope env) x := by
  unfold locB at h
  rw [Bool.or_eq_true, decide_eq_true_eq, decide_eq_true_eq] at h
  rcases h with h | h
  · exact .inl (lookup_relS_keep (by decide) h)
  · exact .inr (lookup_relS_keep (by decide) h)
theorem own_snd {N : List Str} (own : List Nat) : (own.map fun i => (N.getD i Str.empty, i)).map (·.2) = own := by
  rw [List.map_map]
  induction own with
  | nil => rfl
  | cons a l ih => rw [List.map_cons, ih]; rfl
theorem comp_pieces {tg : List Nat} {ik : Ik} {it : List Tm} {cn : Tm} {own : List Nat} {t' i' : Expr} {ifs : List Expr} {scope : Scope} {hs : List Expr} (c : CtxOk T X W g k C) (il : IHs T X W g C it) (i1 : ∀ t r, it = t :: r → IH T X W g C t)
    (ic : ∀ {Y : Cx} {C' : CC}, CtxOk T Y W0 g k C' → IT T Y W0 g C' cn)
    (etup : tupT ik t' = true) (eset : notSet i' = true) (eloc : (tgNames t').all (locB scope) = true) (etg : tgSlots C.N t' = some tg) (eown : (tg.all fun i => own.contains i) = true) (eblk : blkC C.N C.sc scope (own.map fun i => (C.N.getD i Str.empty, i)) = true)
    (h2 : iterHead C ik i' = some hs) (h3 : chks C it hs = some obs) (h4 : (match ifs with
        | [] => (match cn with
          | .cbl true => some []
          | _ => none)
        | [c'] => do gd (tstB c'); chk { C with sc := relS scope C.sc, lam := false } cn c'
        | _ => none) = some []) (ho : ∀ o ∈ obs, ObOk T X o) : ∃ (ow : List (Str × Nat)), ow.map (·.2) = own ∧ DI T X W t' i' (fun δ S => (evs g it δ S).bind fun its S => iterK ik its S) ∧ BlkOk X.N X.env.scope scope ow ∧
      (∀ (s : Shared) (H : Hp) (Ca : Addr) (cl : List (Str × Addr)) (fp : List Addr), PG (X.blk s H scope (compEnvC scope cl Ca X.env) fp) t' (gB X.K tg)) ∧ (∀ i ∈ tg, i ∈ ow.map (·.2)) ∧
      (∀ (s : Shared) (H : Hp) (Ca : Addr) (cl : List (Str × Addr)) (fp : List Addr), PTs (X.blk s H scope (compEnvC scope cl Ca X.env) fp) ifs (embT0 T X.K X.mg (ev g cn))) ∧ (∀ x, foldedSetIterable i' X.env x = pure x) := by
  have hst := chks_star h3
  have hd := il _ _ h3 ho
  have di := iter_ok (tg := t') c h2 (tupT_ok etup) hd hst (fun e0 _ he => by
    subst he
    cases it with
    | nil =>
      unfold chks at h3
      cases h3
    | cons t r =>
      cases r with
      | nil =>
        refine ⟨ev g t, ?_, fun δ S => ?_⟩
        · unfold chks at h3
          obtain ⟨_, q1, h3⟩ := bnd h3
          obtain ⟨x1, q2, h3⟩ := bnd h3
          obtain ⟨y1, q3, h3⟩ := bnd h3
          cases h3
          exact i1 t [] rfl _ _ q2 (obs_l ho)
        · rw [evs_cons (g := g) (r := []) (t := t) (fun z hz => by
            unfold chks at h3
            obtain ⟨_, q1, h3⟩ := bnd h3
            obtain ⟨x1, q2, h3⟩ := bnd h3
            rw [hz] at q2
            unfold chk at q2
            cases q2)]
          rfl
      | cons t2 r2 =>
        unfold chks at h3
        obtain ⟨_, q1, h3⟩ := bnd h3
        obtain ⟨x1, q2, h3⟩ := bnd h3
        obtain ⟨y1, q3, h3⟩ := bnd h3
        unfold chks at q3
        cases q3)
  have ok : BlkOk X.N X.env.scope scope (own.map fun i => (C.N.getD i Str.empty, i)) := by
    rw [c.N_, c.sc_]
    exact blkOk_by eblk
  have hobs : ∀ {Y : Cx}, ∀ o ∈ ([] : List Ob), ObOk T Y o := fun {Y} o z => nomatch z
  have hpg : ∀ (s : Shared) (H : Hp) (Ca : Addr) (cl : List (Str × Addr)) (fp : List Addr), PG (X.blk s H scope (compEnvC scope cl Ca X.env) fp) t' (gB X.K tg) := fun s H Ca cl fp => by
    refine pg_of (Y := X.blk s H scope (compEnvC scope cl Ca X.env) fp) c.calm c.nd (by show tgSlots X.N t' = _; rw [c.N_]; exact etg) fun x hx => ?_
    have hx' := List.all_eq_true.mp eloc x hx
    refine ⟨loc_blk hx', ?_⟩
    unfold locB at hx'
    rw [Bool.or_eq_true, decide_eq_true_eq, decide_eq_true_eq] at hx'
    rcases hx' with q | q
    · exact .inr (lookup_relS_keep (by decide) q)
    · refine .inl ?_
      show (scope.names.lookup x == some .cell) = true
      rw [q]
      rfl
  have hin : ∀ i ∈ tg, i ∈ (own.map fun i => (C.N.getD i Str.empty, i)).map (·.2) := fun i hi => by
    rw [own_snd]
    have := List.all_eq_true.mp eown i hi
    simpa using this
  have hcond : ∀ (s : Shared) (H : Hp) (Ca : Addr) (cl : List (Str × Addr)) (fp : List Addr), PTs (X.blk s H scope (compEnvC scope cl Ca X.env) fp) ifs (embT0 T X.K X.mg (ev g cn)) := fun s H Ca cl fp => by
    cases ifs with
    | nil =>
      dsimp only at h4
      split at h4
      · refine ⟨fun pins s' σ H' Q I hw => pts_nil.run pins s' σ H' Q I ?_⟩
        obtain ⟨ρ, δ, S, w, q⟩ := hw
        obtain ⟨_, q⟩ := q
        obtain ⟨b, e1, e2⟩ := q (.bl true) H' ρ Le.rfl' w rfl
        cases e1
        exact e2
      · cases h4
    | cons c1 r =>
      cases r with
      | nil =>
        dsimp only at h4
        obtain ⟨_, q1, q2⟩ := bnd h4
        exact pts_one (pt0 (ic (c.blk scope s H Ca cl fp) _ _ (gd_ok q1) q2 hobs))
      | cons _ _ => cases h4
  exact ⟨_, own_snd own, di, ok, hpg, hin, hcond, fun x => fold_ok eset X.env x⟩
theorem chk_lcP {m : Bool} {tg : List Nat} {ik : Ik} {it : List Tm} {cn el : Tm} {own : List Nat} (c : CtxOk T X W g k C) (il : IHs T X W g C it) (i1 : ∀ t r, it = t :: r → IH T X W g C t)
    (ic : ∀ {Y : Cx} {C' : CC}, CtxOk T Y W0 g k C' → IT T Y W0 g C' cn) (ie : ∀ {Y : Cx} {C' : CC}, CtxOk T Y W0 g k C' → IH T Y W0 g C' el)
    (h : chk C (.lc m tg ik it cn el own) e = some obs) (ho : ∀ o ∈ obs, ObOk T X o) : ∃ (el' t' i' : Expr) (ifs : List Expr) (scope : Scope) (p : Pos) (ow : List (Str × Nat)), e = .ListComp el' [⟨t', i', ifs, 0⟩] scope p ∧ ow.map (·.2) = own ∧ DI T X W t' i' (fun δ S => (evs g it δ S).bind fun its S => iterK ik its S) ∧ BlkOk X.N X.env.scope scope ow ∧
      (∀ (s : Shared) (H : Hp) (Ca : Addr) (cl : List (Str × Addr)) (fp : List Addr), PG (X.blk s H scope (compEnvC scope cl Ca X.env) fp) t' (gB X.K tg)) ∧ (∀ i ∈ tg, i ∈ ow.map (·.2)) ∧
      (∀ (s : Shared) (H : Hp) (Ca : Addr) (cl : List (Str × Addr)) (fp : List Addr), PTs (X.blk s H scope (compEnvC scope cl Ca X.env) fp) ifs (embT0 T X.K X.mg (ev g cn))) ∧
      (∀ (s : Shared) (H : Hp) (Ca : Addr) (cl : List (Str × Addr)) (fp : List Addr), DE T (X.blk s H scope (compEnvC scope cl Ca X.env) fp) W0 el' (ev g el)) ∧ (∀ x, foldedSetIterable i' X.env x = pure x) := by
  unfold chk at h
  split at h
  · rename_i el' t' i' ifs aa scope p
    obtain ⟨_, h1, h⟩ := bnd h
    obtain ⟨hs, h2, h⟩ := bnd h
    obtain ⟨x, h3, h⟩ := bnd h
    obtain ⟨y, h4, h⟩ := bnd h
    obtain ⟨z, h5, h⟩ := bnd h
    obtain ⟨_, h6, h⟩ := bnd h
    cases h
    have h1 := gd_ok h1
    rw [Bool.and_eq_true, Bool.and_eq_true, Bool.and_eq_true, Bool.and_eq_true, Bool.and_eq_true, Bool.and_eq_true, decide_eq_true_eq] at h1
    obtain ⟨⟨⟨⟨⟨⟨ea, etup⟩, eset⟩, eloc⟩, etg⟩, eown⟩, eblk⟩ := h1
    have ea := eq_of_beq ea
    subst ea
    have h6 := gd_ok h6
    rw [Bool.and_eq_true] at h6
    have hy : y = [] := by simpa using h6.1
    have hz : z = [] := by simpa using h6.2
    subst hy
    subst hz
    obtain ⟨ow, q1, q2, q3, q4, q5, q6, q7⟩ := comp_pieces c il i1 ic etup eset eloc etg eown eblk h2 h3 h4 ho
    exact ⟨el', t', i', ifs, scope, p, ow, rfl, q1, q2, q3, q4, q5, q6, (fun s H Ca cl fp => ie (c.blk scope s H Ca cl fp) _ _ h5 fun o z => nomatch z), q7⟩
  · cases h
theorem chk_lc {m : Bool} {tg : List Nat} {ik : Ik} {it : List Tm} {cn el : Tm} {own : List Nat} (c : CtxOk T X W g k C) (il : IHs T X W g C it) (i1 : ∀ t r, it = t :: r → IH T X W g C t)
    (ic : ∀ {Y : Cx} {C' : CC}, CtxOk T Y W0 g k C' → IT T Y W0 g C' cn) (ie : ∀ {Y : Cx} {C' : CC}, CtxOk T Y W0 g k C' → IH T Y W0 g C' el)
    (h : chk C (.lc m tg ik it cn el own) e = some obs) (ho : ∀ o ∈ obs, ObOk T X o) : DE T X W e (ev g (.lc m tg ik it cn el own)) := by
  obtain ⟨el', t', i', ifs, scope, p, ow, rfl, how, di, ok, hpg, hin, hcond, he, hs⟩ := chk_lcP c il i1 ic ie h ho
  refine de_congr (de_lc (m := m) (pos := p) c.calm c.nd di ok hpg hin hcond he hs) fun δ S => ?_
  rw [how]
  show _ = (evs g it δ S).bind fun its S => (iterK ik its S).bind fun I S => _
  generalize evs g it δ S = zz
  cases zz with
  | ok _ _ => rfl
  | exc _ _ _ _ => rfl
  | bad => rfl
theorem lc_of {t : Tm} {el' : Expr} {gens : List Comprehension} {scope : Scope} {p : Pos} (h : chk C t (.ListComp el' gens scope p) = some obs) : ∃ m tg ik it cn el own, t = .lc m tg ik it cn el own := by
  cases t <;> first | exact ⟨_, _, _, _, _, _, _, rfl⟩ | (unfold chk at h; cases h)
end
end MM
end
section
set_option Elab.async false
set_option linter.all false
set_option maxRecDepth 100000
set_option maxHeartbeats 8000000
/-! What the check means: the whole. -/
namespace MM
open PySem PySem.Spec PyProof.Rows L2 NdefX
variable [Lams]
section
variable {T : List (Addr × Str)} {g : GE} {k : Nat} {X : Cx} {W : WX} {C : CC} {a b c : Tm} {e : Expr} {obs : List Ob} {l : List Tm}
abbrev fPt (g : GE) (t : Tm) : En → Store → Res (Option Int) := fun δ S => if t.isCnon then .ok none S else (ev g t δ S).bind partD
theorem opt_ok {lo : Tm} {lo' : Option Expr} {y : List Ob} (ib : IH T X W g C lo) (h : (match lo' with
        | none => do gd lo.isCnon; pure []
        | some l => do gd (!lo.isCnon); chk C lo l) = some y) (ho : ∀ o ∈ y, ObOk T X o) : DO T X W lo' (fPt g lo) := by
  cases lo' with
  | none =>
    obtain ⟨_, q1, q2⟩ := bnd h
    have : fPt g lo = fNoP := by
      funext δ S
      unfold fPt
      rw [gd_ok q1, if_pos rfl]
    rw [this]
    exact do_none
  | some l =>
    obtain ⟨_, q1, q2⟩ := bnd h
    have hq := (Bool.not_eq_true' _).mp (gd_ok q1)
    have : fPt g lo = fPart (ev g lo) := by
      funext δ S
      unfold fPt
      rw [hq, if_neg Bool.false_ne_true]
    rw [this]
    exact do_some (ib _ _ q2 ho)
theorem chk_sl {lo hi : Tm} (ia : IH T X W g C a) (il : IH T X W g C lo) (ih : IH T X W g C hi) (h : chk C (.sl a lo hi) e = some obs) (ho : ∀ o ∈ obs, ObOk T X o) : DE T X W e (ev g (.sl a lo hi)) := by
  unfold chk at h
  split at h
  · obtain ⟨x, h2, h⟩ := bnd h
    obtain ⟨y, h3, h⟩ := bnd h
    obtain ⟨z, h4, h⟩ := bnd h
    cases h
    exact de_congr (de_sl (ia _ _ h2 (obs_l ho)) (opt_ok il h3 (obs_l (obs_r ho))) (opt_ok ih h4 (obs_r (obs_r ho)))) fun δ S => rfl
  · cases h
abbrev slF (g : GE) (a lo hi : Tm) : En → Store → Res D := fun δ S => (ev g a δ S).bind fun x S => (if lo.isCnon then .ok none S else (ev g lo δ S).bind partD).bind fun l S => (if hi.isCnon then .ok none S else (ev g hi δ S).bind partD).bind fun h S => opSlp S x l h
theorem chk_dc {tg : List Nat} {ik : Ik} {it : List Tm} {cn ka klo khi v : Tm} {own : List Nat} (c : CtxOk T X W g k C) (il : IHs T X W g C it) (i1 : ∀ t r, it = t :: r → IH T X W g C t)
    (ic : ∀ {Y : Cx} {C' : CC}, CtxOk T Y W0 g k C' → IT T Y W0 g C' cn) (ia : ∀ {Y : Cx} {C' : CC}, CtxOk T Y W0 g k C' → IH T Y W0 g C' ka) (ilo : ∀ {Y : Cx} {C' : CC}, CtxOk T Y W0 g k C' → IH T Y W0 g C' klo)
    (ihi : ∀ {Y : Cx} {C' : CC}, CtxOk T Y W0 g k C' → IH T Y W0 g C' khi) (iv : ∀ {Y : Cx} {C' : CC}, CtxOk T Y W0 g k C' → IH T Y W0 g C' v)
    (h : chk C (.dcp tg ik it cn ka klo khi v own) e = some obs) (ho : ∀ o ∈ obs, ObOk T X o) :
    ∃ (kx vx t' i' : Expr) (ifs : List Expr) (scope : Scope) (p : Pos) (ow : List (Str × Nat)), e = .DictComp kx vx [⟨t', i', ifs, 0⟩] scope p ∧ ow.map (·.2) = own ∧ DI T X W t' i' (fun δ S => (evs g it δ S).bind fun its S => iterK ik its S) ∧ BlkOk X.N X.env.scope scope ow ∧
      (BlkP X scope fun Y => PG Y t' (gB X.K tg)) ∧ (∀ i ∈ tg, i ∈ ow.map (·.2)) ∧ (BlkP X scope fun Y => PTs Y ifs (embT0 T X.K X.mg (ev g cn))) ∧ (BlkP X scope fun Y => PE Y kx (embK0 T X.K X.mg (slF g ka klo khi))) ∧ (BlkP X scope fun Y => DE T Y W0 vx (ev g v)) ∧ (∀ x, foldedSetIterable i' X.env x = pure x) := by
  unfold chk at h
  split at h
  · rename_i kx vx t' i' ifs aa scope p
    obtain ⟨_, h1, h⟩ := bnd h
    obtain ⟨hs, h2, h⟩ := bnd h
    obtain ⟨x, h3, h⟩ := bnd h
    obtain ⟨y, h4, h⟩ := bnd h
    obtain ⟨z, h5, h⟩ := bnd h
    obtain ⟨u, h6, h⟩ := bnd h
    obtain ⟨_, h7, h⟩ := bnd h
    cases h
    have h1 := gd_ok h1
    rw [Bool.and_eq_true, Bool.and_eq_true, Bool.and_eq_true, Bool.and_eq_true, Bool.and_eq_true, Bool.and_eq_true, decide_eq_true_eq] at h1
    obtain ⟨⟨⟨⟨⟨⟨ea, etup⟩, eset⟩, eloc⟩, etg⟩, eown⟩, eblk⟩ := h1
    have ea := eq_of_beq ea
    subst ea
    have h7 := gd_ok h7
    rw [Bool.and_eq_true, Bool.and_eq_true] at h7
    have hy : y = [] := by simpa using h7.1
    have hz : z = [] := by simpa using h7.2.1
    have hu : u = [] := by simpa using h7.2.2
    subst hy hz hu
    obtain ⟨ow, q1, q2, q3, q4, q5, q6, q7⟩ := comp_pieces c il i1 ic etup eset eloc etg eown eblk h2 h3 h4 ho
    have hobs : ∀ {Y : Cx}, ∀ o ∈ ([] : List Ob), ObOk T Y o := fun {Y} o z => nomatch z
    refine ⟨kx, vx, t', i', ifs, scope, p, ow, rfl, q1, q2, q3, q4, q5, q6, fun s H Ca cl fp => ?_, fun s H Ca cl fp => iv (c.blk scope s H Ca cl fp) _ _ h6 hobs, q7⟩
    split at h5
    · obtain ⟨x5, k2, h5⟩ := bnd h5
      obtain ⟨y5, k3, h5⟩ := bnd h5
      obtain ⟨z5, k4, h5⟩ := bnd h5
      have e5 : x5 ++ (y5 ++ z5) = [] := Option.some.inj h5
      obtain ⟨f1, f2⟩ := List.append_eq_nil_iff.mp e5
      obtain ⟨f2, f3⟩ := List.append_eq_nil_iff.mp f2
      subst f1 f2 f3
      have cb := c.blk scope s H Ca cl fp
      exact pe_slpK (ia cb _ _ k2 hobs) (opt_ok (ilo cb) k3 hobs) (opt_ok (ihi cb) k4 hobs)
    · cases h5
  · cases h
abbrev IHk (T : List (Addr × Str)) (X : Cx) (W : WX) (g : GE) (C : CC) (ts : List Tm) : Prop := ∀ kws obs, chks C ts (kws.map (·.value)) = some obs → (∀ o ∈ obs, ObOk T X o) → DK T X W kws (evs g ts)
theorem dk_congr {e : List Keyword} {f f' : En → Store → Res (List D)} (h : DK T X W e f) (q : ∀ δ S, f δ S = f' δ S) : DK T X W e f' := by
  have : f = f' := funext fun δ => funext fun S => q δ S
  rw [← this]
  exact h
theorem chkk_nil {kws : List Keyword} (h : chks C [] (kws.map (·.value)) = some obs) : DK T X W kws (evs g []) := by
  cases kws with
  | nil => exact dk_congr dk_nil fun δ S => rfl
  | cons kw r =>
    unfold chks at h
    cases h
theorem chkk_cons {t : Tm} {r : List Tm} {kws : List Keyword} (it : IH T X W g C t) (ir : IHk T X W g C r) (h : chks C (t :: r) (kws.map (·.value)) = some obs) (ho : ∀ o ∈ obs, ObOk T X o) : DK T X W kws (evs g (t :: r)) := by
  cases kws with
  | nil =>
    unfold chks at h
    cases h
  | cons kw kws =>
    unfold chks at h
    rw [List.map_cons] at h
    obtain ⟨_, h1, h⟩ := bnd h
    obtain ⟨x, h2, h⟩ := bnd h
    obtain ⟨y, h3, h⟩ := bnd h
    cases h
    obtain ⟨nm, ex, kp⟩ := kw
    refine dk_congr (dk_cons (it _ _ h2 (obs_l ho)) (ir _ _ h3 (obs_r ho))) fun δ S => (evs_cons (fun z hz => ?_) δ S).symm
    rw [hz] at h2
    unfold chk at h2
    cases h2
theorem kw_fm {kws : List Keyword} {ks : List Str} {env : Env} {pos : Pos} (h : kws.map (·.arg) = ks.map some) : (backToKw pos (keywordEach kws env)).all (·.1.isSome) = true ∧ (backToKw pos (keywordEach kws env)).filterMap (·.1) = ks ∧ (backToKw pos (keywordEach kws env)).any (·.1.isNone) = false := by
  induction kws generalizing ks with
  | nil =>
    have : ks = [] := List.map_eq_nil_iff.mp h.symm
    rw [this]
    exact ⟨rfl, rfl, rfl⟩
  | cons kw kws ih =>
    cases ks with
    | nil => cases h
    | cons y ks =>
      rw [List.map_cons, List.map_cons] at h
      injection h with h1 h2
      obtain ⟨i1, i2, i3⟩ := ih h2
      obtain ⟨nm, ex, kp⟩ := kw
      have h1 : nm = some y := h1
      subst h1
      refine ⟨?_, ?_, ?_⟩
      · show (true && (backToKw pos (keywordEach kws env)).all (·.1.isSome)) = true
        rw [i1]
        rfl
      · show y :: (backToKw pos (keywordEach kws env)).filterMap (·.1) = y :: ks
        rw [i2]
      · show (false || (backToKw pos (keywordEach kws env)).any (·.1.isNone)) = false
        rw [i3]
        rfl
theorem chk_kcl {f : Str} {ps ks : List Str} (c : CtxOk T X W g k C) (il : IHk T X W g C l) (h : chk C (.kcl f ps ks l) e = some obs) (ho : ∀ o ∈ obs, ObOk T X o) : DE T X W e (ev g (.kcl f ps ks l)) := by
  unfold chk at h
  split at h
  · rename_i x p kws pos
    obtain ⟨_, h1, hh⟩ := bnd h
    clear h
    have h1 := gd_ok h1
    rw [Bool.and_eq_true, Bool.and_eq_true, Bool.and_eq_true, decide_eq_true_eq, decide_eq_true_eq] at h1
    obtain ⟨⟨⟨e1, e2⟩, e3⟩, e4⟩ := h1
    obtain ⟨g1, g2⟩ := c.gl e2
    subst e1
    obtain ⟨k1, k2, k3⟩ := kw_fm (env := X.env) (pos := pos) e4
    exact de_congr (de_kcl c.takes (c.room.mono (Nat.le_succ k)) (c.kws _ _ _ e3) g1 g2 k1 k2 (by rw [k3]; rfl) (il _ _ hh ho)) fun δ S => rfl
  · cases h
theorem dt_of_de {t : Tm} (h : DE T X W e (ev g t)) (hv : valB e = true) : DT T X W e (ev g t) := dt_val h fun whole => isTrue_of hv X.env whole
end
end MM
end
section
set_option Elab.async false
set_option linter.all false
set_option maxRecDepth 100000
set_option maxHeartbeats 8000000
/-! What the check means: all terms. -/
namespace MM
open PySem PySem.Spec PyProof.Rows L2 NdefX
variable [Lams]
section
variable {T : List (Addr × Str)} {g : GE} {k : Nat} {X : Cx} {W : WX} {C : CC} {a b c : Tm} {e : Expr} {obs : List Ob} {l : List Tm}
def tk : Tm → Bool
  | .not _ => false | .and _ _ => false | .or _ _ => false | .cmp _ _ _ => false | .chn _ _ _ _ _ => false | .oeq _ _ _ => false | .ite _ _ _ => false | .kin _ _ _ => false
  | _ => true
theorem val_of {t : Tm} (h : chk C t e = some obs) (ht : tk t = true) : valB e = true := by
  cases t <;> first | cases ht | skip
  all_goals (unfold chk at h; first | (cases h; done) | (split at h <;> first | rfl | cases h))
theorem dt_kin {ng : Bool} {x : Str} {p pos : Pos} {ea : Expr} {f : En → Store → Res D} (ok : KdOk X.K X.w X.mg g) (hk : ∃ kvs, g.kd x = some kvs) (hg : Gl X x) (hd : (x == ("__debug__" : Str)) = false) (ha : DE T X W ea f) :
    DT T X W (.Compare ea [if ng then .NotIn else .In] [.Name x p] pos) (fun δ S => (f δ S).bind fun y S => match g.kd x, y with
      | some kvs, .str z => .ok (.bl (ng != (kvs.lookup z).isSome)) S
      | _, _ => .bad) := by
  obtain ⟨kvs, hk⟩ := hk
  obtain ⟨d, es, n, hm, D, hz⟩ := ok.ex x kvs hk
  have hb : PE X (.Name x p) (tC (.ref d)) := pe_glob (v := .ref d) hg hm rfl hd
  rw [hk]
  cases ng with
  | false =>
    refine PT_weak (pt_cmpR (op_in_kd D) ha hb rfl) ?_
    rintro σ H Q ⟨ρ, δ, S, w, h⟩
    refine ⟨ρ, δ, S, w, emb_bind h fun v H1 ρ1 dv S1 l1 w1 r1 h1 => ?_⟩
    cases dv with
    | str z =>
      obtain ⟨r, e1, e2, _⟩ := hz z
      exact ⟨z, r, r1, rfl, e1, fin h1 w1 (by rw [e2]; simp [RD])⟩
    | _ => exact h1.elim
  | true =>
    refine PT_weak (pt_cmpR (op_notIn_kd D) ha hb rfl) ?_
    rintro σ H Q ⟨ρ, δ, S, w, h⟩
    refine ⟨ρ, δ, S, w, emb_bind h fun v H1 ρ1 dv S1 l1 w1 r1 h1 => ?_⟩
    cases dv with
    | str z =>
      obtain ⟨r, e1, e2, _⟩ := hz z
      exact ⟨z, r, r1, rfl, e1, fin h1 w1 (by rw [e2]; simp [RD])⟩
    | _ => exact h1.elim
theorem chk_kinT {ng : Bool} {x : Str} (c : CtxOk T X W g k C) (ia : IH T X W g C a) (h : chk C (.kin ng x a) e = some obs) (ho : ∀ o ∈ obs, ObOk T X o) : DT T X W e (ev g (.kin ng x a)) := by
  unfold chk at h
  split at h
  · obtain ⟨_, h1, hh⟩ := bnd h
    clear h
    have h1 := gd_ok h1
    rw [Bool.and_eq_true, Bool.and_eq_true, Bool.and_eq_true, decide_eq_true_eq, decide_eq_true_eq] at h1
    obtain ⟨⟨⟨e1, e2⟩, e3⟩, e4⟩ := h1
    obtain ⟨g1, g2⟩ := c.gl e2
    subst e1
    subst e3
    exact dt_congr (dt_kin c.kd (c.kds _ e4) g1 g2 (ia _ _ hh ho)) fun δ S => rfl
  · cases h
/-- what the check gives -/
structure All (T : List (Addr × Str)) (X : Cx) (W : WX) (g : GE) (C : CC) (t : Tm) : Prop where
  de : IH T X W g C t
  dt : IT T X W g C t
  dw : ∀ op vs pos obs, chk C t (.BoolOp op vs pos) = some obs → (∀ o ∈ obs, ObOk T X o) → DW T X W (.BoolOp op vs pos) (ev g t)
theorem All.of {t : Tm} (ht : tk t = true) (h : IH T X W g C t) : All T X W g C t :=
  ⟨h, fun e obs _ hc ho => dt_of_de (h e obs hc ho) (val_of hc ht), fun op vs pos obs hc ho => absurd (val_of hc ht) Bool.false_ne_true⟩
structure AllS (T : List (Addr × Str)) (X : Cx) (W : WX) (g : GE) (C : CC) (ts : List Tm) : Prop where
  da : IHs T X W g C ts
  dk : IHk T X W g C ts
  dj : IHF T X W g C ts
  hd : ∀ t r, ts = t :: r → IH T X W g C t
/-- no comparison, no 'not' is a BoolOp -/
theorem nobool {t : Tm} {op : BoolOp} {vs : List Expr} {pos : Pos} (hn : (match t with | .and _ _ => false | .or _ _ => false | _ => true) = true) (h : chk C t (.BoolOp op vs pos) = some obs) : False := by
  cases t <;> first | (cases hn; done) | (unfold chk at h; cases h)
theorem ite_not {d : Tm} (ht : tstB e = true) (h : chk C (.ite d a b) e = some obs) : False := by
  unfold chk at h
  split at h
  · cases ht
  · cases h
theorem dc_shape {tg own : List Nat} {ik : Ik} {it : List Tm} {cn ka lo hi v : Tm} {δ : En} {S : Store} : (((evs g it δ S).bind fun its S => iterK ik its S).bind fun I S => (dcLoop I.c (stepD toKeys tg (wipeC (wipeE δ own)) (ev g cn) (slF g ka lo hi) (ev g v)) I.l S [] []).bind fun r S => .ok (.dct r.1 r.2) S) = ev g (.dcp tg ik it cn ka lo hi v own) δ S := by
  show _ = (evs g it δ S).bind fun its S => (iterK ik its S).bind fun I S => _
  generalize evs g it δ S = zz
  cases zz with
  | ok _ _ => rfl
  | exc _ _ _ _ => rfl
  | bad => rfl
mutual
theorem chk_all : ∀ (t : Tm) {X : Cx} {W : WX} {C : CC}, CtxOk T X W g k C → All T X W g C t
  | .var i, X, W, C, c => .of rfl fun e obs h ho => chk_var c h
  | .cint i, X, W, C, c => .of rfl fun e obs h ho => chk_cint h
  | .cbl i, X, W, C, c => .of rfl fun e obs h ho => chk_cbl h
  | .cnon, X, W, C, c => .of rfl fun e obs h ho => chk_cnon h
  | .cstr i, X, W, C, c => .of rfl fun e obs h ho => chk_cstr h
  | .glb y, X, W, C, c => .of rfl fun e obs h ho => chk_glb c h
  | .typ n, X, W, C, c => .of rfl fun e obs h ho => chk_typ c h
  | .bin op a b, X, W, C, c => .of rfl fun e obs h ho => chk_bin (chk_all a c).de (chk_all b c).de h ho
  | .neg a, X, W, C, c => .of rfl fun e obs h ho => chk_neg (chk_all a c).de h ho
  | .not a, X, W, C, c => ⟨fun e obs h ho => (chk_not (chk_all a c).de (chk_all a c).dt h ho).1, fun e obs _ h ho => (chk_not (chk_all a c).de (chk_all a c).dt h ho).2, fun op vs pos obs h ho => (nobool rfl h).elim⟩
  | .and a b, X, W, C, c =>
    have A := chk_all a c
    have B := chk_all b c
    ⟨fun e obs h ho => (chk_and A.de B.de A.dt B.dt (fun y z r pos obs h ho => B.dw _ _ _ _ h ho) h ho).1, fun e obs _ h ho => (chk_and A.de B.de A.dt B.dt (fun y z r pos obs h ho => B.dw _ _ _ _ h ho) h ho).2.pt,
      fun op vs pos obs h ho => (chk_and A.de B.de A.dt B.dt (fun y z r pos obs h ho => B.dw _ _ _ _ h ho) h ho).2⟩
  | .or a b, X, W, C, c =>
    have A := chk_all a c
    have B := chk_all b c
    ⟨fun e obs h ho => (chk_or A.de B.de A.dt B.dt (fun y z r pos obs h ho => B.dw _ _ _ _ h ho) h ho).1, fun e obs _ h ho => (chk_or A.de B.de A.dt B.dt (fun y z r pos obs h ho => B.dw _ _ _ _ h ho) h ho).2.pt,
      fun op vs pos obs h ho => (chk_or A.de B.de A.dt B.dt (fun y z r pos obs h ho => B.dw _ _ _ _ h ho) h ho).2⟩
  | .cmp op a b, X, W, C, c => ⟨fun e obs h ho => (chk_cmp c (chk_all a c).de (chk_all b c).de h ho).1, fun e obs _ h ho => (chk_cmp c (chk_all a c).de (chk_all b c).de h ho).2, fun op vs pos obs h ho => (nobool rfl h).elim⟩
  | .chn o1 o2 a b d, X, W, C, c => ⟨fun e obs h ho => (chk_chn c (chk_all a c).de (chk_all b c).de (chk_all d c).de h ho).1, fun e obs _ h ho => (chk_chn c (chk_all a c).de (chk_all b c).de (chk_all d c).de h ho).2, fun op vs pos obs h ho => (nobool rfl h).elim⟩
  | .oeq ng a b, X, W, C, c => ⟨fun e obs h ho => (chk_oeq c (chk_all a c).de (chk_all b c).de h ho).1, fun e obs _ h ho => (chk_oeq c (chk_all a c).de (chk_all b c).de h ho).2, fun op vs pos obs h ho => (nobool rfl h).elim⟩
  | .ite d a b, X, W, C, c => ⟨fun e obs h ho => chk_ite (chk_all d c).dt (chk_all a c).de (chk_all b c).de h ho, fun e obs ht h ho => (ite_not ht h).elim, fun op vs pos obs h ho => (nobool (t := .ite d a b) rfl h).elim⟩
  | .star a, X, W, C, c => .of rfl fun e obs h ho => by unfold chk at h; cases h
  | .tup l, X, W, C, c => .of rfl fun e obs h ho => chk_tup (chks_all l c).da h ho
  | .lst m l, X, W, C, c => .of rfl fun e obs h ho => chk_lst (chks_all l c).da h ho
  | .ix a i, X, W, C, c => .of rfl fun e obs h ho => chk_ix (chk_all a c).de (chk_all i c).de h ho
  | .sl a lo hi, X, W, C, c => .of rfl fun e obs h ho => chk_sl (chk_all a c).de (chk_all lo c).de (chk_all hi c).de h ho
  | .fld a f, X, W, C, c => .of rfl fun e obs h ho => chk_fld c (chk_all a c).de h ho
  | .call f l, X, W, C, c => .of rfl fun e obs h ho => chk_call c (chks_all l c).da h ho
  | .kcl f ps ks l, X, W, C, c => .of rfl fun e obs h ho => chk_kcl c (chks_all l c).dk h ho
  | .clv i l, X, W, C, c => .of rfl fun e obs h ho => chk_clv c (chks_all l c).da h ho
  | .blt f l, X, W, C, c => .of rfl fun e obs h ho => chk_blt c (chks_all l c).da h ho
  | .mth m o l, X, W, C, c => .of rfl fun e obs h ho => chk_mth c (chk_all o c).de (chks_all l c).da h ho
  | .omt _ _ _, X, W, C, c => .of rfl fun e obs h ho => by unfold chk at h; cases h
  | .lc m tg ik it cn el own, X, W, C, c => .of rfl fun e obs h ho => chk_lc c (chks_all it c).da (chks_all it c).hd (fun {Y C'} c' => (chk_all cn c').dt) (fun {Y C'} c' => (chk_all el c').de) h ho
  | .dcp tg ik it cn ka klo khi v own, X, W, C, c => .of rfl fun e obs h ho => by
    obtain ⟨kx, vx, t', i', ifs, scope, p, ow, rfl, how, di, ok, hpg, hin, hcond, hk, hv, hs⟩ := chk_dc c (chks_all it c).da (chks_all it c).hd (fun {Y C'} c' => (chk_all cn c').dt) (fun {Y C'} c' => (chk_all ka c').de) (fun {Y C'} c' => (chk_all klo c').de) (fun {Y C'} c' => (chk_all khi c').de) (fun {Y C'} c' => (chk_all v c').de) h ho
    refine de_congr (de_dct (pos := p) (by have := c.units; omega) c.calm c.nd di ok hpg hin hcond hk hv hs) fun δ S => ?_
    rw [how]
    exact dc_shape
  | .fst l, X, W, C, c => .of rfl fun e obs h ho => chk_fst (chks_all l c).dj h ho
  | .lam id js, X, W, C, c => .of rfl fun e obs h ho => chk_lam h ho
  | .kin ng x a, X, W, C, c => ⟨fun e obs h ho => chk_kin c (chk_all a c).de h ho, fun e obs _ h ho => chk_kinT c (chk_all a c).de h ho, fun op vs pos obs h ho => (nobool rfl h).elim⟩
  | .kget x a, X, W, C, c => .of rfl fun e obs h ho => chk_kget c (chk_all a c).de h ho
theorem chks_all : ∀ (ts : List Tm) {X : Cx} {W : WX} {C : CC}, CtxOk T X W g k C → AllS T X W g C ts
  | [], X, W, C, c => ⟨fun es obs h ho => chk_nil h, fun kws obs h ho => chkk_nil h, fun es obs h ho => chkF_nil h, fun t r e => by cases e⟩
  | t :: r, X, W, C, c =>
    have A := chk_all t c
    have B := chks_all r c
    ⟨fun es obs h ho => chk_cons A.de B.da h ho, fun kws obs h ho => chkk_cons A.de B.dk h ho, fun es obs h ho => chkF_cons A.de B.dj h ho, fun t' r' e => by
      injection e with e1 e2
      rw [← e1]
      exact A.de⟩
end
end
end MM
end
section
set_option Elab.async false
set_option linter.all false
set_option maxRecDepth 100000
set_option maxHeartbeats 8000000
/-! The check that a statement's term is the statement's. -/
namespace MM
open PySem PySem.Spec PyProof.Rows L2 NdefX
variable [Lams]
def notComp : Expr → Bool
  | .ListComp _ _ _ _ => false
  | .SetComp _ _ _ _ => false
  | .DictComp _ _ _ _ _ => false
  | _ => true
def isLc : Expr → Bool
  | .ListComp _ _ _ _ => true
  | .DictComp _ _ _ _ _ => true
  | _ => false
def notTup : Expr → Bool
  | .Tuple _ _ _ => false
  | _ => true
def chkTg (C : CC) : Tg → Expr → Option (List Ob)
  | .nam c i, e => match e with
    | .Name x _ => do gd (decide (C.N[i]? = some x) && decide (C.sc.names.lookup x = some (if c then .cell else .local))); pure []
    | _ => none
  | .sub o ix, e => match e with
    | .Subscript o' i' _ => do gd (notSl i'); let x ← chk C o o'; let y ← chk C ix i'; pure (x ++ y)
    | _ => none
def chkTgs (C : CC) : List Tg → List Expr → Option (List Ob)
  | [], es => match es with
    | [] => some []
    | _ => none
  | t :: r, es => match es with
    | e :: es => do gd (notStar e); let x ← chkTg C t e; let y ← chkTgs C r es; pure (x ++ y)
    | _ => none
def notLoc (sc : Scope) : Expr → Bool
  | .Name x _ => !decide (sc.names.lookup x = some .local)
  | _ => true
def nmOrSub : Expr → Bool
  | .Name _ _ => true
  | .Subscript _ _ _ => true
  | _ => false
mutual
def chkS (C : CC) : Sm → Stmt → Option (List Ob)
  | .set t e, st => match st with
    | .Assign [tg] v _ => do gd ((notComp v || isLc v) && nmOrSub tg); let x ← chkTg C t tg; let y ← chk C e v; pure (x ++ y)
    | _ => none
  | .unp ts e, st => match st with
    | .Assign [.Tuple es _ _] v _ => do gd (notComp v && (notTup v || es.any (notLoc C.sc))); let x ← chkTgs C ts es; let y ← chk C e v; pure (x ++ y)
    | _ => none
  | .par i j es, st => match st with
    | .Assign [.Tuple [.Name x px, .Name y py] _ _] (.Tuple [a, b] _ _) _ => do
      gd (decide (C.N[i]? = some x) && decide (C.N[j]? = some y) && decide (C.sc.names.lookup x = some .local) && decide (C.sc.names.lookup y = some .local) && !decide (x = y) && decide (py.line = px.line) && notStar a && notStar b && ![a, b].all (foldedForSure 8) && ![a, b].all (constantsAlone 8))
      chks C es [a, b]
    | _ => none
  | .fld o f e, st => match st with
    | .Assign [.Attribute o' f' _] v _ => do gd (decide (f = f') && notComp v); let x ← chk C o o'; let y ← chk C e v; pure (x ++ y)
    | _ => none
  | .ret e, st => match st with
    | .Return (some v) _ => chk C e v
    | _ => none
  | .retN, st => match st with
    | .Return none _ => some []
    | _ => none
  | .pas, st => match st with
    | .Pass _ => some []
    | .Expr (.Constant (.str _) _ _) _ => some []
    | _ => none
  | .exp e, st => match st with
    | .Expr v _ => do gd (notComp v); chk C e v
    | _ => none
  | .ite c a b, st => match st with
    | .If c' a' b' _ => do gd (tstB c'); let x ← chk C c c'; let y ← chkSs C a a'; let z ← chkSs C b b'; pure (x ++ (y ++ z))
    | _ => none
  | .whl c b, st => match st with
    | .While c' b' [] _ => do gd (tstB c'); let x ← chk C c c'; let y ← chkSs C b b'; pure (x ++ y)
    | _ => none
  | .for c tg ik it b, st => match st with
    | .For t' i' b' [] _ => do
      gd (tupT ik t' && notSet i' && (tgNames t').all (fun x => if c then locB C.sc x else decide (C.sc.names.lookup x = some .local)) && decide (tgSlots C.N t' = some tg))
      let hs ← iterHead C ik i'
      let x ← chks C it hs
      let y ← chkSs C b b'
      pure (x ++ y)
    | _ => none
  | .rse, st => match st with
    | .Raise _ _ _ => some []
    | _ => none
  | .brk, st => match st with
    | .Break _ => some []
    | _ => none
  | .cnt, st => match st with
    | .Continue _ => some []
    | _ => none
def chkSs (C : CC) : List Sm → List Stmt → Option (List Ob)
  | [], sts => match sts with
    | [] => some []
    | _ => none
  | s :: r, sts => match sts with
    | st :: sts => do let x ← chkS C s st; let y ← chkSs C r sts; pure (x ++ y)
    | _ => none
end
structure SOk (T : List (Addr × Str)) (X : Cx) (W : WX) (g : GE) (k : Nat) (C : CC) : Prop where
  c : CtxOk T X W g k C
  fn : ∀ x, X.fn x = true
  kind : X.env.scope.kind = .function
  po : PassesOwn (model X.prog X.w) X.A X.env X.xe
section
variable {T : List (Addr × Str)} {g : GE} {k : Nat} {X : Cx} {W : WX} {C : CC} {obs : List Ob}
theorem sw_none {v : Expr} (h : notComp v = true) (t : Option Expr) (l : Nat) (env : Env) : swapsWith v t l env = pure false := by
  cases v <;> first | rfl | cases h
theorem sws_none {v tg : Expr} (h : notComp v = true) (l : Nat) (env : Env) : swapsWithSole [tg] v l env = pure false := sw_none h (some tg) l env
theorem swst_none {v tg : Expr} (h : nmOrSub tg = true) (env : Env) : swappedStores [tg] v env = pure none := by
  cases tg <;> first | (cases h; done) | skip
  all_goals (cases v <;> rfl)
theorem asn_one {tg : Expr} (h : notStar tg = true) (env : Env) : (assignEach [tg] env).map (·.2) = [assign tg env] := by
  cases tg <;> first | rfl | cases h
theorem chkTg_ok {t : Tg} {e : Expr} (s : SOk T X W g k C) (h : chkTg C t e = some obs) (ho : ∀ o ∈ obs, ObOk T X o) : DG T X W e (fun d δ S => asnG g t d δ S) := by
  cases t with
  | nam c i =>
    dsimp only [chkTg] at h
    split at h
    · obtain ⟨_, h1, h⟩ := bnd h
      have h1 := gd_ok h1
      rw [Bool.and_eq_true, decide_eq_true_eq, decide_eq_true_eq] at h1
      refine dg_nam s.c.nd (by rw [s.c.N_]; exact h1.1) ?_
      rw [s.c.sc_]
      cases c with
      | true => exact ⟨h1.2, s.fn _⟩
      | false => exact h1.2
    · cases h
  | sub o ix =>
    dsimp only [chkTg] at h
    split at h
    · rename_i o' i' p
      obtain ⟨_, h1, h⟩ := bnd h
      obtain ⟨x, h2, h⟩ := bnd h
      obtain ⟨y, h3, h⟩ := bnd h
      cases h
      have hs := gd_ok h1
      exact dg_sub ((chk_all o s.c).de _ _ h2 (obs_l ho)) ((chk_all ix s.c).de _ _ h3 (obs_r ho)) (fun v => by cases i' <;> first | rfl | cases hs)
    · cases h
theorem chkTgs_ok (s : SOk T X W g k C) : ∀ {ts : List Tg} {es : List Expr} {obs : List Ob}, chkTgs C ts es = some obs → (∀ o ∈ obs, ObOk T X o) → DGs T X W es ts.length (fun ds δ S => asnGs g ts ds δ S)
  | [], es, obs, h, ho => by
    unfold chkTgs at h
    split at h
    · exact dgs_nil
    · cases h
  | t :: r, es, obs, h, ho => by
    unfold chkTgs at h
    split at h
    · rename_i e es
      obtain ⟨_, h1, h⟩ := bnd h
      obtain ⟨x, h2, h⟩ := bnd h
      obtain ⟨y, h3, h⟩ := bnd h
      cases h
      have hs := gd_ok h1
      exact dgs_cons (chkTg_ok s h2 (obs_l ho)) (chkTgs_ok s h3 (obs_r ho)) (by cases e <;> first | rfl | cases hs)
    · cases h
end
end MM
end
section
set_option Elab.async false
set_option linter.all false
set_option maxRecDepth 100000
set_option maxHeartbeats 8000000
/-! What the check of statements means. -/
namespace MM
open PySem PySem.Spec PyProof.Rows L2 NdefX
variable [Lams]
theorem swst_par {x y : Str} {a b : Expr} {px py pt pt2 : Pos} {kt k2 : Nat} {env : Env} (hk : env.scope.kind = .function) (hx : env.scope.names.lookup x = some .local) (hy : env.scope.names.lookup y = some .local) (hxy : x ≠ y) (hl : py.line = px.line) (ha : notStar a = true) (hb : notStar b = true)
    (hf : [a, b].all (foldedForSure 8) = false) (hc : [a, b].all (constantsAlone 8) = false) :
    swappedStores [.Tuple [.Name x px, .Name y py] kt pt] (.Tuple [a, b] k2 pt2) env = pure (some [x, y]) := by
  have h1 : env.blockKind = .function := by unfold Env.blockKind; rw [hk]; rfl
  have kx : env.kindOf x = some .local := hx
  have ky : env.kindOf y = some .local := hy
  have hd : ([x, y] : List Str).eraseDups.length = 2 := by
    have : (y == x) = false := by simpa using fun z => hxy z.symm
    simp [List.eraseDups_cons, this]
  unfold swappedStores
  simp only [h1, hf, hc, kx, ky, List.filterMap_cons, List.filterMap_nil, List.length_cons, List.length_nil, Expr.pos, List.head?, Option.map, Option.getD, hl]
  simp [hd, hx]
  rintro (h | h)
  · cases a <;> first | (cases ha; done) | (cases h; done)
  · cases b <;> first | (cases hb; done) | (cases h; done)
section
variable {T : List (Addr × Str)} {g : GE} {k : Nat} {X : Cx} {W : WX} {C : CC} {obs : List Ob}
theorem ds_congr {st : Stmt} {f f' : En → Store → Res Fl} (h : DS T X W st f) (q : ∀ δ S, f δ S = f' δ S) : DS T X W st f' := by
  have : f = f' := funext fun δ => funext fun S => q δ S
  rw [← this]
  exact h
theorem dss_congr {st : List Stmt} {f f' : En → Store → Res Fl} (h : DSs T X W st f) (q : ∀ δ S, f δ S = f' δ S) : DSs T X W st f' := by
  have : f = f' := funext fun δ => funext fun S => q δ S
  rw [← this]
  exact h
abbrev SH (T : List (Addr × Str)) (X : Cx) (W : WX) (g : GE) (C : CC) (s : Sm) : Prop := ∀ st obs, chkS C s st = some obs → (∀ o ∈ obs, ObOk T X o) → DS T X W st (ex g s)
abbrev SHs (T : List (Addr × Str)) (X : Cx) (W : WX) (g : GE) (C : CC) (s : List Sm) : Prop := ∀ st obs, chkSs C s st = some obs → (∀ o ∈ obs, ObOk T X o) → DSs T X W st (exs g s)
theorem nmOrSub_star {e : Expr} (h : nmOrSub e = true) : notStar e = true := by cases e <;> first | rfl | cases h
theorem sw_lc {el' : Expr} {gens : List Comprehension} {scope : Scope} {p : Pos} {tg : Expr} {l : Nat} {env : Env} (hk : env.scope.kind = .function) (hn : nmOrSub tg = true) : swapsWith (.ListComp el' gens scope p) (some tg) l env = pure false ∨
    ∃ y py, tg = .Name y py ∧ env.scope.names.lookup y = some .local ∧ swapsWith (.ListComp el' gens scope p) (some tg) l env = pure true := by
  cases tg with
  | Name y py =>
    have e : swapsWith (.ListComp el' gens scope p) (some (.Name y py)) l env = pure (env.blockKind == .function && env.kindOf y == some .local && py.line == p.line && !(scope.names.any fun (n, k) => n == y && (k == .local || k == .cell))) := rfl
    cases hb : (env.blockKind == .function && env.kindOf y == some .local && py.line == p.line && !(scope.names.any fun (n, k) => n == y && (k == .local || k == .cell))) with
    | false =>
      rw [hb] at e
      exact .inl e
    | true =>
      refine .inr ⟨y, py, rfl, ?_, by rw [hb] at e; exact e⟩
      rw [Bool.and_eq_true, Bool.and_eq_true, Bool.and_eq_true] at hb
      exact eq_of_beq hb.1.1.2
  | Subscript _ _ _ => exact .inl rfl
  | _ => cases hn
theorem sw_dc {kx vx : Expr} {gens : List Comprehension} {scope : Scope} {p : Pos} {tg : Expr} {l : Nat} {env : Env} (hk : env.scope.kind = .function) (hn : nmOrSub tg = true) : swapsWith (.DictComp kx vx gens scope p) (some tg) l env = pure false ∨
    ∃ y py, tg = .Name y py ∧ env.scope.names.lookup y = some .local ∧ swapsWith (.DictComp kx vx gens scope p) (some tg) l env = pure true := by
  cases tg with
  | Name y py =>
    have e : swapsWith (.DictComp kx vx gens scope p) (some (.Name y py)) l env = pure (env.blockKind == .function && env.kindOf y == some .local && py.line == p.line && !(scope.names.any fun (n, k) => n == y && (k == .local || k == .cell))) := rfl
    cases hb : (env.blockKind == .function && env.kindOf y == some .local && py.line == p.line && !(scope.names.any fun (n, k) => n == y && (k == .local || k == .cell))) with
    | false =>
      rw [hb] at e
      exact .inl e
    | true =>
      refine .inr ⟨y, py, rfl, ?_, by rw [hb] at e; exact e⟩
      rw [Bool.and_eq_true, Bool.and_eq_true, Bool.and_eq_true] at hb
      exact eq_of_beq hb.1.1.2
  | Subscript _ _ _ => exact .inl rfl
  | _ => cases hn
theorem dc_of {t : Tm} {kx vx : Expr} {gens : List Comprehension} {scope : Scope} {p : Pos} (h : chk C t (.DictComp kx vx gens scope p) = some obs) : ∃ tg ik it cn ka lo hi v own, t = .dcp tg ik it cn ka lo hi v own := by
  cases t <;> first | exact ⟨_, _, _, _, _, _, _, _, _, rfl⟩ | (unfold chk at h; cases h)
theorem ds_setDct {i : Nat} {y : Str} {py : Pos} {kx vx tg iter : Expr} {ifs : List Expr} {scope : Scope} {own : List (Str × Nat)} {pos spos : Pos} {gs : List Nat} {fi : En → Store → Res MM.Its} {fc fk fv : En → Store → Res MM.D} (hu : X.A.units + 1 < cLine) (hc : X.calm = true) (hN : X.N.Nodup) (hy : X.N[i]? = some y) (hyl : X.env.scope.names.lookup y = some .local)
    (hsw : swapsWith (.DictComp kx vx [⟨tg, iter, ifs, 0⟩] scope pos) (some (.Name y py)) spos.line X.env = pure true) (hi : DI T X W tg iter fi) (ok : BlkOk X.N X.env.scope scope own)
    (hg : BlkP X scope fun Y => PG Y tg (gB X.K gs)) (hgo : ∀ i ∈ gs, i ∈ own.map (·.2)) (ht : BlkP X scope fun Y => PTs Y ifs (embT0 T X.K X.mg fc)) (hk : BlkP X scope fun Y => PE Y kx (embK0 T X.K X.mg fk)) (hv : BlkP X scope fun Y => DE T Y W0 vx fv) (hs : ∀ x, foldedSetIterable iter X.env x = pure x) :
    DS T X W (.Assign [.Name y py] (.DictComp kx vx [⟨tg, iter, ifs, 0⟩] scope pos) spos) (fun δ S => ((fi δ S).bind fun I S => (dcLoop I.c (stepD toKeys gs (wipeC (wipeE δ (own.map (·.2)))) fc fk fv) I.l S [] []).bind fun r S => .ok (.dct r.1 r.2) S).bind fun d S => (asnG g (.nam false i) d δ S).bind fun δ S => .ok (.nx δ) S) := by
  refine PS_weak (ps_setDct (tv := embE0 T X.K X.mg fv) hu hc hN hy hyl hsw hi ok hg ht hk (fun s H C cl fp => pe0 (hv s H C cl fp)) hs) ?_
  rintro E σ H ⟨ρ, δ, S, w, h⟩
  refine ⟨ρ, δ, S, w, ?_⟩
  have h : GoodF T X W H ρ E (((fi δ S).bind fun I S => (dcLoop I.c (stepD toKeys gs (wipeC (wipeE δ (own.map (·.2)))) fc fk fv) I.l S [] []).bind fun r S => .ok (.dct r.1 r.2) S).bind fun d S => (asnG g (.nam false i) d δ S).bind fun δ S => .ok (.nx δ) S) := h
  have h2 : Good T X W σ H ρ δ (fun x H1 => gName i x σ H1 E.nx) ((fi δ S).bind fun I S => (dcLoop I.c (stepD toKeys gs (wipeC (wipeE δ (own.map (·.2)))) fc fk fv) I.l S [] []).bind fun r S => .ok (.dct r.1 r.2) S) :=
    s_bind h fun v H1 ρ1 d S1 l1 w1 r1 h1 => by
      have h1 : GoodF T X W H1 ρ1 E (.ok (.nx (δ.set i (some d))) S1) := h1
      exact h1 _ H1 ρ1 Le.rfl' (w1.setL hN r1 hy hyl)
  generalize fi δ S = r at h2 ⊢
  cases r with
  | ok l S1 =>
    intro J H1 ρ1 l1 w1 hW
    have h2 : Good T X W σ H ρ δ _ ((dcLoop l.c (stepD toKeys gs (wipeC (wipeE δ (own.map (·.2)))) fc fk fv) l.l S1 [] []).bind fun r S => .ok (.dct r.1 r.2) S) := h2
    exact dct_go w1 hW hgo (Good.le h2 l1)
  | exc _ _ _ _ => exact h2
  | bad => exact h2
theorem sh_set {t : Tg} {e : Tm} (s : SOk T X W g k C) : SH T X W g C (.set t e) := fun st obs h ho => by
  unfold chkS at h
  split at h
  · rename_i tg v spos
    obtain ⟨_, h1, h⟩ := bnd h
    obtain ⟨x, h2, h⟩ := bnd h
    obtain ⟨y, h3, h⟩ := bnd h
    cases h
    have h1 := gd_ok h1
    rw [Bool.and_eq_true] at h1
    cases hc : notComp v with
    | true => exact ds_congr (ds_set ((chk_all e s.c).de _ _ h3 (obs_r ho)) (chkTg_ok s h2 (obs_l ho)) (sws_none hc _ _) (swst_none h1.2 _) (asn_one (nmOrSub_star h1.2) _)) fun δ S => rfl
    | false =>
      cases v with
      | ListComp el' gens scope p =>
        rcases sw_lc (el' := el') (gens := gens) (scope := scope) (p := p) (tg := tg) (l := spos.line) s.kind h1.2 with hsw | ⟨yy, py, rfl, hl, hsw⟩
        · exact ds_congr (ds_set ((chk_all e s.c).de _ _ h3 (obs_r ho)) (chkTg_ok s h2 (obs_l ho)) hsw (swst_none h1.2 _) (asn_one (nmOrSub_star h1.2) _)) fun δ S => rfl
        · obtain ⟨m, tgs, ik, it, cn, el, own, rfl⟩ := lc_of h3
          cases t with
          | sub o ix => unfold chkTg at h2; cases h2
          | nam c i =>
            unfold chkTg at h2
            obtain ⟨_, q, h2⟩ := bnd h2
            have q := gd_ok q
            rw [Bool.and_eq_true, decide_eq_true_eq, decide_eq_true_eq] at q
            rw [← s.c.sc_, hl] at q
            cases c with
            | true => cases q.2
            | false =>
              obtain ⟨el', t', i', ifs, scope', p', ow, e1, how, di, ok, hpg, hin, hcond, he, hs⟩ := chk_lcP s.c (chks_all it s.c).da (chks_all it s.c).hd (fun {Y C'} c' => (chk_all cn c').dt) (fun {Y C'} c' => (chk_all el c').de) h3 (obs_r ho)
              cases e1
              refine ds_congr (ds_setLc (g := g) (m := m) s.c.calm s.c.nd (by rw [s.c.N_]; exact q.1) hl hsw di ok hpg hin hcond he hs) fun δ S => ?_
              rw [how]
              show _ = ((evs g it δ S).bind fun its S => (iterK ik its S).bind fun I S => _).bind _
              generalize evs g it δ S = zz
              cases zz with
              | ok _ _ => rfl
              | exc _ _ _ _ => rfl
              | bad => rfl
      | SetComp _ _ _ _ => exact absurd h1.1 Bool.false_ne_true
      | DictComp kx vx gens scope p =>
        rcases sw_dc (kx := kx) (vx := vx) (gens := gens) (scope := scope) (p := p) (tg := tg) (l := spos.line) s.kind h1.2 with hsw | ⟨yy, py, rfl, hl, hsw⟩
        · exact ds_congr (ds_set ((chk_all e s.c).de _ _ h3 (obs_r ho)) (chkTg_ok s h2 (obs_l ho)) hsw (swst_none h1.2 _) (asn_one (nmOrSub_star h1.2) _)) fun δ S => rfl
        · obtain ⟨tgs, ik, it, cn, ka, klo, khi, v, own, rfl⟩ := dc_of h3
          cases t with
          | sub o ix => unfold chkTg at h2; cases h2
          | nam c i =>
            unfold chkTg at h2
            obtain ⟨_, q, h2⟩ := bnd h2
            have q := gd_ok q
            rw [Bool.and_eq_true, decide_eq_true_eq, decide_eq_true_eq] at q
            rw [← s.c.sc_, hl] at q
            cases c with
            | true => cases q.2
            | false =>
              obtain ⟨kx', vx', t', i', ifs, scope', p', ow, e1, how, di, ok, hpg, hin, hcond, hk, hv, hs⟩ := chk_dc s.c (chks_all it s.c).da (chks_all it s.c).hd (fun {Y C'} c' => (chk_all cn c').dt) (fun {Y C'} c' => (chk_all ka c').de) (fun {Y C'} c' => (chk_all klo c').de) (fun {Y C'} c' => (chk_all khi c').de) (fun {Y C'} c' => (chk_all v c').de) h3 (obs_r ho)
              cases e1
              refine ds_congr (ds_setDct (g := g) (by have := s.c.units; omega) s.c.calm s.c.nd (by rw [s.c.N_]; exact q.1) hl hsw di ok hpg hin hcond hk hv hs) fun δ S => ?_
              rw [how]
              show _ = (ev g (.dcp tgs ik it cn ka klo khi v own) δ S).bind _
              rw [← dc_shape]
      | _ => cases hc
  · cases h
theorem swst_tup {v : Expr} {es : List Expr} {kk : Nat} {p : Pos} (h : notTup v = true) (env : Env) : swappedStores [.Tuple es kk p] v env = pure none := by
  cases v <;> first | rfl | cases h
theorem locs_short {sc : Scope} {line : Nat} : ∀ (es : List Expr), es.any (notLoc sc) = true → (es.filterMap fun
    | .Name id pos => if sc.names.lookup id == some .local && pos.line == line then some id else none
    | _ => none).length < es.length
  | [], h => by cases h
  | e :: es, h => by
    have le : ∀ es : List Expr, (es.filterMap fun
      | .Name id pos => if sc.names.lookup id == some .local && pos.line == line then some id else none
      | _ => none).length ≤ es.length := fun es => List.length_filterMap_le _ _
    rw [List.any_cons, Bool.or_eq_true] at h
    rw [List.filterMap_cons]
    rcases h with h | h
    · have : (match e with
        | .Name id pos => if sc.names.lookup id == some .local && pos.line == line then some id else none
        | _ => (none : Option Str)) = none := by
        cases e with
        | Name x p =>
          have h : (!decide (sc.names.lookup x = some .local)) = true := h
          have h2 : ¬ sc.names.lookup x = some .local := by simpa using h
          have h3 : (sc.names.lookup x == some .local) = false := by simpa using h2
          show (if sc.names.lookup x == some .local && p.line == line then some x else none) = none
          rw [h3]
          rfl
        | _ => rfl
      split
      · exact Nat.lt_succ_of_le (le es)
      · rename_i b hb
        cases (show (none : Option Str) = some b from this.symm.trans hb)
    · split
      · exact Nat.lt_succ_of_lt (locs_short es h)
      · rw [List.length_cons, List.length_cons]
        exact Nat.succ_lt_succ (locs_short es h)
theorem swst_mix {v : Expr} {es : List Expr} {kk : Nat} {p : Pos} {env : Env} (h : notTup v = true ∨ es.any (notLoc env.scope) = true) : swappedStores [.Tuple es kk p] v env = pure none := by
  rcases h with h | h
  · exact swst_tup h env
  cases v with
  | Tuple vs k2 p2 =>
    unfold swappedStores
    dsimp only
    split
    · rfl
    · split
      · rfl
      · have hl := locs_short (line := (es.head?.map (·.pos.line)).getD 0) es h
        split
        · rfl
        · rename_i hn
          refine absurd ?_ hn
          rw [Bool.or_eq_true]
          refine .inl ?_
          simp only [bne_iff_ne, ne_eq]
          exact Nat.ne_of_lt hl
  | _ => rfl
theorem sh_unp {ts : List Tg} {e : Tm} (s : SOk T X W g k C) : SH T X W g C (.unp ts e) := fun st obs h ho => by
  unfold chkS at h
  split at h
  · obtain ⟨_, h1, h⟩ := bnd h
    obtain ⟨x, h2, h⟩ := bnd h
    obtain ⟨y, h3, h⟩ := bnd h
    cases h
    have h1 := gd_ok h1
    rw [Bool.and_eq_true, Bool.or_eq_true, ← s.c.sc_] at h1
    exact ds_congr (ds_unp s.c.calm ((chk_all e s.c).de _ _ h3 (obs_r ho)) (chkTgs_ok s h2 (obs_l ho)) (sws_none h1.1 _ _) (swst_mix h1.2) (asn_one rfl _)) fun δ S => rfl
  · cases h
theorem sh_fld {o e : Tm} {f : Str} (s : SOk T X W g k C) : SH T X W g C (.fld o f e) := fun st obs h ho => by
  unfold chkS at h
  split at h
  · obtain ⟨_, h1, h⟩ := bnd h
    obtain ⟨x, h2, h⟩ := bnd h
    obtain ⟨y, h3, h⟩ := bnd h
    cases h
    have h1 := gd_ok h1
    rw [Bool.and_eq_true, decide_eq_true_eq] at h1
    obtain ⟨e1, e2⟩ := h1
    subst e1
    exact ds_congr (ds_fld s.c.fs ((chk_all o s.c).de _ _ h2 (obs_l ho)) ((chk_all e s.c).de _ _ h3 (obs_r ho)) (sw_none e2 _ _ _)) fun δ S => rfl
  · cases h
theorem sh_ret {e : Tm} (s : SOk T X W g k C) : SH T X W g C (.ret e) := fun st obs h ho => by
  unfold chkS at h
  split at h
  · exact ds_congr (ds_ret ((chk_all e s.c).de _ _ h ho)) fun δ S => rfl
  · cases h
theorem sh_retN : SH T X W g C .retN := fun st obs h ho => by
  unfold chkS at h
  split at h
  · exact ds_congr ds_retN fun δ S => rfl
  · cases h
theorem sh_pas : SH T X W g C .pas := fun st obs h ho => by
  unfold chkS at h
  split at h
  · exact ds_congr ds_pas fun δ S => rfl
  · exact ds_congr ds_doc fun δ S => rfl
  · cases h
theorem sh_exp {e : Tm} (s : SOk T X W g k C) : SH T X W g C (.exp e) := fun st obs h ho => by
  unfold chkS at h
  split at h
  · obtain ⟨_, h1, h⟩ := bnd h
    exact ds_congr (ds_exp ((chk_all e s.c).de _ _ h ho) (sw_none (gd_ok h1) _ _ _)) fun δ S => rfl
  · cases h
theorem sh_ite {c : Tm} {a b : List Sm} (s : SOk T X W g k C) (ia : SHs T X W g C a) (ib : SHs T X W g C b) : SH T X W g C (.ite c a b) := fun st obs h ho => by
  unfold chkS at h
  split at h
  · obtain ⟨_, h1, h⟩ := bnd h
    obtain ⟨x, h2, h⟩ := bnd h
    obtain ⟨y, h3, h⟩ := bnd h
    obtain ⟨z, h4, h⟩ := bnd h
    cases h
    exact ds_congr (ds_ite ((chk_all c s.c).dt _ _ (gd_ok h1) h2 (obs_l ho)) (ia _ _ h3 (obs_l (obs_r ho))) (ib _ _ h4 (obs_r (obs_r ho)))) fun δ S => rfl
  · cases h
theorem sh_whl {c : Tm} {b : List Sm} (s : SOk T X W g k C) (ib : SHs T X W g C b) : SH T X W g C (.whl c b) := fun st obs h ho => by
  unfold chkS at h
  split at h
  · obtain ⟨_, h1, h⟩ := bnd h
    obtain ⟨x, h2, h⟩ := bnd h
    obtain ⟨y, h3, h⟩ := bnd h
    cases h
    exact ds_congr (ds_whl (n := fuelW) s.po ((chk_all c s.c).dt _ _ (gd_ok h1) h2 (obs_l ho)) (ib _ _ h3 (obs_r ho))) fun δ S => rfl
  · cases h
theorem sh_rse : SH T X W g C .rse := fun st obs h ho => by
  unfold chkS at h
  split at h
  · refine PS_weak ps_never ?_
    rintro D σ H ⟨ρ, δ, S, w, h⟩
    exact h.elim
  · cases h
theorem sh_brk : SH T X W g C .brk := fun st obs h ho => by
  unfold chkS at h
  split at h
  · exact ds_congr ds_brk fun δ S => rfl
  · cases h
theorem sh_cnt : SH T X W g C .cnt := fun st obs h ho => by
  unfold chkS at h
  split at h
  · exact ds_congr ds_cnt fun δ S => rfl
  · cases h
theorem sh_nil : SHs T X W g C [] := fun st obs h ho => by
  unfold chkSs at h
  split at h
  · exact dss_congr ds_nil fun δ S => rfl
  · cases h
theorem sh_cons {s : Sm} {r : List Sm} (i1 : SH T X W g C s) (i2 : SHs T X W g C r) : SHs T X W g C (s :: r) := fun st obs h ho => by
  unfold chkSs at h
  split at h
  · obtain ⟨x, h2, h⟩ := bnd h
    obtain ⟨y, h3, h⟩ := bnd h
    cases h
    exact dss_congr (ds_cons (i1 _ _ h2 (obs_l ho)) (i2 _ _ h3 (obs_r ho))) fun δ S => rfl
  · cases h
end
end MM
end
section
set_option Elab.async false
set_option linter.all false
set_option maxRecDepth 100000
set_option maxHeartbeats 8000000
/-! for; all statements. -/
namespace MM
open PySem PySem.Spec PyProof.Rows L2 NdefX
variable [Lams]
section
variable {T : List (Addr × Str)} {g : GE} {k : Nat} {X : Cx} {W : WX} {C : CC} {obs : List Ob}
theorem mapM_names {N : List Str} : ∀ (es : List Expr) (g : List Nat), (es.mapM fun | .Name x _ => N.idxOf? x | _ => none) = some g → ∀ i ∈ g, ∃ x ∈ es.filterMap (fun | .Name x _ => some x | _ => none), N[i]? = some x
  | [], g, h => by
    have h : g = [] := by simpa using h.symm
    rw [h]
    intro i hi
    cases hi
  | e :: es, g, h => by
    rw [List.mapM_cons] at h
    obtain ⟨i, h1, h⟩ := bnd h
    obtain ⟨r, h2, h⟩ := bnd h
    cases h
    cases e with
    | Name x p =>
      have h1 : N.idxOf? x = some i := h1
      intro j hj
      rcases List.mem_cons.mp hj with z | z
      · rw [z]
        exact ⟨x, by rw [List.filterMap_cons]; exact List.mem_cons_self, idx_at h1⟩
      · obtain ⟨y, hy, e1⟩ := mapM_names es r h2 j z
        exact ⟨y, by rw [List.filterMap_cons]; exact List.mem_cons_of_mem _ hy, e1⟩
    | _ => cases h1
theorem slots_names {N : List Str} {t : Expr} {gs : List Nat} (h : tgSlots N t = some gs) : ∀ i ∈ gs, ∃ x ∈ tgNames t, N[i]? = some x := by
  unfold tgSlots at h
  split at h
  · rename_i x p
    obtain ⟨i, h1, h2⟩ := Option.map_eq_some_iff.mp h
    rw [← h2]
    intro j hj
    rw [List.mem_singleton.mp hj]
    exact ⟨x, List.mem_cons_self, idx_at h1⟩
  · split at h
    · cases h
    · exact mapM_names _ _ h
  · cases h
theorem di_of {ik : Ik} {it : List Tm} {i' t' : Expr} {hs : List Expr} {x : List Ob} (c : CtxOk T X W g k C) (h2 : iterHead C ik i' = some hs) (etup : tupT ik t' = true) (h3 : chks C it hs = some x) (ho : ∀ o ∈ x, ObOk T X o) :
    DI T X W t' i' (fun δ S => (evs g it δ S).bind fun its S => iterK ik its S) := by
  have hst := chks_star h3
  have A := chks_all it c
  refine iter_ok (tg := t') c h2 (tupT_ok etup) (A.da _ _ h3 ho) hst (fun e0 _ he => ?_)
  subst he
  cases it with
  | nil =>
    unfold chks at h3
    cases h3
  | cons t r =>
    cases r with
    | nil =>
      unfold chks at h3
      obtain ⟨_, q1, h3⟩ := bnd h3
      obtain ⟨x1, q2, h3⟩ := bnd h3
      obtain ⟨y1, q3, h3⟩ := bnd h3
      cases h3
      refine ⟨ev g t, A.hd t [] rfl _ _ q2 (obs_l ho), fun δ S => ?_⟩
      rw [evs_cons (g := g) (r := []) (t := t) (fun z hz => by
        rw [hz] at q2
        unfold chk at q2
        cases q2)]
      rfl
    | cons t2 r2 =>
      unfold chks at h3
      obtain ⟨_, q1, h3⟩ := bnd h3
      obtain ⟨x1, q2, h3⟩ := bnd h3
      obtain ⟨y1, q3, h3⟩ := bnd h3
      unfold chks at q3
      cases q3
theorem sh_for {c : Bool} {tg : List Nat} {ik : Ik} {it : List Tm} {b : List Sm} (s : SOk T X W g k C) (ib : SHs T X W g C b) : SH T X W g C (.for c tg ik it b) := fun st obs h ho => by
  unfold chkS at h
  split at h
  · rename_i t' i' b' p
    obtain ⟨_, h1, h⟩ := bnd h
    obtain ⟨hs, h2, h⟩ := bnd h
    obtain ⟨x, h3, h⟩ := bnd h
    obtain ⟨y, h4, h⟩ := bnd h
    cases h
    have h1 := gd_ok h1
    rw [Bool.and_eq_true, Bool.and_eq_true, Bool.and_eq_true, decide_eq_true_eq] at h1
    obtain ⟨⟨⟨etup, eset⟩, eloc⟩, etg⟩ := h1
    have di := di_of s.c h2 etup h3 (obs_l ho)
    have tk : TgF X c tg := ⟨fun hc i hi => by
      obtain ⟨y, hy, e1⟩ := slots_names etg i hi
      have := List.all_eq_true.mp eloc y hy
      rw [hc, if_neg Bool.false_ne_true] at this
      exact ⟨y, by rw [s.c.N_]; exact e1, by rw [s.c.sc_]; exact of_decide_eq_true this⟩⟩
    have hpg : PG X t' (gB X.K tg) := pg_of s.c.calm s.c.nd (by rw [s.c.N_]; exact etg) fun y hy => by
      have := List.all_eq_true.mp eloc y hy
      refine ⟨?_, .inl (s.fn y)⟩
      rw [s.c.sc_]
      cases c with
      | true =>
        rw [if_pos rfl] at this
        unfold locB at this
        rw [Bool.or_eq_true, decide_eq_true_eq, decide_eq_true_eq] at this
        exact this
      | false =>
        rw [if_neg Bool.false_ne_true] at this
        exact .inl (of_decide_eq_true this)
    refine ds_congr (ds_for (c := c) s.c.calm s.po s.c.nd di tk hpg (ib _ _ h4 (obs_r ho)) (fun x => fold_ok eset X.env x)) fun δ S => ?_
    show _ = (evs g it δ S).bind fun its S => (iterK ik its S).bind fun I S => _
    generalize evs g it δ S = zz
    cases zz with
    | ok _ _ => rfl
    | exc _ _ _ _ => rfl
    | bad => rfl
  · cases h
theorem sh_par {i j : Nat} {es : List Tm} (s : SOk T X W g k C) : SH T X W g C (.par i j es) := fun st obs h ho => by
  unfold chkS at h
  split at h
  · obtain ⟨_, h1, h⟩ := bnd h
    have h1 := gd_ok h1
    simp only [Bool.and_eq_true, decide_eq_true_eq, Bool.not_eq_true', decide_eq_false_iff_not] at h1
    obtain ⟨⟨⟨⟨⟨⟨⟨⟨⟨e1, e2⟩, e3⟩, e4⟩, e5⟩, e6⟩, e7⟩, e8⟩, e9⟩, e10⟩ := h1
    have hij : i ≠ j := fun z => by
      rw [z, e2] at e1
      exact e5 (Option.some.inj e1).symm
    exact ds_congr (ds_par s.c.calm s.c.nd (by rw [s.c.N_]; exact e1) (by rw [s.c.N_]; exact e2) hij (by rw [s.c.sc_]; exact e3) (by rw [s.c.sc_]; exact e4) ((chks_all es s.c).da _ _ h ho)
      (swst_par s.kind (by rw [s.c.sc_]; exact e3) (by rw [s.c.sc_]; exact e4) e5 e6 e7 e8 e9 e10) rfl) fun δ S => rfl
  · cases h
mutual
theorem sh_all (s : SOk T X W g k C) : ∀ t : Sm, SH T X W g C t
  | .set t e => sh_set s
  | .unp ts e => sh_unp s
  | .par i j es => sh_par s
  | .fld o f e => sh_fld s
  | .ret e => sh_ret s
  | .retN => sh_retN
  | .pas => sh_pas
  | .exp e => sh_exp s
  | .ite c a b => sh_ite s (shs_all s a) (shs_all s b)
  | .whl c b => sh_whl s (shs_all s b)
  | .for c tg ik it b => sh_for s (shs_all s b)
  | .rse => sh_rse
  | .brk => sh_brk
  | .cnt => sh_cnt
theorem shs_all (s : SOk T X W g k C) : ∀ ts : List Sm, SHs T X W g C ts
  | [] => sh_nil
  | t :: r => sh_cons (sh_all s t) (shs_all s r)
end
end
end MM
end
section
set_option Elab.async false
set_option linter.all false
set_option maxRecDepth 100000
set_option maxHeartbeats 8000000
/-! Texts; levels; every def keeps its promise at each level. -/
namespace MM
open PySem PySem.Spec PyProof.Rows L2 NdefX
structure DefR where
  N : List Str
  ps : List Str
  kp : Bool
  body : List Sm
structure Txt where
  con : List (Str × D)
  kd : List (Str × List (Str × D))
  fns : List (Str × DefR)
  ini : List (Str × Bool × DefR)
  mes : List ((Str × Str) × DefR)
  met : List ((Str × Str) × DefR)
  cls : List Str
  sub : List (Str × Str)
  fs : List (Str × Str)
  blt : List Str
  kws : List (Str × List Str × List Str)
/-- the context of a def -/
def Txt.cc (t : Txt) (N : List Str) (sc : Scope) : CC := ⟨N, sc, t.blt, t.kd.map (·.1), t.fns.map (fun q => (q.1, q.2.ps)), t.ini.map (fun q => (q.1, q.2.2.ps.tail)), t.kws, true⟩
variable [Lams]
def lev (t : Txt) : Nat → GE
  | 0 => ⟨fun x => t.con.lookup x, fun x => t.kd.lookup x, fun _ _ _ => .bad, fun _ _ _ _ _ => .bad, fun _ _ _ => .bad, t.cls, fun a b => t.sub.contains (a, b), fun x => (t.fns.lookup x).isSome, fun a b => t.fs.contains (a, b), fun a b => (t.mes.lookup (a, b)).isSome, fun c => (t.met.lookup (c, ("__eq__" : Str))).isSome⟩
  | k + 1 => ⟨fun x => t.con.lookup x, fun x => t.kd.lookup x,
    fun x ds S => match t.fns.lookup x with
      | some d => fnF d.N d.ps d.kp (exs (lev t k) d.body) ds S
      | none => match t.ini.lookup x with
        | some q => mkF x q.1 (fnF q.2.N q.2.ps false (exs (lev t k) q.2.body)) ds S
        | none => .bad,
    fun c m o l S => match t.mes.lookup (c, m) with
      | some d => fnF d.N d.ps d.kp (exs (lev t k) d.body) (o :: l) S
      | none => match t.met.lookup (c, m) with
        | some d => fnF d.N d.ps d.kp (exs (lev t k) d.body) (o :: l) S
        | none => .bad,
    fun d ds S => match d with
      | .clo id caps => match Lams.tab id with
        | some r => cloF r (ev (lev t k) r.tm) ds caps S
        | none => .bad
      | .glo x => match t.fns.lookup x with
        | some d => fnF d.N d.ps d.kp (exs (lev t k) d.body) ds S
        | none => .bad
      | _ => .bad,
    t.cls, fun a b => t.sub.contains (a, b), fun x => (t.fns.lookup x).isSome, fun a b => t.fs.contains (a, b), fun a b => (t.mes.lookup (a, b)).isSome, fun c => (t.met.lookup (c, ("__eq__" : Str))).isSome⟩
theorem lev_con (t : Txt) (k : Nat) : (lev t k).con = fun x => t.con.lookup x := by cases k <;> rfl
theorem lev_kd (t : Txt) (k : Nat) : (lev t k).kd = fun x => t.kd.lookup x := by cases k <;> rfl
theorem lev_cls (t : Txt) (k : Nat) : (lev t k).cls = t.cls := by cases k <;> rfl
theorem lev_sub (t : Txt) (k : Nat) : (lev t k).sub = fun a b => t.sub.contains (a, b) := by cases k <;> rfl
theorem lev_gk (t : Txt) (k : Nat) : (lev t k).gk = fun x => (t.fns.lookup x).isSome := by cases k <;> rfl
theorem lev_fs (t : Txt) (k : Nat) : (lev t k).fs = fun a b => t.fs.contains (a, b) := by cases k <;> rfl
theorem lev_oe (t : Txt) (k : Nat) : (lev t k).oe = fun c => (t.met.lookup (c, ("__eq__" : Str))).isSome := by cases k <;> rfl
theorem lev_pp (t : Txt) (k : Nat) : (lev t k).pp = fun a b => (t.mes.lookup (a, b)).isSome := by cases k <;> rfl
/-- a lambda's text where it is made -/
structure LamS (T : List (Addr × Str)) (base : Heap) (mg : Str → Option Value) (qual : Str) (cdv : Value) (scope : Scope) (N : List Str) (o : Ob) : Prop where
  ex : ∃ r, r.args = o.args ∧ r.body = o.body ∧ r.sc = o.sc ∧ Lams.tab o.id = some r ∧ qual ++ "<lambda>" = r.qual ∧ (∃ c P, cdv = .ref c ∧ LamX.TabB base mg c P ∧ (P, qual ++ "<lambda>") ∈ T ∧ ∀ p ∈ T, p.1 = P → p.2 = qual ++ "<lambda>") ∧
    (∀ env, defaultsOf r.args env = ([], [])) ∧ (∀ y ∈ r.sc.names, y.2 = .free → (scope.names.lookup y.1 = some .cell ∨ scope.names.lookup y.1 = some .free) ∧ y.1 ∈ r.fr) ∧ (∀ y ∈ r.fr, (y, NameKind.free) ∈ r.sc.names) ∧ o.js.map (fun j => N[j]?) = r.fr.map some
theorem LamS.ok {T : List (Addr × Str)} {X : Cx} {o : Ob} (h : LamS T X.base X.mg X.env.qual X.env.code X.env.scope X.N o) : ObOk T X o := by
  obtain ⟨r, h1, h2, h3, h4, h5, h6, h7, h8, h9, h10⟩ := h.ex
  exact ⟨r, h1, h2, h3, h4, h5, h6, h7 _, h8, h9, h10⟩
/-- a def's text is the record's -/
structure DefOk (T : List (Addr × Str)) (K : PySem.W.Frag) (mg : Str → Option Value) (base : Heap) (t : Txt) (f : Addr) (fd : FuncData) (d : DefR) : Prop where
  ex : ∃ (name qual : Str) (params : Arguments) (body : List Stmt) (scope : Scope) (dV kV doc pm cdv ct oc : Value) (an od : Option Addr) (osl : Array (Option Value)),
    fd = PySem.W.fnOf name qual params body scope dV kV doc pm an cdv ct ∧ K.lookup f = some ⟨oc, od, .func fd, osl⟩ ∧ PySem.W.codeIn K cdv qual = true ∧ FnScope d.N d.ps scope ∧
      ∃ obs, chkSs (t.cc d.N scope) d.body body = some obs ∧ ∀ o ∈ obs, LamS T base mg (qual ++ ".<locals>.") cdv scope d.N o
  bind : ∀ us : List Value, us.length = d.ps.length → bindArgs fd ⟨us, []⟩ = pure (d.ps.zip us)
structure LamD (t : Txt) (r : LamRec) : Prop where
  sc : NScope (r.ps ++ r.fr) r.ps r.fr r.sc
  bind : ∀ (cl : List (Str × Addr)) (pm cv ctv : Value) (us : List Value), us.length = r.ps.length → bindArgs (PySem.W.kla_fn "<lambda>" r.qual r.args r.body r.sc cl pm cv ctv) ⟨us, []⟩ = pure (r.ps.zip us)
  chk : MM.chk (t.cc (r.ps ++ r.fr) r.sc) r.tm r.body = some []
/-- what is known of a text at a heap -/
structure TxtOk (T : List (Addr × Str)) (w : World) (K : PySem.W.Frag) (mg : Str → Option Value) (base : Heap) (t : Txt) : Prop where
  fn : ∀ x d, t.fns.lookup x = some d → ∃ f fd, mg x = some (.ref f) ∧ PySem.W.keepIn K (.ref f) = true ∧ DefOk T K mg base t f fd d
  ini : ∀ x q, t.ini.lookup x = some q → t.fns.lookup x = none ∧ ∃ C f fd ps, mg x = some (.ref C) ∧ Mk K C f ∧ q.2.ps = ("self" : Str) :: ps ∧ DefOk T K mg base t f fd q.2
  me : ∀ c m d, t.mes.lookup (c, m) = some d → d.ps = [("self" : Str)] ∧ ∃ C p f fd, mg c = some (.ref C) ∧ Cls K C ∧ PropOf K C m p f ∧ DefOk T K mg base t f fd d
  met : ∀ c m d, t.met.lookup (c, m) = some d → t.mes.lookup (c, m) = none ∧ ∃ C f fd, mg c = some (.ref C) ∧ Cls K C ∧ Meth K C m f ∧ DefOk T K mg base t f fd d
  oe : ∀ c C, (t.met.lookup (c, ("__eq__" : Str))).isSome = true → mg c = some (.ref C) → (∃ d, t.met.lookup (c, ("__eq__" : Str)) = some d ∧ d.ps = [("self" : Str), ("other" : Str)]) ∧ (∃ f, OeC K C f) ∧ ∀ c' C', t.cls.contains c' = true → mg c' = some (.ref C') → C' = C ∨ PySem.W.subIn K (.ref C') (.ref C) = some false
  lam : ∀ id r, Lams.tab id = some r → LamD t r
  kit : KitOk K mg (lev t 0)
  con : ∀ (x : Str) (d : D), t.con.lookup x = some d → ∃ v u, mg x = some u ∧ RelV v u ∧ ∀ H ρ cp, (∀ a, Mut (H a) → True) → RD ⟨K, mg, H, ρ, cp⟩ d v
  kd : KdOk K w mg (lev t 0)
  blt : ∀ x, t.blt.contains x = true → x ≠ ("@gcd" : Str) → mg x = none
  gcd : t.blt.contains ("@gcd" : Str) = true → mg ("gcd" : Str) = some (.builtin "math.gcd") ∧ mg ("@gcd" : Str) = none
  kws : ∀ x ps ks, t.kws.contains (x, ps, ks) = true → ∃ d, t.fns.lookup x = some d ∧ d.ps = ps ∧ ∀ f fd, mg x = some (.ref f) → DefOk T K mg base t f fd d → ∀ us : List Value, us.length = ks.length → bindArgs fd ⟨[], ks.zip us⟩ = pure (ps.zip (permBy ps ks us))
  fs : FsOk K mg (lev t 0)
/-- each def's promise -/
structure LevOk (T : List (Addr × Str)) (P : Program) (w : World) (K : PySem.W.Frag) (mg : Str → Option Value) (base : Heap) (t : Txt) (j k : Nat) : Prop where
  fn : ∀ x d, t.fns.lookup x = some d → ∃ f fd, mg x = some (.ref f) ∧ PySem.W.keepIn K (.ref f) = true ∧ FnD T P w K mg base j f fd d.ps ((lev t k).fn x) ∧ DefOk T K mg base t f fd d
  ini : ∀ x q, t.ini.lookup x = some q → ∃ C f fd ps F, mg x = some (.ref C) ∧ Mk K C f ∧ q.2.ps = ("self" : Str) :: ps ∧ FnD T P w K mg base j f fd (("self" : Str) :: ps) F ∧ DefOk T K mg base t f fd q.2 ∧ ∀ ds S, (lev t k).fn x ds S = mkF x q.1 F ds S
  me : ∀ c m d, t.mes.lookup (c, m) = some d → ∃ C p f fd F, mg c = some (.ref C) ∧ Cls K C ∧ PropOf K C m p f ∧ FnD T P w K mg base j f fd [("self" : Str)] F ∧ DefOk T K mg base t f fd d ∧ d.ps = [("self" : Str)] ∧ ∀ o S, (lev t k).me c m o [] S = F [o] S
  met : ∀ c m d, t.met.lookup (c, m) = some d → ∃ C f fd F, mg c = some (.ref C) ∧ Cls K C ∧ Meth K C m f ∧ FnD T P w K mg base j f fd d.ps F ∧ DefOk T K mg base t f fd d ∧ ∀ o l S, (lev t k).me c m o l S = F (o :: l) S
  cl : ∀ id caps ds S, (lev t k).cl (.clo id caps) ds S ≠ .bad → ∃ r fe, Lams.tab id = some r ∧ LamOk T P w K mg base j r fe ∧ (lev t k).cl (.clo id caps) ds S = cloF r fe ds caps S
section
variable {T : List (Addr × Str)} {P : Program} {w : World} {K : PySem.W.Frag} {mg : Str → Option Value} {base : Heap} {t : Txt} {j k : Nat}
theorem fnD_bad {f : Addr} {fd : FuncData} {ps : List Str} {F : List D → Store → Res D} (hF : ∀ ds S, F ds S = .bad) : FnD T P w K mg base j f fd ps F :=
  ⟨fun ds S h => (h (hF ds S)).elim, fun ds S d S' h => (by rw [hF] at h; cases h), fun ds S c ns vs S' h => (by rw [hF] at h; cases h), fun A outer s H args us vs Q E ρ ds S _ _ _ _ _ _ _ h => (by rw [hF] at h; exact h.elim)⟩
theorem lev_zero (h : TxtOk T w K mg base t) : LevOk T P w K mg base t 0 0 := by
  refine ⟨fun x d e => ?_, fun x q e => ?_, fun c m d e => ?_, fun c m d e => ?_, fun id caps ds S z => (z rfl).elim⟩
  · obtain ⟨f, fd, h1, h2, h3⟩ := h.fn x d e
    exact ⟨f, fd, h1, h2, fnD_bad fun _ _ => rfl, h3⟩
  · obtain ⟨_, C, f, fd, ps, h1, h2, h3, h4⟩ := h.ini x q e
    refine ⟨C, f, fd, ps, fun _ _ => .bad, h1, h2, h3, fnD_bad fun _ _ => rfl, h4, fun ds S => ?_⟩
    show Res.bad = _
    unfold mkF
    split <;> rfl
  · obtain ⟨h0, C, p, f, fd, h1, h2, h3, h4⟩ := h.me c m d e
    exact ⟨C, p, f, fd, fun _ _ => .bad, h1, h2, h3, fnD_bad fun _ _ => rfl, h4, h0, fun _ _ => rfl⟩
  · obtain ⟨h0, C, f, fd, h1, h2, h3, h4⟩ := h.met c m d e
    exact ⟨C, f, fd, fun _ _ => .bad, h1, h2, h3, fnD_bad fun _ _ => rfl, h4, fun _ _ _ => rfl⟩
/-- the world around a body -/
theorem ctx_of (h : TxtOk T w K mg base t) (l : LevOk T P w K mg base t j k) {X : Cx} {W : WX} {N : List Str} {sc : Scope} (e1 : X.prog = P) (e2 : X.w = w) (e3 : X.K = K) (e4 : X.mg = mg) (e5 : X.base = base) (hN : X.N = N) (nd : X.N.Nodup) (hsc : X.env.scope = sc) (hc : X.calm = true) (tk : Takes X W) (hr : Room (j + 1) X.A) :
    CtxOk T X W (lev t k) j (t.cc N sc) := by
  subst e1 e2 e3 e4 e5
  have fnAt : ∀ x d, t.fns.lookup x = some d → FnAtN T X (lev t k) j x d.ps := fun x d e => by
    obtain ⟨f, fd, h1, h2, h3, h4⟩ := l.fn x d e
    exact ⟨f, fd, _, h1, h2, h3, h4.bind, fun _ _ => rfl⟩
  have lk : ∀ {α β : Type} (f : α → β) (x : Str) (q : List (Str × α)) (b : β), List.lookup x (q.map fun z => (z.1, f z.2)) = some b → ∃ a, List.lookup x q = some a ∧ f a = b := fun {α β} f x q b e => by
    induction q with
    | nil => cases e
    | cons z r ih =>
      have e : List.lookup x ((z.1, f z.2) :: r.map fun z => (z.1, f z.2)) = some b := e
      obtain ⟨z1, z2⟩ := z
      rw [List.lookup_cons] at e ⊢
      cases hb : x == z1 with
      | true =>
        rw [hb] at e
        cases e
        exact ⟨z2, rfl, rfl⟩
      | false =>
        rw [hb] at e
        exact ih e
  refine ⟨hN, nd, hsc, hc, tk, hr, ?_, ?_, ?_, ?_, ?_, ?_, ?_, ?_, ?_, ?_, ?_, ?_, ?_⟩
  · exact ⟨fun c C e => h.kit.cls c C (by rw [lev_cls] at e; exact e), fun c C n e => h.kit.ct c C n (by rw [lev_cls] at e; exact e), fun c C n e => h.kit.tc c C n (by rw [lev_cls] at e; exact e), fun c C k' C' e1 e2 q1 q2 => by
      rw [lev_cls] at e1 e2
      rw [lev_sub]
      exact h.kit.cc c C k' C' e1 e2 q1 q2⟩
  · intro x d e
    rw [lev_con] at e
    exact h.con x d e
  · exact ⟨fun x kvs e => h.kd.ex x kvs (by rw [lev_kd] at e; exact e)⟩
  · intro x e
    rw [lev_kd]
    have e : (t.kd.map (·.1)).contains x = true := e
    generalize t.kd = q at e
    induction q with
    | nil => cases e
    | cons z r ih =>
      obtain ⟨z1, z2⟩ := z
      rw [List.map_cons, List.contains_cons] at e
      show ∃ kvs, List.lookup x ((z1, z2) :: r) = some kvs
      rw [List.lookup_cons]
      have e : (x == z1 || (r.map (·.1)).contains x) = true := e
      cases hb : x == z1 with
      | true => exact ⟨z2, rfl⟩
      | false =>
        rw [hb, Bool.false_or] at e
        exact ih e
  · intro x e
    by_cases hx : x = ("@gcd" : Str)
    · subst hx
      exact (h.gcd e).2
    · exact h.blt x e hx
  · intro e
    exact (h.gcd e).1
  · intro x ps e
    obtain ⟨d, q1, q2⟩ := lk DefR.ps x t.fns ps e
    rw [← q2]
    exact fnAt x d q1
  · intro x ps e
    obtain ⟨q, q1, q2⟩ := lk (fun q : Bool × DefR => q.2.ps.tail) x t.ini ps e
    obtain ⟨C, f, fd, ps', F, h1, h2, h3, h4, h5, h6⟩ := l.ini x q q1
    rw [h3] at q2
    have q2 : ps' = ps := q2
    subst q2
    refine ⟨C, f, fd, F, q.1, h1, h2, h4, fun self us hl => ?_, h6⟩
    have := h5.bind (self :: us) (by rw [h3]; simp [hl])
    rw [h3] at this
    exact this
  · intro x ps ks e
    obtain ⟨d, q1, q2, q3⟩ := h.kws x ps ks e
    obtain ⟨f, fd, h1, h2, h3, h4⟩ := l.fn x d q1
    rw [q2] at h3
    exact ⟨f, fd, _, h1, h2, h3, q3 f fd h1 h4, fun _ _ => rfl⟩
  · refine ⟨l.cl, fun x ds S z => ?_, fun y a e1 e2 => ?_, fun d ds S z => ?_⟩
    · cases k with
      | zero => exact (z rfl).elim
      | succ k =>
        cases hq : t.fns.lookup x with
        | none =>
          have e : (lev t (k + 1)).cl (.glo x) ds S = .bad := by
            unfold lev
            dsimp only
            rw [hq]
          exact (z e).elim
        | some d =>
          refine ⟨d.ps, fnAt x d hq, ?_⟩
          unfold lev
          dsimp only
          rw [hq]
    · rw [lev_gk] at e1
      obtain ⟨d, hd⟩ := Option.isSome_iff_exists.mp e1
      obtain ⟨f, fd, h1, h2, _⟩ := h.fn y d hd
      rw [e2] at h1
      cases h1
      exact h2
    · cases k with
      | zero => exact (z rfl).elim
      | succ k =>
        cases d with
        | clo id caps => exact .inl ⟨id, caps, rfl⟩
        | glo x => exact .inr ⟨x, rfl⟩
        | _ => exact (z rfl).elim
  · exact ⟨fun c f C e hm => h.fs.ok c f C (by rw [lev_fs] at e; exact e) hm⟩
  · refine ⟨fun c f C e hm => ?_⟩
    rw [lev_pp] at e
    obtain ⟨d, hd⟩ := Option.isSome_iff_exists.mp e
    obtain ⟨C', p, fa, fd, F, h1, h2, h3, h4, h5, h6, h7⟩ := l.me c f d hd
    rw [hm] at h1
    cases h1
    refine ⟨h2, p, fa, fd, F, h3, h4, fun us hl => ?_, h7⟩
    have := h5.bind us (by rw [h6]; exact hl)
    rw [h6] at this
    exact this
  · refine ⟨fun c C e hm => ?_, fun c C c' C' e hm e' hm' => ?_⟩
    · rw [lev_oe] at e
      obtain ⟨⟨d, hd, hps⟩, ⟨f', oc⟩, _⟩ := h.oe c C e hm
      obtain ⟨C', f, fd, F, h1, h2, h3, h4, h5, h6⟩ := l.met c ("__eq__" : Str) d hd
      rw [hm] at h1
      cases h1
      have ef : f' = f := by
        have := oc.eq.symm.trans h3.at_
        simpa using this
      subst ef
      rw [hps] at h4
      refine ⟨f', fd, F, oc, h4, fun us hl => ?_, fun o y S => h6 o [y] S⟩
      have := h5.bind us (by rw [hps]; exact hl)
      rw [hps] at this
      exact this
    · rw [lev_oe] at e
      rw [lev_cls] at e'
      exact (h.oe c C e hm).2.2 c' C' e' hm'
theorem def_step (h : TxtOk T w K mg base t) (l : LevOk T P w K mg base t j k) {f : Addr} {fd : FuncData} {d : DefR} (hd : DefOk T K mg base t f fd d) (kp : Bool) : FnD T P w K mg base (j + 2) f fd d.ps (fnF d.N d.ps kp (exs (lev t k) d.body)) := by
  obtain ⟨name, qual, params, body, scope, dV, kV, doc, pm, cdv, ct, oc, an, od, osl, e1, e2, e3, e4, obs, e5, e6⟩ := hd.ex
  subst e1
  refine fnD_of e2 e3 e4 fun A outer s H E hr => ?_
  have tk : Takes (cxOf (CX P w) P w K mg base d.N qual scope f cdv A outer s H E) (fun cls dd _ H => E cls dd H) := takes_of rfl rfl rfl rfl
  have c := ctx_of h l (X := cxOf (CX P w) P w K mg base d.N qual scope f cdv A outer s H E) (W := fun cls dd _ H => E cls dd H) (N := d.N) (sc := scope) rfl rfl rfl rfl rfl rfl e4.nd rfl rfl tk hr
  have so : SOk T (cxOf (CX P w) P w K mg base d.N qual scope f cdv A outer s H E) (fun cls dd _ H => E cls dd H) (lev t k) j (t.cc d.N scope) := ⟨c, fun _ => rfl, e4.kind, passes_of rfl⟩
  exact shs_all so d.body _ _ e5 fun o ho => LamS.ok (X := cxOf (CX P w) P w K mg base d.N qual scope f cdv A outer s H E) (e6 o ho)
theorem lam_step (h : TxtOk T w K mg base t) (l : LevOk T P w K mg base t j k) {r : LamRec} (hd : LamD t r) : LamOk T P w K mg base (j + 2) r (ev (lev t k) r.tm) := by
  refine ⟨hd.sc, hd.bind, fun A outer s H E cl c f hr => ?_⟩
  have tk : Takes (ncx (CX P w) P w K mg base (r.ps ++ r.fr) (lamNF r cl c) f A outer s H E) (fun cls dd _ H => E cls dd H) := takes_of rfl rfl rfl rfl
  have cx := ctx_of h l (X := ncx (CX P w) P w K mg base (r.ps ++ r.fr) (lamNF r cl c) f A outer s H E) (W := fun cls dd _ H => E cls dd H) (N := r.ps ++ r.fr) (sc := r.sc) rfl rfl rfl rfl rfl rfl hd.sc.nd rfl rfl tk (hr.mono (by omega))
  exact (chk_all r.tm cx).de _ _ hd.chk fun o ho => nomatch ho
theorem lev_succ (h : TxtOk T w K mg base t) (l : LevOk T P w K mg base t j k) : LevOk T P w K mg base t (j + 2) (k + 1) := by
  refine ⟨fun x d e => ?_, fun x q e => ?_, fun c m d e => ?_, fun c m d e => ?_, fun id caps ds S z => ?_⟩
  · obtain ⟨f, fd, h1, h2, h3⟩ := h.fn x d e
    have q := def_step (P := P) h l h3 d.kp
    have e2 : (lev t (k + 1)).fn x = fnF d.N d.ps d.kp (exs (lev t k) d.body) := by
      funext ds S
      show (match t.fns.lookup x with
        | some d => fnF d.N d.ps d.kp (exs (lev t k) d.body) ds S
        | none => match t.ini.lookup x with
          | some q => mkF x q.1 (fnF q.2.N q.2.ps false (exs (lev t k) q.2.body)) ds S
          | none => .bad) = _
      rw [e]
    exact ⟨f, fd, h1, h2, by rw [e2]; exact q, h3⟩
  · obtain ⟨h0, C, f, fd, ps, h1, h2, h3, h4⟩ := h.ini x q e
    have z := def_step (P := P) h l h4 false
    refine ⟨C, f, fd, ps, _, h1, h2, h3, by rw [← h3]; exact z, h4, fun ds S => ?_⟩
    show (match t.fns.lookup x with
      | some d => fnF d.N d.ps d.kp (exs (lev t k) d.body) ds S
      | none => match t.ini.lookup x with
        | some q => mkF x q.1 (fnF q.2.N q.2.ps false (exs (lev t k) q.2.body)) ds S
        | none => .bad) = _
    rw [h0, e]
  · obtain ⟨h0, C, p, f, fd, h1, h2, h3, h4⟩ := h.me c m d e
    have z := def_step (P := P) h l h4 d.kp
    refine ⟨C, p, f, fd, _, h1, h2, h3, by rw [← h0]; exact z, h4, h0, fun o S => ?_⟩
    show (match t.mes.lookup (c, m) with
      | some d => fnF d.N d.ps d.kp (exs (lev t k) d.body) [o] S
      | none => match t.met.lookup (c, m) with
        | some d => fnF d.N d.ps d.kp (exs (lev t k) d.body) [o] S
        | none => .bad) = _
    rw [e]
  · obtain ⟨h0, C, f, fd, h1, h2, h3, h4⟩ := h.met c m d e
    have z := def_step (P := P) h l h4 d.kp
    refine ⟨C, f, fd, _, h1, h2, h3, z, h4, fun o q S => ?_⟩
    show (match t.mes.lookup (c, m) with
      | some d => fnF d.N d.ps d.kp (exs (lev t k) d.body) (o :: q) S
      | none => match t.met.lookup (c, m) with
        | some d => fnF d.N d.ps d.kp (exs (lev t k) d.body) (o :: q) S
        | none => .bad) = _
    rw [h0, e]
  · have z : (match Lams.tab id with
      | some r => cloF r (ev (lev t k) r.tm) ds caps S
      | none => .bad) ≠ .bad := z
    cases hq : Lams.tab id with
    | none => rw [hq] at z; exact (z rfl).elim
    | some r =>
      refine ⟨r, ev (lev t k) r.tm, rfl, lam_step h l (h.lam id r hq), ?_⟩
      show (match Lams.tab id with
        | some r => cloF r (ev (lev t k) r.tm) ds caps S
        | none => .bad) = _
      rw [hq]
theorem lev_all (h : TxtOk T w K mg base t) : ∀ k, LevOk T P w K mg base t (2 * k) k
  | 0 => lev_zero h
  | k + 1 => lev_succ h (lev_all h k)
end
/-- the law's end -/
theorem law_at {l : PySem.W.OpenLaw} {w : World} {K : PySem.W.Frag} {mg : Str → Option Value} {n k : Nat} {x nm : Str} {fa : Addr} {h : Heap} {t : Txt} {cs : List ((Addr × Addr) × Str)} {d : DefR}
    (hm : mg nm = some (.ref fa)) (hd : t.fns.lookup nm = some d) (hps : d.ps = [x])
    (hT : ∀ p ∈ cs, h.get? p.1.2 = some { cls := .none, data := .fields #[] }) (nT : ∀ p ∈ cs, K.lookup p.1.2 = none) (hC : ∀ p ∈ cs, PySem.W.CodeHd h p.1.1 p.1.2)
    (hK : K.In h) (hns : h.Ns mainGlobals mg)
    (ok : ∀ base : Heap, K.In base → base.Ns mainGlobals mg → (∀ p ∈ cs, LamX.TabB base mg p.1.1 p.1.2) → TxtOk (cs.map fun p => (p.1.2, p.2)) w K mg base t)
    (fdx : ∃ fd, (∀ us : List Value, us.length = 1 → bindArgs fd ⟨us, []⟩ = pure ([x].zip us)) ∧ ∀ base : Heap, K.In base → base.Ns mainGlobals mg → (∀ p ∈ cs, LamX.TabB base mg p.1.1 p.1.2) → ∀ f fd', mg nm = some (.ref f) → DefOk (cs.map fun p => (p.1.2, p.2)) K mg base t f fd' d → fd' = fd)
    (law : ∀ ns : List Int, ns.length ≤ n → ∃ S', (lev t k).fn nm [.scr ns] [] = .ok (.bl true) S') :
    LamX.LawAtS l w K (CX l.prog w) (2 * k) n x mg fa h := by
  obtain ⟨fd, hb, hu⟩ := fdx
  refine ⟨fd, cs.map (·.1), fun vs H Q E => ∃ ρ ds S, StoreOk K mg H ρ S ∧ LamX.Tabs (cs.map fun p => (p.1.2, p.2)) H ∧ D.hasCloL ds = false ∧ RDs (pr0 K mg H ρ) ds vs ∧ GoodC (cs.map fun p => (p.1.2, p.2)) K mg H ρ Q E ((lev t k).fn nm ds S), fun p hp => ?_, fun p hp => ?_, fun p hp => ?_, fun s u => .of_eq (hb [u] rfl), fun H a ns hl _ hTab hS => ?_, fun base kb nb tb => ?_⟩
  · obtain ⟨q, hq, e⟩ := List.mem_map.mp hp
    rw [← e]
    exact hT q hq
  · obtain ⟨q, hq, e⟩ := List.mem_map.mp hp
    rw [← e]
    exact nT q hq
  · obtain ⟨q, hq, e⟩ := List.mem_map.mp hp
    rw [← e]
    exact hC q hq
  · obtain ⟨S', e⟩ := law ns hl
    refine ⟨⟨[], []⟩, [.scr ns], [], ⟨rfl, List.nodup_nil, fun k a m e => by simp at e, fun a ha => nomatch ha⟩, fun p hp => ?_, rfl, ⟨.ref a, [], rfl, ⟨a, rfl, ?_⟩, rfl⟩, ?_⟩
    · obtain ⟨q, hq, e⟩ := List.mem_map.mp hp
      rw [← e]
      exact ⟨#[], hTab q.1 (List.mem_map.mpr ⟨q, hq, rfl⟩), trivial, fun pos cv hc => nomatch hc⟩
    · rcases hS with hS | hS
      · exact .inl ⟨hS, fun z => z.elim (fun z => nomatch z) fun z => nomatch z⟩
      · exact .inr (.inr hS)
    · rw [e]
      exact ⟨rfl, fun v H' ρ' _ _ _ r => r⟩
  · have tb' : ∀ p ∈ cs, LamX.TabB base mg p.1.1 p.1.2 := fun p hp => tb p.1 (List.mem_map.mpr ⟨p, hp, rfl⟩)
    have l := lev_all (P := l.prog) (ok base kb nb tb') k
    obtain ⟨f, fd', h1, h2, h3, h4⟩ := l.fn nm d hd
    have e := hu base kb nb tb' f fd' h1 h4
    subst e
    rw [hm] at h1
    cases h1
    rw [hps] at h3
    exact h3.ok
end MM
end
section
set_option Elab.async false
set_option linter.all false
set_option maxRecDepth 100000
set_option maxHeartbeats 8000000
/-! The head's facts for a text. -/
namespace MM
open PySem PySem.Spec PyProof.Rows L2 NdefX
/-- a def found at an address -/
structure DefA where
  at_ : PySem.W.Frag → Addr
  name : Str
  qual : Str
  params : Arguments
  body : List Stmt
  scope : Scope
def fnA (K : PySem.W.Frag) (a : Addr) : He.FnW := match K.lookup a with
  | some ⟨_, _, .func fd, _⟩ => some (fd.name, fd.qualname, fd.params, fd.body, fd.scope, fd.globals, fd.closure, fd.builtins)
  | _ => none
def DefA.val (d : DefA) : He.FnW := some (d.name, d.qual, d.params, .stmts d.body, d.scope, mainGlobals, [], builtinsNs)
def noneB : Value → Bool
  | .none => true
  | _ => false
theorem noneB_ok {v : Value} (h : noneB v = true) : v = .none := by
  cases v <;> first | rfl | cases h
def DefA.okB (K : PySem.W.Frag) (d : DefA) : Bool := PySem.W.keepIn K (.ref (d.at_ K)) && (match K.lookup (d.at_ K) with
  | some ⟨_, _, .func fd, _⟩ => PySem.W.codeIn K fd.code d.qual && noneB fd.defaults
  | _ => false)
theorem DefA.fun_ {K : PySem.W.Frag} {d : DefA} (e : fnA K (d.at_ K) = d.val) (c : d.okB K = true) : PySem.W.keepIn K (.ref (d.at_ K)) = true ∧ ∃ (kV doc pm cdv ct oc : Value) (an od : Option Addr) (osl : Array (Option Value)),
    K.lookup (d.at_ K) = some ⟨oc, od, .func (PySem.W.fnOf d.name d.qual d.params d.body d.scope .none kV doc pm an cdv ct), osl⟩ ∧ PySem.W.codeIn K cdv d.qual = true := by
  obtain ⟨kp, c2⟩ := He.ba c
  refine ⟨kp, ?_⟩
  unfold fnA at e
  cases q : K.lookup (d.at_ K) with
  | none =>
    rw [q] at c2
    cases c2
  | some o =>
    obtain ⟨oc, od, dt, osl⟩ := o
    rw [q] at c2 e
    cases dt with
    | func fd =>
      obtain ⟨n1, n2, n3, n4, n5, n6, n7, n8, n9, n10, n11, n12, n13, n14, n15⟩ := fd
      have e2 : (some (n1, n2, n3, n4, n5, n6, n7, n15) : He.FnW) = some (d.name, d.qual, d.params, .stmts d.body, d.scope, mainGlobals, [], builtinsNs) := e
      simp only [Option.some.injEq, Prod.mk.injEq] at e2
      obtain ⟨h1, h2, h3, h4, h5, h6, h7, h8⟩ := e2
      subst h1 h2 h3 h4 h5 h6 h7 h8
      have c3 : (PySem.W.codeIn K n13 d.qual && noneB n8) = true := c2
      obtain ⟨k1, k2⟩ := He.ba c3
      have e8 := noneB_ok k2
      subst e8
      exact ⟨_, _, _, _, _, _, _, _, _, rfl, k1⟩
    | _ => cases c2
/-- its code object, that one's table -/
def codeA (K : PySem.W.Frag) (a : Addr) : Addr := match K.lookup a with
  | some ⟨_, _, .func fd, _⟩ => (match fd.code with
    | .ref c => c
    | _ => 0)
  | _ => 0
def tabA (K : PySem.W.Frag) (d : DefA) : Addr × Addr := (codeA K (d.at_ K), He.tabOf K (codeA K (d.at_ K)))
def lamQ (d : DefA) : Str := d.qual ++ ".<locals>." ++ "<lambda>"
def csOf (K : PySem.W.Frag) (tf : List DefA) : List ((Addr × Addr) × Str) := tf.map fun d => (tabA K d, lamQ d)
def tfB (g : Addr → Option Obj) (tf : List DefA) (K : PySem.W.Frag) : Bool := tf.all (fun d => PySem.W.codeHdIn K (tabA K d).1 (tabA K d).2 && (match g (tabA K d).2 with
    | some o => He.emptyTab o
    | none => false)) && tf.all (fun a => tf.all fun b => !decide ((tabA K a).2 = (tabA K b).2) || decide (lamQ a = lamQ b))
abbrev AlM : Type := List He.FnW × List (Option (List (Option (Str × Int)))) × Bool
def obsM (n : Nat) (ds : List DefA) (ts : List He.Tab) (tf : List DefA) (ex : PySem.W.Frag → Bool) (g : Addr → Option Obj) : AlM :=
  let K := He.frT g (He.asD g n)
  (ds.map fun d => fnA K (d.at_ K), ts.map fun t => He.dicW K (t.1 K), ds.all (fun d => d.okB K) && (ex K && tfB g tf K))
def valM (ds : List DefA) (ts : List He.Tab) (w : World) : AlM := (ds.map DefA.val, ts.map fun t => some (He.keysIn w.params t.2), true)
structure SaysM (ds : List DefA) (ts : List He.Tab) (tf : List DefA) (ex : PySem.W.Frag → Bool) (w : World) (h : Heap) (K : PySem.W.Frag) : Prop where
  d : ∀ d ∈ ds, fnA K (d.at_ K) = d.val ∧ d.okB K = true
  t : ∀ t ∈ ts, He.dicW K (t.1 K) = some (He.keysIn w.params t.2)
  more : ex K = true
  hd : ∀ p ∈ tf, PySem.W.codeHdIn K (tabA K p).1 (tabA K p).2 = true
  out : ∀ p ∈ tf, K.lookup (tabA K p).2 = none
  empty : ∀ p ∈ tf, h.get? (tabA K p).2 = some { cls := .none, data := .fields #[] }
  uq : ∀ p ∈ tf, ∀ q ∈ tf, (tabA K p).2 = (tabA K q).2 → lamQ p = lamQ q
theorem map_eqM {α β : Type} {f g : α → β} : ∀ {l : List α}, l.map f = l.map g → ∀ a ∈ l, f a = g a
  | [], _, a, h => nomatch h
  | b :: r, e, a, h => by
    rw [List.map_cons, List.map_cons] at e
    injection e with e1 e2
    rcases List.mem_cons.mp h with z | z
    · rw [z]
      exact e1
    · exact map_eqM e2 a z
theorem saysM_of {n : Nat} {ds : List DefA} {ts : List He.Tab} {tf : List DefA} {ex : PySem.W.Frag → Bool} {w : World} {h : Heap} (e : obsM n ds ts tf ex h.get? = valM ds ts w) : SaysM ds ts tf ex w h (He.frT h.get? (He.asD h.get? n)) := by
  have e1 := congrArg (fun z : AlM => z.1) e
  have e2 := congrArg (fun z : AlM => z.2.1) e
  have e3 := congrArg (fun z : AlM => z.2.2) e
  generalize hK : He.frT h.get? (He.asD h.get? n) = K
  have e1 : ds.map (fun d => fnA K (d.at_ K)) = ds.map DefA.val := by rw [← hK]; exact e1
  have e2 : ts.map (fun t => He.dicW K (t.1 K)) = ts.map fun t => some (He.keysIn w.params t.2) := by rw [← hK]; exact e2
  have e3 : (ds.all (fun d => d.okB K) && (ex K && tfB h.get? tf K)) = true := by rw [← hK]; exact e3
  obtain ⟨h1, h2⟩ := He.ba e3
  obtain ⟨h3, h4⟩ := He.ba h2
  obtain ⟨h5, h6⟩ := He.ba h4
  have key : ∀ p ∈ tf, PySem.W.codeHdIn K (tabA K p).1 (tabA K p).2 = true ∧ ∃ o, h.get? (tabA K p).2 = some o ∧ He.emptyTab o = true := fun p hp => by
    obtain ⟨h3, h4⟩ := He.ba (List.all_eq_true.mp h5 p hp)
    refine ⟨h3, ?_⟩
    cases q : h.get? (tabA K p).2 with
    | none =>
      rw [q] at h4
      cases h4
    | some o =>
      rw [q] at h4
      exact ⟨o, rfl, h4⟩
  exact ⟨fun d hd => ⟨map_eqM e1 d hd, List.all_eq_true.mp h1 d hd⟩, fun t ht => map_eqM e2 t ht, h3, fun p hp => (key p hp).1, fun p hp => by
    obtain ⟨_, o, q, z⟩ := key p hp
    rw [← hK] at q ⊢
    exact He.frT_none q z, fun p hp => by
    obtain ⟨_, o, q, z⟩ := key p hp
    rw [q, He.emptyTab_eq z], fun p hp q hq e => by
    have z := List.all_eq_true.mp (List.all_eq_true.mp h6 p hp) q hq
    rw [Bool.or_eq_true] at z
    rcases z with z | z
    · simp [e] at z
    · exact of_decide_eq_true z⟩
def hookM (n : Nat) (ds : List DefA) (ts : List He.Tab) (tf : List DefA) (ex : PySem.W.Frag → Bool) : PySem.W.Hook where
  α := AlM
  obs := fun s => obsM n ds ts tf ex s.heap.get?
  val := fun w => valM ds ts w
  says := fun w h => ∃ K : PySem.W.Frag, K.In h ∧ SaysM ds ts tf ex w h K
  of := fun _ _ e => ⟨_, He.frT_in, saysM_of e⟩
  keeps := fun _ _ _ ⟨K, hK, c⟩ k => ⟨K, PySem.W.Frag.In.keeps hK k, ⟨c.d, c.t, c.more, c.hd, c.out, fun p hp => k _ _ (c.empty p hp), c.uq⟩⟩
theorem obsM_eq {n : Nat} {ds : List DefA} {ts : List He.Tab} {tf : List DefA} {ex : PySem.W.Frag → Bool} {g : Addr → Option Obj} {s : Shared} (h : ∀ a, g a = s.heap.get? a) : obsM n ds ts tf ex g = (hookM n ds ts tf ex).obs s := by
  have e : g = s.heap.get? := funext h
  rw [e] <;> rfl
/-! ### what a text asks of the heap -/
mutual
def conV (K : PySem.W.Frag) : D → Value → Bool
  | .non, .none => true
  | .bl b, .bool c => b == c
  | .int i, .int j _ => decide (i = j)
  | .str x, .str y _ => decide (x = y)
  | .tup l, .ref a => (match K.lookup a with
    | some ⟨.type c, _, .seq its _, _⟩ => decide (c = "tuple") && (decide (its.size ≤ sizeLine) && conVs K l its.toList)
    | _ => false)
  | .glo x, .ref a => He.eqO (PySem.W.nsIn K mainGlobals x) (some (some (.ref a)))
  | _, _ => false
def conVs (K : PySem.W.Frag) : List D → List Value → Bool
  | [], [] => true
  | d :: r, v :: vs => conV K d v && conVs K r vs
  | _, _ => false
end
def conB (K : PySem.W.Frag) (q : Str × D) : Bool := match PySem.W.nsIn K mainGlobals q.1 with
  | some (some u) => conV K q.2 u
  | _ => false
mutual
theorem conV_ok [Lams] {K : PySem.W.Frag} {h : Heap} {mg : Str → Option Value} (X : K.In h) (G : h.Ns mainGlobals mg) : ∀ (d : D) (u : Value), conV K d u = true → ∃ v, RelV v u ∧ ∀ H ρ cp, RD ⟨K, mg, H, ρ, cp⟩ d v
  | .non, u, c => by
    cases u with
    | none => exact ⟨.non, rfl, fun _ _ _ => rfl⟩
    | _ => cases c
  | .bl b, u, c => by
    cases u with
    | bool x =>
      have e : b = x := by
        unfold conV at c
        exact eq_of_beq c
      rw [e]
      exact ⟨.bl x, rfl, fun _ _ _ => rfl⟩
    | _ => cases c
  | .int i, u, c => by
    cases u with
    | int j tt =>
      have e : i = j := of_decide_eq_true (by unfold conV at c; exact c)
      rw [e]
      exact ⟨.int j, ⟨tt, rfl⟩, fun _ _ _ => rfl⟩
    | _ => cases c
  | .str i, u, c => by
    cases u with
    | str j tt =>
      have e : i = j := of_decide_eq_true (by unfold conV at c; exact c)
      rw [e]
      exact ⟨.str j, ⟨tt, rfl⟩, fun _ _ _ => rfl⟩
    | _ => cases c
  | .tup l, u, c => by
    cases u with
    | ref a =>
      have c1 : (match K.lookup a with
        | some ⟨.type c, _, .seq its _, _⟩ => decide (c = "tuple") && (decide (its.size ≤ sizeLine) && conVs K l its.toList)
        | _ => false) = true := by unfold conV at c; exact c
      cases q : K.lookup a with
      | none =>
        rw [q] at c1
        cases c1
      | some o =>
        obtain ⟨oc, od, dt, osl⟩ := o
        rw [q] at c1
        cases oc with
        | type c =>
          cases dt with
          | seq its n =>
            obtain ⟨h1, h2⟩ := He.ba (show (decide (c = "tuple") && (decide (its.size ≤ sizeLine) && conVs K l its.toList)) = true from c1)
            obtain ⟨h3, h4⟩ := He.ba h2
            obtain ⟨xs, r, hs⟩ := conVs_ok X G l its.toList h4
            exact ⟨.ref a, rfl, fun H ρ cp => ⟨a, xs, rfl, .inr ⟨_, its, n, q, congrArg Value.type (of_decide_eq_true h1), rfl, of_decide_eq_true h3, r⟩, hs H ρ cp⟩⟩
          | _ => cases c1
        | _ => cases dt <;> cases c1
    | _ => cases c
  | .glo x, u, c => by
    cases u with
    | ref a =>
      have e := He.eqO_ok (by unfold conV at c; exact c)
      exact ⟨.ref a, rfl, fun _ _ _ => ⟨a, rfl, PySem.W.mg_of X G e⟩⟩
    | _ => cases c
  | .lst _, u, c => by cases u <;> cases c
  | .dic _ _, u, c => by cases u <;> cases c
  | .dct _ _, u, c => by cases u <;> cases c
  | .obj _ _ _, u, c => by cases u <;> cases c
  | .ref _, u, c => by cases u <;> cases c
  | .scr _, u, c => by cases u <;> cases c
  | .ty _, u, c => by cases u <;> cases c
  | .clo _ _, u, c => by cases u <;> cases c
theorem conVs_ok [Lams] {K : PySem.W.Frag} {h : Heap} {mg : Str → Option Value} (X : K.In h) (G : h.Ns mainGlobals mg) : ∀ (ds : List D) (us : List Value), conVs K ds us = true → ∃ xs, Vals xs us ∧ ∀ H ρ cp, RDs ⟨K, mg, H, ρ, cp⟩ ds xs
  | [], us, c => by
    cases us with
    | nil => exact ⟨[], .nil, fun _ _ _ => rfl⟩
    | cons u us => cases c
  | d :: r, us, c => by
    cases us with
    | nil => cases c
    | cons u us =>
      unfold conVs at c
      obtain ⟨h1, h2⟩ := He.ba c
      obtain ⟨v, r1, q1⟩ := conV_ok X G d u h1
      obtain ⟨xs, r2, q2⟩ := conVs_ok X G r us h2
      exact ⟨v :: xs, .cons r1 r2, fun H ρ cp => ⟨v, xs, rfl, q1 H ρ cp, q2 H ρ cp⟩⟩
end
/-- a written dict's values -/
def kdB (K : PySem.W.Frag) (q : Str × List (Str × D)) : Bool := (He.Fa.glo q.1).ok K && (match K.lookup (He.ga K q.1) with
  | some ⟨_, _, .dict es _, _⟩ => decide (es.toList.length = q.2.length) && (es.toList.zip q.2).all fun z => (match z.1.key with
    | .str x _ => decide (x = z.2.1)
    | _ => false) && conV K z.2.2 z.1.val
  | _ => false)
theorem kd_find [Lams] {K : PySem.W.Frag} {h : Heap} {mg : Str → Option Value} (X : K.In h) (G : h.Ns mainGlobals mg) (z : Str) : ∀ (es : List DictEntry) (kvs : List (Str × D)), es.length = kvs.length → ((es.zip kvs).all fun z => (match z.1.key with
    | .str x _ => decide (x = z.2.1)
    | _ => false) && conV K z.2.2 z.1.val) = true →
    (∃ e dv v, es.find? (·.key.isStr z) = some e ∧ kvs.lookup z = some dv ∧ RelV v e.val ∧ ∀ H ρ cp, RD ⟨K, mg, H, ρ, cp⟩ dv v) ∨ (es.find? (·.key.isStr z) = none ∧ es.any (·.refKey) = false ∧ kvs.lookup z = none)
  | [], [], _, _ => .inr ⟨rfl, rfl, rfl⟩
  | [], _ :: _, e, _ => by cases e
  | _ :: _, [], e, _ => by cases e
  | e :: es, (k, d) :: kvs, hl, c => by
    rw [List.zip_cons_cons, List.all_cons] at c
    obtain ⟨c1, c2⟩ := He.ba c
    obtain ⟨c3, c4⟩ := He.ba c1
    obtain ⟨v, r, q⟩ := conV_ok X G d e.val c4
    have ih := kd_find X G z es kvs (by simpa using hl) c2
    cases ek : e.key with
    | str x tt =>
      rw [ek] at c3
      have exk : x = k := of_decide_eq_true c3
      rw [List.find?_cons, List.lookup_cons]
      have is : e.key.isStr z = (z == k) := by
        rw [PySem.W.isStr_of, ek, exk]
        show (k == z) = (z == k)
        exact Bool.eq_iff_iff.mpr ⟨fun z => by simpa using (eq_of_beq z).symm, fun z => by simpa using (eq_of_beq z).symm⟩
      rw [is]
      cases hb : z == k with
      | true => exact .inl ⟨e, d, v, rfl, rfl, r, q⟩
      | false =>
        rcases ih with ⟨e', dv, v', h1, h2, h3, h4⟩ | ⟨h1, h2, h3⟩
        · exact .inl ⟨e', dv, v', h1, h2, h3, h4⟩
        · refine .inr ⟨h1, ?_, h3⟩
          rw [List.any_cons, h2]
          have : e.refKey = false := by
            unfold DictEntry.refKey
            rw [ek]
          rw [this]
          rfl
    | _ => rw [ek] at c3; cases c3
def namesT : List String := ["NoneType", "bool", "int", "str", "tuple", "list", "dict"]
def clsB (K : PySem.W.Frag) (t : Txt) (c : Str) : Bool := (He.Fa.glo c).ok K && ((He.Fa.cls c).ok K && (He.eqO (PySem.W.findIn K (.ref (He.ga K c)) "__class__") (some (some (.builtin "object.__class__"))) &&
  (He.eqO (PySem.W.specialIn K (.builtin "object.__class__") "__get__") (some (some (.builtin "getset_descriptor.__get__"))) && (decide (PySem.W.takesIn K (.builtin "object.__class__") = some true) && (decide (PySem.W.mroIn K (He.ga K c) (.type "object") = some true) &&
  (["int", "bool", "str", "tuple", "list", "dict"].all (fun n => decide (PySem.W.kitOne K (.ref (He.ga K c)) (.type n) = some false)) && (namesT.all (fun n => decide (PySem.W.kitOne K (.type n) (.ref (He.ga K c)) = some false)) &&
    t.cls.all (fun k => decide (PySem.W.kitOne K (.ref (He.ga K c)) (.ref (He.ga K k)) = some (t.sub.contains (c, k)))))))))))
def paA (K : PySem.W.Frag) (c f : Str) : Addr := He.ma K (He.ga K c) f
def getA (K : PySem.W.Frag) (c f : Str) : Addr := match PySem.W.recIn K (paA K c f) "property" with
  | some (.ref g :: _) => g
  | _ => 0
def propB (K : PySem.W.Frag) (c f : Str) : Bool := (He.Fa.glo c).ok K && ((He.Fa.cls c).ok K && (He.eqO (PySem.W.findIn K (.ref (He.ga K c)) f) (some (some (.ref (paA K c f)))) &&
  (He.eqO (PySem.W.specialIn K (.ref (paA K c f)) "__get__") (some (some (.builtin "property.__get__"))) && (decide (PySem.W.takesIn K (.ref (paA K c f)) = some true) && (match PySem.W.recIn K (paA K c f) "property" with
    | some (.ref _ :: _) => true
    | _ => false)))))
theorem propB_ok {K : PySem.W.Frag} {c f : Str} (h : propB K c f = true) : (He.Fa.glo c).ok K = true ∧ Cls K (He.ga K c) ∧ PropOf K (He.ga K c) f (paA K c f) (getA K c f) := by
  obtain ⟨h1, h⟩ := He.ba h
  obtain ⟨h2, h⟩ := He.ba h
  obtain ⟨h3, h⟩ := He.ba h
  obtain ⟨h4, h⟩ := He.ba h
  obtain ⟨h5, h⟩ := He.ba h
  refine ⟨h1, He.cls_ok h2, He.eqO_ok h3, He.eqO_ok h4, of_decide_eq_true h5, ?_⟩
  unfold getA
  split at h
  · rename_i g rest e
    rw [e]
    exact ⟨rest, rfl⟩
  · cases h
theorem ns_some {K : PySem.W.Frag} {h : Heap} {N : Addr} {mg : Str → Option Value} {n : Str} {v : Value} (X : K.In h) (G : h.Ns N mg) (e : PySem.W.nsIn K N n = some (some v)) : mg n = some v := by
  obtain ⟨o, es, ep, ho, hd, _, hf⟩ := G
  unfold PySem.W.nsIn at e
  split at e
  · rename_i c d es' n' sl q
    have := X _ _ q
    rw [ho] at this
    cases this
    cases hd
    split at e
    · rename_i en he
      cases e
      rw [← hf]
      unfold nsFind findBy
      rw [← Array.find?_toList, he]
      rfl
    · split at e <;> cases e
  · cases e
def oeqB (K : PySem.W.Frag) (t : Txt) (c : Str) : Bool := (match K.lookup (He.ga K c) with
  | some ⟨.type tn, _, .cls cd, sl⟩ => (match cd.mro, sl.toList with
    | [.ref C', .type b], [_, _, _, _, some (.builtin n), _] => decide (tn = "type") && (C' == He.ga K c && (b == "object" && (!cd.hasDel && (PySem.W.nsOkIn K cd.ns && (He.eqO (PySem.W.nsIn K cd.ns "__eq__") (some (some (.ref (He.ma K (He.ga K c) "__eq__")))) && He.eqO (PySem.W.nsIn K cd.ns "__ne__") (some none))))))
    | _, _ => false)
  | _ => false) && ((match K.lookup (He.ma K (He.ga K c) "__eq__") with
  | some ⟨.type tn, _, .func _, _⟩ => decide (tn = "function")
  | _ => false) && (names7.all (fun n => decide (PySem.W.subIn K (.type n) (.ref (He.ga K c)) = some false)) && t.cls.all (fun k => decide (He.ga K k = He.ga K c) || decide (PySem.W.subIn K (.ref (He.ga K k)) (.ref (He.ga K c)) = some false))))
theorem oeqB_ok {K : PySem.W.Frag} {t : Txt} {c : Str} (h : oeqB K t c = true) (cl : Cls K (He.ga K c)) (m : Meth K (He.ga K c) "__eq__" (He.ma K (He.ga K c) "__eq__")) :
    OeC K (He.ga K c) (He.ma K (He.ga K c) "__eq__") ∧ ∀ k ∈ t.cls, He.ga K k = He.ga K c ∨ PySem.W.subIn K (.ref (He.ga K k)) (.ref (He.ga K c)) = some false := by
  obtain ⟨h1, h⟩ := He.ba h
  obtain ⟨h2, h⟩ := He.ba h
  obtain ⟨h3, h4⟩ := He.ba h
  refine ⟨⟨cl, m.at_, m.fn, fun hp x o X e1 e2 => ?_, fun n hn => of_decide_eq_true (List.all_eq_true.mp h3 n hn)⟩, fun k hk => ?_⟩
  · split at h1
    · rename_i tn dd cd sl ho
      split at h1
      · rename_i C' b k0 k1 k2 k3 n k5 hm hs
        obtain ⟨q0, h1⟩ := He.ba h1
        obtain ⟨q1, h1⟩ := He.ba h1
        obtain ⟨q2, h1⟩ := He.ba h1
        obtain ⟨q3, h1⟩ := He.ba h1
        obtain ⟨q4, h1⟩ := He.ba h1
        obtain ⟨q5, q6⟩ := He.ba h1
        have p0 := of_decide_eq_true q0
        have p1 := eq_of_beq q1
        have p2 := eq_of_beq q2
        have p3 := (Bool.not_eq_true' _).mp q3
        have p5 := He.eqO_ok q5
        have p6 := He.eqO_ok q6
        clear q0 q1 q2 q3 q5 q6
        subst p0 p2
        split at h2
        · rename_i tn2 dd2 fd2 sl2 hof
          have p7 := of_decide_eq_true h2
          subst p7
          obtain ⟨nm, bs, mro, ns, qn, hd, sn, sub, ab, col, del⟩ := cd
          dsimp only at hm p3 q4 p5 p6
          subst hm p3
          have hsl : sl = #[k0, k1, k2, k3, some (.builtin n), k5] := by
            obtain ⟨l⟩ := sl
            simp only at hs
            rw [hs]
          subst hsl
          subst p1
          have N := Heap.Ns.of_isNs (PySem.W.isNs_of_in X q4)
          exact ⟨o, _, nm, qn, ns, bs, hd, sn, sub, ab, col, dd, k0, k1, k2, k3, k5, _, _, _, e1, e2, X _ _ ho, N, ns_some X N p5, X _ _ hof, rfl, PySem.F.cmp_object.mro, rfl, PySem.W.ns_none_of X N p6⟩
        · cases h2
      · cases h1
    · cases h1
  · have z := List.all_eq_true.mp h4 k hk
    rw [Bool.or_eq_true, decide_eq_true_eq, decide_eq_true_eq] at z
    exact z
def metB (K : PySem.W.Frag) (t : Txt) (c m : Str) : Bool := (He.Fa.glo c).ok K && ((He.Fa.cls c).ok K && ((He.Fa.meth c m).ok K && (if m = ("__eq__" : Str) then oeqB K t c else true)))
def txtB (t : Txt) (K : PySem.W.Frag) : Bool :=
  t.fns.all (fun q => (He.Fa.glo q.1).ok K) && (t.ini.all (fun q => (He.Fa.glo q.1).ok K && (He.Fa.mkr q.1).ok K) && (t.cls.all (clsB K t) && (t.mes.all (fun q => propB K q.1.1 q.1.2) && (t.met.all (fun q => metB K t q.1.1 q.1.2) && (t.con.all (conB K) && (t.kd.all (kdB K) &&
    (t.blt.all (fun x => if x = ("@gcd" : Str) then decide (PySem.W.nsIn K mainGlobals ("gcd" : Str) = some (some (.builtin "math.gcd"))) && (He.Fa.free ("@gcd" : Str)).ok K else (He.Fa.free x).ok K) && t.fs.all (fun q => (He.Fa.glo q.1).ok K && ((He.Fa.cls q.1).ok K && (He.Fa.noat q.1 q.2).ok K)))))))))
theorem lookup_memM {α β : Type} [BEq α] [LawfulBEq α] {x : α} {b : β} : ∀ {l : List (α × β)}, l.lookup x = some b → (x, b) ∈ l
  | [], h => by cases h
  | (a, c) :: r, h => by
    rw [List.lookup_cons] at h
    cases e : x == a with
    | true =>
      rw [e] at h
      cases h
      rw [eq_of_beq e]
      exact List.mem_cons_self
    | false =>
      rw [e] at h
      exact List.mem_cons_of_mem _ (lookup_memM h)
/-! ### the texts of the defs -/
variable [Lams]
structure LamT (qual : Str) (scope : Scope) (N : List Str) (o : Ob) : Prop where
  ex : ∃ r, r.args = o.args ∧ r.body = o.body ∧ r.sc = o.sc ∧ Lams.tab o.id = some r ∧ qual ++ "<lambda>" = r.qual ∧
    (∀ env, defaultsOf r.args env = ([], [])) ∧ (∀ y ∈ r.sc.names, y.2 = .free → (scope.names.lookup y.1 = some .cell ∨ scope.names.lookup y.1 = some .free) ∧ y.1 ∈ r.fr) ∧ (∀ y ∈ r.fr, (y, NameKind.free) ∈ r.sc.names) ∧ o.js.map (fun j => N[j]?) = r.fr.map some
structure SrcOk (t : Txt) (tf : List DefA) (a : DefA) (d : DefR) : Prop where
  sc : FnScope d.N d.ps a.scope
  bind : ∀ (kV doc pm : Value) (an : Option Addr) (cdv ct : Value) (us : List Value), us.length = d.ps.length → bindArgs (PySem.W.fnOf a.name a.qual a.params a.body a.scope .none kV doc pm an cdv ct) ⟨us, []⟩ = pure (d.ps.zip us)
  chk : ∃ obs, chkSs (t.cc d.N a.scope) d.body a.body = some obs ∧ (∀ o ∈ obs, LamT (a.qual ++ ".<locals>.") a.scope d.N o) ∧ (obs = [] ∨ a ∈ tf)
def noneOb : Option (List Ob) → Bool
  | some [] => true
  | _ => false
theorem noneOb_ok {o : Option (List Ob)} (h : noneOb o = true) : o = some [] := by
  unfold noneOb at h
  split at h
  · rfl
  · cases h
theorem src_none {t : Txt} {tf : List DefA} {a : DefA} {d : DefR} (h : noneOb (chkSs (t.cc d.N a.scope) d.body a.body) = true) : ∃ obs, chkSs (t.cc d.N a.scope) d.body a.body = some obs ∧ (∀ o ∈ obs, LamT (a.qual ++ ".<locals>.") a.scope d.N o) ∧ (obs = [] ∨ a ∈ tf) :=
  ⟨[], noneOb_ok h, fun o ho => (by cases ho), .inl rfl⟩
theorem src_some {t : Txt} {tf : List DefA} {a : DefA} {d : DefR} {nb : Ob} (h : (chkSs (t.cc d.N a.scope) d.body a.body).isSome = true) (n : Nat) (hl : decide (((chkSs (t.cc d.N a.scope) d.body a.body).getD []).length = n) = true) (ha : a ∈ tf)
    (al : ∀ o ∈ (List.range n).map (fun j => ((chkSs (t.cc d.N a.scope) d.body a.body).getD []).getD j nb), LamT (a.qual ++ ".<locals>.") a.scope d.N o) :
    ∃ obs, chkSs (t.cc d.N a.scope) d.body a.body = some obs ∧ (∀ o ∈ obs, LamT (a.qual ++ ".<locals>.") a.scope d.N o) ∧ (obs = [] ∨ a ∈ tf) := by
  obtain ⟨obs, e⟩ := Option.isSome_iff_exists.mp h
  rw [e] at hl al
  have hl : obs.length = n := of_decide_eq_true hl
  refine ⟨obs, e, fun o ho => ?_, .inr ha⟩
  obtain ⟨j, hj, ej⟩ := List.mem_iff_getElem.mp ho
  refine al o (List.mem_map.mpr ⟨j, List.mem_range.mpr (by rw [← hl]; exact hj), ?_⟩)
  show obs.getD j nb = o
  rw [List.getD_eq_getElem?_getD, List.getElem?_eq_getElem hj, ej]
  rfl
theorem lam_none {t : Txt} {r : LamRec} (h : noneOb (chk (t.cc (r.ps ++ r.fr) r.sc) r.tm r.body) = true) : chk (t.cc (r.ps ++ r.fr) r.sc) r.tm r.body = some [] := noneOb_ok h
def AllL {α : Type} (P : α → Prop) : List α → Prop
  | [] => True
  | a :: r => P a ∧ AllL P r
theorem AllL.at {α : Type} {P : α → Prop} : ∀ {l : List α}, AllL P l → ∀ a ∈ l, P a
  | [], _, a, h => nomatch h
  | b :: r, c, a, h => by
    rcases List.mem_cons.mp h with z | z
    · rw [z]
      exact c.1
    · exact AllL.at c.2 a z
theorem lam_all {t : Txt} {l : List LamRec} (h : AllL (LamD t) l) : ∀ (id : Nat) (r : LamRec), l[id]? = some r → LamD t r := fun id r e => h.at r (List.mem_of_getElem? e)
/-- what is known of the text alone -/
structure Src (t : Txt) (ds tf : List DefA) (ts : List He.Tab) : Prop where
  fn : AllL (fun q : Str × DefR => ∃ a ∈ ds, (∀ K, a.at_ K = He.ga K q.1) ∧ SrcOk t tf a q.2) t.fns
  ini : AllL (fun q : Str × Bool × DefR => t.fns.lookup q.1 = none ∧ ∃ ps, q.2.2.ps = ("self" : Str) :: ps ∧ ∃ a ∈ ds, (∀ K, a.at_ K = He.ma K (He.ga K q.1) "__init__") ∧ SrcOk t tf a q.2.2) t.ini
  me : AllL (fun q : (Str × Str) × DefR => q.2.ps = [("self" : Str)] ∧ ∃ a ∈ ds, (∀ K, a.at_ K = getA K q.1.1 q.1.2) ∧ SrcOk t tf a q.2) t.mes
  met : AllL (fun q : (Str × Str) × DefR => t.mes.lookup q.1 = none ∧ (q.1.2 = ("__eq__" : Str) → q.2.ps = [("self" : Str), ("other" : Str)]) ∧ ∃ a ∈ ds, (∀ K, a.at_ K = He.ma K (He.ga K q.1.1) q.1.2) ∧ SrcOk t tf a q.2) t.met
  lam : ∀ id r, Lams.tab id = some r → LamD t r
  kd : AllL (fun q : Str × List (Str × D) => ∃ tt ∈ ts, ∀ K, tt.1 K = He.ga K q.1) t.kd
  kws : AllL (fun q : Str × List Str × List Str => ∃ d, t.fns.lookup q.1 = some d ∧ d.ps = q.2.1 ∧ ∃ a ∈ ds, (∀ K, a.at_ K = He.ga K q.1) ∧
    ∀ (kV doc pm : Value) (an : Option Addr) (cdv ct : Value) (us : List Value), us.length = q.2.2.length → bindArgs (PySem.W.fnOf a.name a.qual a.params a.body a.scope .none kV doc pm an cdv ct) ⟨[], q.2.2.zip us⟩ = pure (q.2.1.zip (permBy q.2.1 q.2.2 us))) t.kws
section
variable {t : Txt} {ds tf : List DefA} {ts : List He.Tab} {w : World} {h base : Heap} {K : PySem.W.Frag} {mg : Str → Option Value}
theorem codeA_eq {a : Addr} {oc : Value} {od : Option Addr} {osl : Array (Option Value)} {fd : FuncData} {c : Addr} (lk : K.lookup a = some ⟨oc, od, .func fd, osl⟩) (e : fd.code = .ref c) : codeA K a = c := by
  unfold codeA
  rw [lk]
  show (match fd.code with | .ref c => c | _ => 0) = c
  rw [e]
theorem src_def (c : SaysM ds ts tf (txtB t) w h K) (tb : ∀ p ∈ csOf K tf, LamX.TabB base mg p.1.1 p.1.2) {a : DefA} {d : DefR} (ha : a ∈ ds) (s : SrcOk t tf a d) :
    PySem.W.keepIn K (.ref (a.at_ K)) = true ∧ ∃ fd, DefOk ((csOf K tf).map fun p => (p.1.2, p.2)) K mg base t (a.at_ K) fd d ∧ ∃ (kV doc pm cdv ct oc : Value) (an od : Option Addr) (osl : Array (Option Value)), fd = PySem.W.fnOf a.name a.qual a.params a.body a.scope .none kV doc pm an cdv ct ∧ K.lookup (a.at_ K) = some ⟨oc, od, .func fd, osl⟩ := by
  obtain ⟨e1, e2⟩ := c.d a ha
  obtain ⟨kp, kV, doc, pm, cdv, ct, oc, an, od, osl, lk, hc⟩ := DefA.fun_ e1 e2
  obtain ⟨obs, h1, h2, h3⟩ := s.chk
  refine ⟨kp, _, ⟨⟨a.name, a.qual, a.params, a.body, a.scope, .none, kV, doc, pm, cdv, ct, oc, an, od, osl, rfl, lk, hc, s.sc, obs, h1, fun o ho => ?_⟩, fun us hl => s.bind kV doc pm an cdv ct us hl⟩, kV, doc, pm, cdv, ct, oc, an, od, osl, rfl, lk⟩
  obtain ⟨r, q1, q2, q3, q4, q5, q6, q7, q8, q9⟩ := (h2 o ho).ex
  refine ⟨r, q1, q2, q3, q4, q5, ?_, q6, q7, q8, q9⟩
  have hf : a ∈ tf := by
    rcases h3 with z | z
    · rw [z] at ho
      cases ho
    · exact z
  obtain ⟨cc, ec⟩ := He.codeIn_ref hc
  subst ec
  have e3 : (tabA K a).1 = cc := codeA_eq lk rfl
  have hm : (tabA K a, lamQ a) ∈ csOf K tf := List.mem_map.mpr ⟨a, hf, rfl⟩
  refine ⟨cc, (tabA K a).2, rfl, by rw [← e3]; exact tb _ hm, List.mem_map.mpr ⟨_, hm, rfl⟩, fun p hp hpe => ?_⟩
  obtain ⟨z, hz, ez⟩ := List.mem_map.mp hp
  obtain ⟨b, hb, eb⟩ := List.mem_map.mp hz
  subst eb
  subst ez
  exact (c.uq a hf b hb hpe.symm).symm
theorem src_txt (s : Src t ds tf ts) (c : SaysM ds ts tf (txtB t) w h K) (X : K.In h) (G : h.Ns mainGlobals mg) (tb : ∀ p ∈ csOf K tf, LamX.TabB base mg p.1.1 p.1.2) :
    TxtOk ((csOf K tf).map fun p => (p.1.2, p.2)) w K mg base t := by
  have m := c.more
  unfold txtB at m
  obtain ⟨m1, m⟩ := He.ba m
  obtain ⟨m2, m⟩ := He.ba m
  obtain ⟨m3, m⟩ := He.ba m
  obtain ⟨m4, m⟩ := He.ba m
  obtain ⟨m9, m⟩ := He.ba m
  obtain ⟨m5, m⟩ := He.ba m
  obtain ⟨m6, m⟩ := He.ba m
  obtain ⟨m7, m8⟩ := He.ba m
  have cl : ∀ c, t.cls.contains c = true → clsB K t c = true := fun c e => List.all_eq_true.mp m3 c (List.contains_iff_mem.mp e)
  have clm : ∀ {c C}, t.cls.contains c = true → mg c = some (.ref C) → C = He.ga K c := fun {c C} e hm => by
    have := (He.ba (cl c e)).1
    rw [He.glo_ok X G this] at hm
    cases hm
    rfl
  refine ⟨fun x d e => ?_, fun x q e => ?_, fun x f d e => ?_, fun x f d e => ?_, fun c' C' e hmc => ?_, s.lam, ⟨fun c C e hm => ?_, fun c C n e hm hn => ?_, fun c C n e hm hn => ?_, fun c C k C' e e' hm hm' => ?_⟩, fun x d e => ?_, ⟨fun x kvs e => ?_⟩, fun x e n => ?_, fun e => ?_, fun x ps ks e => ?_, ⟨fun x f C e hm => ?_⟩⟩
  · have hm := lookup_memM e
    obtain ⟨a, ha, e2, so⟩ := s.fn.at _ hm
    obtain ⟨kp, fd, D, _⟩ := src_def c tb ha so
    have g := He.glo_ok X G (List.all_eq_true.mp m1 _ hm)
    rw [e2] at kp D
    exact ⟨_, fd, g, kp, D⟩
  · have hm := lookup_memM e
    obtain ⟨h0, ps, h1, a, ha, e2, so⟩ := s.ini.at _ hm
    obtain ⟨kp, fd, D, _⟩ := src_def c tb ha so
    obtain ⟨g1, g2⟩ := He.ba (List.all_eq_true.mp m2 _ hm)
    rw [e2] at kp D
    exact ⟨h0, _, _, fd, ps, He.glo_ok X G g1, He.mkr_ok g2, h1, D⟩
  · have hm := lookup_memM e
    obtain ⟨h0, a, ha, e2, so⟩ := s.me.at _ hm
    obtain ⟨kp, fd, D, _⟩ := src_def c tb ha so
    obtain ⟨g1, g2, g3⟩ := propB_ok (List.all_eq_true.mp m4 _ hm)
    rw [e2] at kp D
    exact ⟨h0, _, _, _, fd, He.glo_ok X G g1, g2, g3, D⟩
  · have hm := lookup_memM e
    obtain ⟨h0, _, a, ha, e2, so⟩ := s.met.at _ hm
    obtain ⟨kp, fd, D, _⟩ := src_def c tb ha so
    have z := List.all_eq_true.mp m9 _ hm
    obtain ⟨g1, z⟩ := He.ba z
    obtain ⟨g2, z⟩ := He.ba z
    obtain ⟨g3, z⟩ := He.ba z
    rw [e2] at kp D
    exact ⟨h0, _, _, fd, He.glo_ok X G g1, He.cls_ok g2, He.meth_ok g3, D⟩
  · obtain ⟨d, hd⟩ := Option.isSome_iff_exists.mp e
    have hm := lookup_memM hd
    obtain ⟨_, h1, _⟩ := s.met.at _ hm
    have z := List.all_eq_true.mp m9 _ hm
    obtain ⟨g1, z⟩ := He.ba z
    obtain ⟨g2, z⟩ := He.ba z
    obtain ⟨g3, z⟩ := He.ba z
    have z : (if ("__eq__" : Str) = ("__eq__" : Str) then oeqB K t c' else true) = true := z
    rw [if_pos rfl] at z
    rw [He.glo_ok X G g1] at hmc
    cases hmc
    obtain ⟨o1, o2⟩ := oeqB_ok z (He.cls_ok g2) (He.meth_ok g3)
    refine ⟨⟨d, hd, h1 rfl⟩, ⟨_, o1⟩, fun c2 C2 e2 hm2 => ?_⟩
    have e2' := cl c2 e2
    rw [clm e2 hm2]
    exact o2 c2 (List.contains_iff_mem.mp e2)
  · have e : t.cls.contains c = true := e
    rw [clm e hm]
    have z := cl c e
    unfold clsB at z
    obtain ⟨z1, z⟩ := He.ba z
    obtain ⟨z2, z⟩ := He.ba z
    obtain ⟨z3, z⟩ := He.ba z
    obtain ⟨z4, z⟩ := He.ba z
    obtain ⟨z5, z⟩ := He.ba z
    obtain ⟨z6, z⟩ := He.ba z
    exact ⟨He.cls_ok z2, He.eqO_ok z3, He.eqO_ok z4, of_decide_eq_true z5, of_decide_eq_true z6⟩
  · have e : t.cls.contains c = true := e
    rw [clm e hm]
    have z := cl c e
    unfold clsB at z
    obtain ⟨z1, z⟩ := He.ba z
    obtain ⟨z2, z⟩ := He.ba z
    obtain ⟨z3, z⟩ := He.ba z
    obtain ⟨z4, z⟩ := He.ba z
    obtain ⟨z5, z⟩ := He.ba z
    obtain ⟨z6, z⟩ := He.ba z
    obtain ⟨z7, z⟩ := He.ba z
    have hmem : n ∈ ["int", "bool", "str", "tuple", "list", "dict"] := by
      simp only [Bool.or_eq_true, beq_iff_eq] at hn
      simp only [List.mem_cons, List.not_mem_nil, or_false]
      simpa [or_assoc] using hn
    exact of_decide_eq_true (List.all_eq_true.mp z7 n hmem)
  · have e : t.cls.contains c = true := e
    rw [clm e hm]
    have z := cl c e
    unfold clsB at z
    obtain ⟨z1, z⟩ := He.ba z
    obtain ⟨z2, z⟩ := He.ba z
    obtain ⟨z3, z⟩ := He.ba z
    obtain ⟨z4, z⟩ := He.ba z
    obtain ⟨z5, z⟩ := He.ba z
    obtain ⟨z6, z⟩ := He.ba z
    obtain ⟨z7, z⟩ := He.ba z
    obtain ⟨z8, z⟩ := He.ba z
    have hmem : n ∈ namesT := by
      unfold namesT
      simp only [List.mem_cons, List.not_mem_nil, or_false]
      simpa [or_assoc] using hn
    exact of_decide_eq_true (List.all_eq_true.mp z8 n hmem)
  · have e : t.cls.contains c = true := e
    have e' : t.cls.contains k = true := e'
    rw [clm e hm, clm e' hm']
    have z := cl c e
    unfold clsB at z
    obtain ⟨z1, z⟩ := He.ba z
    obtain ⟨z2, z⟩ := He.ba z
    obtain ⟨z3, z⟩ := He.ba z
    obtain ⟨z4, z⟩ := He.ba z
    obtain ⟨z5, z⟩ := He.ba z
    obtain ⟨z6, z⟩ := He.ba z
    obtain ⟨z7, z⟩ := He.ba z
    obtain ⟨z8, z⟩ := He.ba z
    exact of_decide_eq_true (List.all_eq_true.mp z k (List.contains_iff_mem.mp e'))
  · have z := List.all_eq_true.mp m5 _ (lookup_memM e)
    unfold conB at z
    cases q : PySem.W.nsIn K mainGlobals x with
    | none =>
      have z : (match PySem.W.nsIn K mainGlobals x with
        | some (some u) => conV K d u
        | _ => false) = true := z
      rw [q] at z
      cases z
    | some o =>
      have z : (match PySem.W.nsIn K mainGlobals x with
        | some (some u) => conV K d u
        | _ => false) = true := z
      rw [q] at z
      cases o with
      | none => cases z
      | some u =>
        obtain ⟨v, r, hr⟩ := conV_ok X G d u z
        exact ⟨v, u, PySem.W.mg_of X G q, r, fun H ρ cp _ => hr H ρ cp⟩
  · have e : t.kd.lookup x = some kvs := e
    have hm := lookup_memM e
    obtain ⟨tt, htt, e2⟩ := s.kd.at _ hm
    obtain ⟨es, n, KD⟩ := He.dicW_ok (w := w) (c.t tt htt)
    rw [e2] at KD
    have z := List.all_eq_true.mp m6 _ hm
    unfold kdB at z
    obtain ⟨z1, z2⟩ := He.ba z
    have z2 : (match K.lookup (He.ga K x) with
      | some ⟨_, _, .dict es _, _⟩ => decide (es.toList.length = kvs.length) && (es.toList.zip kvs).all fun z => (match z.1.key with
        | .str x _ => decide (x = z.2.1)
        | _ => false) && conV K z.2.2 z.1.val
      | _ => false) = true := z2
    rw [KD.at_] at z2
    obtain ⟨z3, z4⟩ := He.ba z2
    refine ⟨_, es, n, He.glo_ok X G z1, KD, fun zk => ?_⟩
    have hns : PySem.W.nsIn K (He.ga K x) zk = (match es.toList.find? (·.key.isStr zk) with
      | some e => some (some e.val)
      | none => if es.toList.any (·.refKey) then none else some none) := by
      unfold PySem.W.nsIn
      rw [KD.at_]
      rfl
    rcases kd_find X G zk es.toList kvs (of_decide_eq_true z3) z4 with ⟨en, dv, v, q1, q2, q3, q4⟩ | ⟨q1, q2, q3⟩
    · refine ⟨some en.val, by rw [hns, q1], by rw [q2]; rfl, fun dv' u f1 f2 => ?_⟩
      rw [q2] at f1
      cases f1
      cases f2
      exact ⟨v, q3, q4⟩
    · refine ⟨none, by rw [hns, q1]; dsimp only; rw [q2]; rfl, by rw [q3] <;> rfl, fun dv' u f1 f2 => by cases f2⟩
  · have z := List.all_eq_true.mp m7 x (List.contains_iff_mem.mp e)
    rw [if_neg n] at z
    exact He.free_ok X G z
  · have z := List.all_eq_true.mp m7 _ (List.contains_iff_mem.mp e)
    rw [if_pos rfl] at z
    obtain ⟨z1, z2⟩ := He.ba z
    exact ⟨PySem.W.mg_of X G (of_decide_eq_true z1), He.free_ok X G z2⟩
  · obtain ⟨d, h1, h2, a, ha, e2, hb⟩ := s.kws.at _ (List.contains_iff_mem.mp e)
    refine ⟨d, h1, h2, fun f fd hm D us hl => ?_⟩
    have hmem := lookup_memM h1
    have g := He.glo_ok X G (List.all_eq_true.mp m1 _ hmem)
    rw [hm] at g
    cases g
    obtain ⟨name, qual, params, body, scope, dV, kV, doc, pm, cdv, ct, oc, an, od, osl, q1, q2, _⟩ := D.ex
    obtain ⟨p1, p2⟩ := c.d a ha
    obtain ⟨kp, kV', doc', pm', cdv', ct', oc', an', od', osl', lk, hc⟩ := DefA.fun_ p1 p2
    rw [e2] at lk
    rw [q2] at lk
    have ef : fd = PySem.W.fnOf a.name a.qual a.params a.body a.scope .none kV' doc' pm' an' cdv' ct' := by
      have := congrArg Obj.data (Option.some.inj lk)
      exact Data.func.inj this
    rw [ef]
    exact hb kV' doc' pm' an' cdv' ct' us hl
  · have e : t.fs.contains (x, f) = true := e
    obtain ⟨g1, g2⟩ := He.ba (List.all_eq_true.mp m8 _ (List.contains_iff_mem.mp e))
    obtain ⟨g2, g3⟩ := He.ba g2
    rw [He.glo_ok X G g1] at hm
    cases hm
    exact ⟨He.cls_ok g2, He.noat_ok g3⟩
end
end MM
end
section
set_option Elab.async false
set_option linter.all false
set_option maxRecDepth 100000
set_option maxHeartbeats 8000000
/-! The law's end over a text. -/
namespace MM
open PySem PySem.Spec PyProof.Rows L2 NdefX
variable [Lams]
theorem law_end {l : PySem.W.OpenLaw} {w : World} {K : PySem.W.Frag} {mg : Str → Option Value} {n k : Nat} {x nm : Str} {fa : Addr} {h : Heap} {t : Txt} {ds tf : List DefA} {ts : List He.Tab} {d : DefR} (s : Src t ds tf ts) (c : SaysM ds ts tf (txtB t) w h K) (X : K.In h) (G : h.Ns mainGlobals mg)
    (hm : mg nm = some (.ref fa)) (hd : t.fns.lookup nm = some d) (hps : d.ps = [x]) (law : ∀ ns : List Int, ns.length ≤ n → ∃ S', (lev t k).fn nm [.scr ns] [] = .ok (.bl true) S') : LamX.LawAtS l w K (CX l.prog w) (2 * k) n x mg fa h := by
  have mem : ∀ p ∈ csOf K tf, ∃ a ∈ tf, p = (tabA K a, lamQ a) := fun p hp => by
    obtain ⟨a, ha, e⟩ := List.mem_map.mp hp
    exact ⟨a, ha, e.symm⟩
  refine law_at (cs := csOf K tf) hm hd hps (fun p hp => ?_) (fun p hp => ?_) (fun p hp => ?_) X G (fun base _ _ tb => src_txt s c X G tb) ?_ law
  · obtain ⟨a, ha, rfl⟩ := mem p hp
    exact c.empty a ha
  · obtain ⟨a, ha, rfl⟩ := mem p hp
    exact c.out a ha
  · obtain ⟨a, ha, rfl⟩ := mem p hp
    exact PySem.W.codeHd_of_K X (c.hd a ha)
  · have hmem := lookup_memM hd
    obtain ⟨a, ha, e2, so⟩ := s.fn.at _ hmem
    obtain ⟨p1, p2⟩ := c.d a ha
    obtain ⟨kp, kV, doc, pm, cdv, ct, oc, an, od, osl, lk, hc⟩ := DefA.fun_ p1 p2
    refine ⟨PySem.W.fnOf a.name a.qual a.params a.body a.scope .none kV doc pm an cdv ct, fun us hl => ?_, fun base kb nb tb f fd' hf D => ?_⟩
    · have := so.bind kV doc pm an cdv ct us (by rw [hps]; exact hl)
      rw [hps] at this
      exact this
    · have m := c.more
      unfold txtB at m
      have g := He.glo_ok X G (List.all_eq_true.mp (He.ba m).1 _ hmem)
      rw [hf] at g
      cases g
      obtain ⟨name, qual, params, body, scope, dV, kV', doc', pm', cdv', ct', oc', an', od', osl', q1, q2, _⟩ := D.ex
      rw [e2] at lk
      rw [q2] at lk
      have := congrArg Obj.data (Option.some.inj lk)
      exact Data.func.inj this
end MM
end
section
set_option Elab.async false
set_option linter.all false
set_option maxRecDepth 100000
set_option maxHeartbeats 1000000
/-! The evaluator's laws: loops, equality, texts; plain values as trees. -/
namespace MM
open PySem
abbrev tt : Store → Bool := fun _ => true
/-! ### loops of comprehensions -/
theorem lc_nil {step : D → Store → Res (Option D)} {S : Store} {acc : List D} : lcLoop tt step [] S acc = .ok acc S := rfl
theorem lc_some {step : D → Store → Res (Option D)} {S S' : Store} {acc l : List D} {d e : D} (h : step d S = .ok (some e) S') (hl : acc.length < line) : lcLoop tt step (d :: l) S acc = lcLoop tt step l S' (acc ++ [e]) := by
  rw [lcLoop, if_pos rfl, h]
  exact if_pos hl
theorem lc_skip {step : D → Store → Res (Option D)} {S S' : Store} {acc l : List D} {d : D} (h : step d S = .ok none S') : lcLoop tt step (d :: l) S acc = lcLoop tt step l S' acc := by
  rw [lcLoop, if_pos rfl, h]
theorem lc_filter {α : Type} {step : D → Store → Res (Option D)} {S : Store} {enc f : α → D} {p : α → Bool} : ∀ (l : List α) (acc : List D), (∀ a ∈ l, step (enc a) S = .ok (if p a then some (f a) else none) S) → acc.length + l.length ≤ line →
    lcLoop tt step (l.map enc) S acc = .ok (acc ++ (l.filter p).map f) S
  | [], acc, _, _ => by
    rw [List.map_nil, lc_nil]
    simp
  | a :: l, acc, h, hl => by
    have ha := h a List.mem_cons_self
    have ih := fun acc' => lc_filter l acc' (fun b hb => h b (List.mem_cons_of_mem _ hb))
    rw [List.length_cons] at hl
    rw [List.map_cons]
    cases hp : p a with
    | true =>
      rw [hp, if_pos rfl] at ha
      rw [lc_some ha (by omega), ih _ (by rw [List.length_append, List.length_singleton]; omega), List.filter_cons, hp]
      simp
    | false =>
      rw [hp, if_neg Bool.false_ne_true] at ha
      rw [lc_skip ha, ih _ (by omega), List.filter_cons, hp]
      simp
theorem lc_map {α : Type} {step : D → Store → Res (Option D)} {S : Store} {enc f : α → D} (l : List α) (acc : List D) (h : ∀ a ∈ l, step (enc a) S = .ok (some (f a)) S) (hl : acc.length + l.length ≤ line) :
    lcLoop tt step (l.map enc) S acc = .ok (acc ++ l.map f) S := by
  have := lc_filter (step := step) (S := S) (enc := enc) (f := f) (p := fun _ => true) l acc (fun a ha => by rw [h a ha]; rfl) hl
  rw [this]
  have e : l.filter (fun _ => true) = l := List.filter_eq_self.mpr fun _ _ => rfl
  rw [e]
theorem lc_map' {step : D → Store → Res (Option D)} {S : Store} {f : D → D} (l : List D) (h : ∀ a ∈ l, step a S = .ok (some (f a)) S) (hl : l.length ≤ line) : lcLoop tt step l S [] = .ok (l.map f) S := by
  have := lc_map (enc := id) (f := f) l [] (fun a ha => h a ha) (by simpa using hl)
  simpa using this
/-- with a store that goes on -/
theorem lc_store {step : D → Store → Res (Option D)} {P : Nat → Store → List D → Prop} : ∀ (l : List D) (i : Nat) (S : Store) (acc : List D), P i S acc → acc.length + l.length ≤ line → (∀ j d S acc, l[j]? = some d → P (i + j) S acc → ∃ e S', step d S = .ok (some e) S' ∧ P (i + j + 1) S' (acc ++ [e])) →
    ∃ S' r, lcLoop tt step l S acc = .ok r S' ∧ P (i + l.length) S' r
  | [], i, S, acc, h0, _, _ => ⟨S, acc, rfl, h0⟩
  | d :: l, i, S, acc, h0, hl, h => by
    rw [List.length_cons] at hl
    obtain ⟨e, S1, h1, h2⟩ := h 0 d S acc rfl h0
    obtain ⟨S', r, h3, h4⟩ := lc_store l (i + 1) S1 (acc ++ [e]) h2 (by rw [List.length_append, List.length_singleton]; omega) fun j d' S2 acc2 hj hp => by
      have := h (j + 1) d' S2 acc2 (by simpa using hj) (by rw [show i + (j + 1) = i + 1 + j by omega]; exact hp)
      rw [show i + (j + 1) + 1 = i + 1 + j + 1 by omega] at this
      exact this
    refine ⟨S', r, ?_, by rw [List.length_cons, show i + (l.length + 1) = i + 1 + l.length by omega]; exact h4⟩
    rw [lc_some h1 (by omega)]
    exact h3
/-! ### equality of plain values -/
instance : DecidableEq D := fun a b => if h : sameD a b = true then isTrue (sameD_ok a b h) else isFalse fun e => h (by rw [e]; exact sameD_self b)
mutual
/-- None, whole numbers, texts, tuples and lists of these; at most so deep -/
def D.pln : Nat → D → Bool
  | _, .non => true
  | _, .int _ => true
  | _, .str x => PyData.strOk x
  | k + 1, .tup l => D.plns k l
  | k + 1, .lst l => D.plns k l
  | _, _ => false
def D.plns : Nat → List D → Bool
  | _, [] => true
  | k, d :: l => D.pln k d && D.plns k l
end
theorem plns_mem {k : Nat} : ∀ {l : List D}, D.plns k l = true ↔ ∀ d ∈ l, d.pln k = true
  | [] => by simp [D.plns]
  | d :: l => by
    unfold D.plns
    rw [Bool.and_eq_true, plns_mem]
    simp
mutual
theorem pln_py : ∀ (k : Nat) (d : D), d.pln k = true → ∃ p, D.py d = some p ∧ p.canLay0 = true ∧ p.depth ≤ k
  | k, .non, _ => ⟨.none, rfl, rfl, Nat.zero_le _⟩
  | k, .int i, _ => ⟨.int i, rfl, rfl, Nat.zero_le _⟩
  | k, .str x, h => ⟨.str x, rfl, by unfold D.pln at h; exact h, Nat.zero_le _⟩
  | 0, .tup l, h => by unfold D.pln at h; cases h
  | 0, .lst l, h => by unfold D.pln at h; cases h
  | k + 1, .tup l, h => by
    unfold D.pln at h
    obtain ⟨ps, e, c, dp⟩ := plns_py k l h
    exact ⟨.tuple ps, by unfold D.py; rw [e]; rfl, by unfold PyData.canLay0; exact c, by unfold PyData.depth; omega⟩
  | k + 1, .lst l, h => by
    unfold D.pln at h
    obtain ⟨ps, e, c, dp⟩ := plns_py k l h
    exact ⟨.list ps, by unfold D.py; rw [e]; rfl, by unfold PyData.canLay0; exact c, by unfold PyData.depth; omega⟩
  | k, .bl _, h => by unfold D.pln at h; cases h
  | k, .dic _ _, h => by unfold D.pln at h; cases h
  | k, .dct _ _, h => by unfold D.pln at h; cases h
  | k, .obj _ _ _, h => by unfold D.pln at h; cases h
  | k, .ref _, h => by unfold D.pln at h; cases h
  | k, .scr _, h => by unfold D.pln at h; cases h
  | k, .glo _, h => by unfold D.pln at h; cases h
  | k, .ty _, h => by unfold D.pln at h; cases h
  | k, .clo _ _, h => by unfold D.pln at h; cases h
theorem plns_py : ∀ (k : Nat) (l : List D), D.plns k l = true → ∃ ps, D.pyL l = some ps ∧ PyData.canLayAll0 ps = true ∧ PyData.depthAll ps ≤ k
  | k, [], _ => ⟨[], rfl, rfl, Nat.zero_le _⟩
  | k, d :: l, h => by
    unfold D.plns at h
    rw [Bool.and_eq_true] at h
    obtain ⟨p, e, c, dp⟩ := pln_py k d h.1
    obtain ⟨ps, e2, c2, dp2⟩ := plns_py k l h.2
    exact ⟨p :: ps, by unfold D.pyL; rw [e]; dsimp only; rw [e2]; rfl, by unfold PyData.canLayAll0; rw [c, c2]; rfl, by unfold PyData.depthAll; exact Nat.max_le.mpr ⟨dp, dp2⟩⟩
end
mutual
theorem eqv_same : ∀ (k j : Nat) (a b : D) (p q : PyData), a.pln k = true → b.pln j = true → D.py a = some p → D.py b = some q → PyData.eqv p q = sameD a b
  | k, j, .non, b, p, q, ha, hb, ea, eb => by
    cases ea
    cases b <;> first | (unfold D.pln at hb; cases hb; done) | skip
    all_goals (first | (cases eb; rfl) | (unfold D.py at eb; obtain ⟨_, _, z⟩ := Option.map_eq_some_iff.mp eb; rw [← z]; rfl))
  | k, j, .int i, b, p, q, ha, hb, ea, eb => by
    cases ea
    cases b <;> first | (unfold D.pln at hb; cases hb; done) | skip
    all_goals (first | (cases eb; unfold PyData.eqv sameD; first | rfl | (exact Bool.eq_iff_iff.mpr (by simp))) | (unfold D.py at eb; obtain ⟨_, _, z⟩ := Option.map_eq_some_iff.mp eb; rw [← z]; rfl))
  | k, j, .str i, b, p, q, ha, hb, ea, eb => by
    cases ea
    cases b <;> first | (unfold D.pln at hb; cases hb; done) | skip
    all_goals (first | (cases eb; unfold PyData.eqv sameD; first | rfl | (exact Bool.eq_iff_iff.mpr (by simp))) | (unfold D.py at eb; obtain ⟨_, _, z⟩ := Option.map_eq_some_iff.mp eb; rw [← z]; rfl))
  | 0, j, .tup l, b, p, q, ha, hb, ea, eb => by unfold D.pln at ha; cases ha
  | 0, j, .lst l, b, p, q, ha, hb, ea, eb => by unfold D.pln at ha; cases ha
  | k + 1, j, .tup l, b, p, q, ha, hb, ea, eb => by
    unfold D.pln at ha
    unfold D.py at ea
    obtain ⟨ps, e1, rfl⟩ := Option.map_eq_some_iff.mp ea
    cases b with
    | tup m =>
      cases j with
      | zero => unfold D.pln at hb; cases hb
      | succ j =>
        unfold D.pln at hb
        unfold D.py at eb
        obtain ⟨qs, e2, rfl⟩ := Option.map_eq_some_iff.mp eb
        unfold PyData.eqv sameD
        exact eqv_sames k j l m ps qs ha hb e1 e2
    | non => cases eb; rfl
    | int _ => cases eb; rfl
    | str _ => cases eb; rfl
    | lst m =>
      unfold D.py at eb
      obtain ⟨qs, e2, rfl⟩ := Option.map_eq_some_iff.mp eb
      rfl
    | _ => unfold D.pln at hb; cases hb
  | k + 1, j, .lst l, b, p, q, ha, hb, ea, eb => by
    unfold D.pln at ha
    unfold D.py at ea
    obtain ⟨ps, e1, rfl⟩ := Option.map_eq_some_iff.mp ea
    cases b with
    | lst m =>
      cases j with
      | zero => unfold D.pln at hb; cases hb
      | succ j =>
        unfold D.pln at hb
        unfold D.py at eb
        obtain ⟨qs, e2, rfl⟩ := Option.map_eq_some_iff.mp eb
        unfold PyData.eqv sameD
        exact eqv_sames k j l m ps qs ha hb e1 e2
    | non => cases eb; rfl
    | int _ => cases eb; rfl
    | str _ => cases eb; rfl
    | tup m =>
      unfold D.py at eb
      obtain ⟨qs, e2, rfl⟩ := Option.map_eq_some_iff.mp eb
      rfl
    | _ => unfold D.pln at hb; cases hb
  | k, j, .bl _, b, p, q, h, _, _, _ => by unfold D.pln at h; cases h
  | k, j, .dic _ _, b, p, q, h, _, _, _ => by unfold D.pln at h; cases h
  | k, j, .dct _ _, b, p, q, h, _, _, _ => by unfold D.pln at h; cases h
  | k, j, .obj _ _ _, b, p, q, h, _, _, _ => by unfold D.pln at h; cases h
  | k, j, .ref _, b, p, q, h, _, _, _ => by unfold D.pln at h; cases h
  | k, j, .scr _, b, p, q, h, _, _, _ => by unfold D.pln at h; cases h
  | k, j, .glo _, b, p, q, h, _, _, _ => by unfold D.pln at h; cases h
  | k, j, .ty _, b, p, q, h, _, _, _ => by unfold D.pln at h; cases h
  | k, j, .clo _ _, b, p, q, h, _, _, _ => by unfold D.pln at h; cases h
theorem eqv_sames : ∀ (k j : Nat) (l m : List D) (ps qs : List PyData), D.plns k l = true → D.plns j m = true → D.pyL l = some ps → D.pyL m = some qs → PyData.eqvAll ps qs = sameDs l m
  | k, j, [], m, ps, qs, ha, hb, ea, eb => by
    cases ea
    cases m with
    | nil => cases eb; rfl
    | cons b m =>
      unfold D.pyL at eb
      cases e : D.py b with
      | none => rw [e] at eb; cases eb
      | some q =>
        rw [e] at eb
        obtain ⟨qs', _, rfl⟩ := Option.map_eq_some_iff.mp eb
        rfl
  | k, j, a :: l, m, ps, qs, ha, hb, ea, eb => by
    unfold D.plns at ha
    rw [Bool.and_eq_true] at ha
    unfold D.pyL at ea
    cases e : D.py a with
    | none => rw [e] at ea; cases ea
    | some p =>
      rw [e] at ea
      obtain ⟨ps', e1, rfl⟩ := Option.map_eq_some_iff.mp ea
      cases m with
      | nil => cases eb; rfl
      | cons b m =>
        unfold D.plns at hb
        rw [Bool.and_eq_true] at hb
        unfold D.pyL at eb
        cases e' : D.py b with
        | none => rw [e'] at eb; cases eb
        | some q =>
          rw [e'] at eb
          obtain ⟨qs', e2, rfl⟩ := Option.map_eq_some_iff.mp eb
          unfold PyData.eqvAll sameDs
          rw [eqv_same k j a b p q ha.1 hb.1 e e', eqv_sames k j l m ps' qs' ha.2 hb.2 e1 e2]
end
theorem same_dec (a b : D) : sameD a b = decide (a = b) := by
  cases h : sameD a b with
  | true => exact (decide_eq_true (sameD_ok a b h)).symm
  | false => exact (decide_eq_false fun e => by rw [e, sameD_self] at h; cases h).symm
theorem data_py {S : Store} {d : D} {p : PyData} (h : D.py d = some p) : data S d = some p := by
  unfold data
  cases d <;> first | exact h | cases h
/-- == of plain values -/
theorem eqD_pln {S : Store} {a b : D} (ha : a.pln 60 = true) (hb : b.pln 60 = true) : eqD S a b = some (decide (a = b)) := by
  obtain ⟨p, e1, c1, d1⟩ := pln_py 60 a ha
  obtain ⟨q, e2, c2, d2⟩ := pln_py 60 b hb
  unfold eqD
  rw [data_py e1, data_py e2]
  have s1 : shp p = true := by
    show (p.canLay0 && decide (p.depth ≤ 64)) = true
    rw [c1, decide_eq_true (by omega)]
    rfl
  have s2 : shp q = true := by
    show (q.canLay0 && decide (q.depth ≤ 64)) = true
    rw [c2, decide_eq_true (by omega)]
    rfl
  dsimp only
  rw [s1, s2, eqv_same 60 60 a b p q ha hb e1 e2, same_dec]
  rfl
theorem any_same {k j : Nat} {x : D} {p : PyData} (hx : x.pln j = true) (ep : D.py x = some p) : ∀ (l : List D) (ps : List PyData), D.plns k l = true → D.pyL l = some ps → (ps.any fun z => PyData.eqv z p) = decide (x ∈ l)
  | [], ps, h, e => by
    cases e
    simp
  | a :: l, ps, h, e => by
    unfold D.plns at h
    rw [Bool.and_eq_true] at h
    unfold D.pyL at e
    cases ea : D.py a with
    | none => rw [ea] at e; cases e
    | some q =>
      rw [ea] at e
      obtain ⟨ps', e1, rfl⟩ := Option.map_eq_some_iff.mp e
      rw [List.any_cons, eqv_same k j a x q p h.1 hx ea ep, any_same hx ep l ps' h.2 e1, same_dec]
      by_cases hax : a = x
      · subst hax
        simp
      · have : ¬ x = a := fun z => hax z.symm
        simp [hax, this]
/-- in, of plain values -/
theorem inD_tup {S : Store} {x : D} {l : List D} (hs : ∀ z, x ≠ .str z ∨ True) (hx : x.pln 60 = true) (hl : D.plns 59 l = true) : inD S x (.tup l) = some (decide (x ∈ l)) := by
  obtain ⟨p, e1, c1, d1⟩ := pln_py 60 x hx
  obtain ⟨ps, e2, c2, d2⟩ := plns_py 59 l hl
  have hd : data S (.tup l) = some (.tuple ps) := data_py (by unfold D.py; rw [e2]; rfl)
  have s1 : shp p = true := by
    show (p.canLay0 && decide (p.depth ≤ 64)) = true
    rw [c1, decide_eq_true (by omega)]
    rfl
  have s2 : shp (.tuple ps) = true := by
    show (PyData.canLayAll0 ps && decide (PyData.depthAll ps + 1 ≤ 64)) = true
    rw [c2, decide_eq_true (by omega)]
    rfl
  unfold inD
  have key : (match data S x, data S (.tup l) with
    | some a, some (.list bs) => if shp a && shp (.list bs) then some (bs.any fun z => PyData.eqv z a) else none
    | some a, some (.tuple bs) => if shp a && shp (.tuple bs) then some (bs.any fun z => PyData.eqv z a) else none
    | _, _ => none) = some (decide (x ∈ l)) := by
    rw [data_py e1, hd]
    dsimp only
    rw [s1, s2, any_same hx e1 l ps hl e2]
    rfl
  cases x <;> exact key
theorem inD_lst {S : Store} {x : D} {l : List D} (hx : x.pln 60 = true) (hl : D.plns 59 l = true) : inD S x (.lst l) = some (decide (x ∈ l)) := by
  obtain ⟨p, e1, c1, d1⟩ := pln_py 60 x hx
  obtain ⟨ps, e2, c2, d2⟩ := plns_py 59 l hl
  have hd : data S (.lst l) = some (.list ps) := data_py (by unfold D.py; rw [e2]; rfl)
  have s1 : shp p = true := by
    show (p.canLay0 && decide (p.depth ≤ 64)) = true
    rw [c1, decide_eq_true (by omega)]
    rfl
  have s2 : shp (.list ps) = true := by
    show (PyData.canLayAll0 ps && decide (PyData.depthAll ps + 1 ≤ 64)) = true
    rw [c2, decide_eq_true (by omega)]
    rfl
  unfold inD
  have key : (match data S x, data S (.lst l) with
    | some a, some (.list bs) => if shp a && shp (.list bs) then some (bs.any fun z => PyData.eqv z a) else none
    | some a, some (.tuple bs) => if shp a && shp (.tuple bs) then some (bs.any fun z => PyData.eqv z a) else none
    | _, _ => none) = some (decide (x ∈ l)) := by
    rw [data_py e1, hd]
    dsimp only
    rw [s1, s2, any_same hx e1 l ps hl e2]
    rfl
  cases x <;> exact key
end MM
end
section
set_option Elab.async false
set_option linter.all false
set_option maxRecDepth 100000
set_option maxHeartbeats 1000000
/-! Plain values: fractions, names; their trees. -/
namespace MM
open PySem SX
abbrev Fr : Type := Int × Int
def dF (f : Fr) : D := .tup [.int f.1, .int f.2]
def dS (c : List Nat) : D := .str (S c)
def dFs (l : List Fr) : D := .tup (l.map dF)
def dT (t : List (List Fr)) : D := .tup (t.map dFs)
def dN (l : List (List Nat)) : D := .tup (l.map dS)
def dP (p : List (List Nat)) (t : List (List Fr)) : D := .tup [dN p, dT t]
def dC (p : List (List Nat)) (t : List (List Fr)) : D := .obj (Str.ofString "Circle") [Str.ofString "all_told"] [dP p t]
/-! ### no closures, no references -/
theorem hasCloL_map {α : Type} {f : α → D} (h : ∀ a, (f a).hasClo = false) : ∀ l : List α, D.hasCloL (l.map f) = false
  | [] => rfl
  | a :: l => by
    rw [List.map_cons]
    unfold D.hasCloL
    rw [h a, hasCloL_map h l]
    rfl
theorem underL_map {α : Type} {n : Nat} {f : α → D} (h : ∀ a, (f a).under n = true) : ∀ l : List α, D.underL n (l.map f) = true
  | [] => rfl
  | a :: l => by
    rw [List.map_cons]
    unfold D.underL
    rw [h a, underL_map h l]
    rfl
@[simp] theorem dF_clo (f : Fr) : (dF f).hasClo = false := rfl
@[simp] theorem dS_clo (c : List Nat) : (dS c).hasClo = false := rfl
@[simp] theorem dFs_clo (l : List Fr) : (dFs l).hasClo = false := by unfold dFs D.hasClo; exact hasCloL_map dF_clo l
@[simp] theorem dT_clo (t : List (List Fr)) : (dT t).hasClo = false := by unfold dT D.hasClo; exact hasCloL_map dFs_clo t
@[simp] theorem dN_clo (l : List (List Nat)) : (dN l).hasClo = false := by unfold dN D.hasClo; exact hasCloL_map dS_clo l
@[simp] theorem dP_clo (p : List (List Nat)) (t : List (List Fr)) : (dP p t).hasClo = false := by unfold dP; simp [D.hasClo, D.hasCloL]
@[simp] theorem dC_clo (p : List (List Nat)) (t : List (List Fr)) : (dC p t).hasClo = false := by unfold dC; simp [D.hasClo, D.hasCloL]
@[simp] theorem dF_under (n : Nat) (f : Fr) : (dF f).under n = true := rfl
@[simp] theorem dS_under (n : Nat) (c : List Nat) : (dS c).under n = true := rfl
@[simp] theorem dFs_under (n : Nat) (l : List Fr) : (dFs l).under n = true := by unfold dFs D.under; exact underL_map (dF_under n) l
@[simp] theorem dT_under (n : Nat) (t : List (List Fr)) : (dT t).under n = true := by unfold dT D.under; exact underL_map (dFs_under n) t
@[simp] theorem dN_under (n : Nat) (l : List (List Nat)) : (dN l).under n = true := by unfold dN D.under; exact underL_map (dS_under n) l
@[simp] theorem dP_under (n : Nat) (p : List (List Nat)) (t : List (List Fr)) : (dP p t).under n = true := by unfold dP; simp [D.under, D.underL]
@[simp] theorem dC_under (n : Nat) (p : List (List Nat)) (t : List (List Fr)) : (dC p t).under n = true := by unfold dC; simp [D.under, D.underL]
/-! ### equality -/
theorem dF_inj {a b : Fr} : dF a = dF b ↔ a = b := by
  unfold dF
  obtain ⟨x, y⟩ := a
  obtain ⟨z, w⟩ := b
  simp
theorem dS_inj {a b : List Nat} : dS a = dS b ↔ a = b := by
  unfold dS
  exact ⟨fun h => S_inj (D.str.inj h), fun h => by rw [h]⟩
theorem map_inj {α β : Type} {f : α → β} (h : ∀ a b, f a = f b ↔ a = b) : ∀ l m : List α, l.map f = m.map f ↔ l = m
  | [], [] => by simp
  | [], _ :: _ => by simp
  | _ :: _, [] => by simp
  | a :: l, b :: m => by simp [h a b, map_inj h l m]
theorem dFs_inj {a b : List Fr} : dFs a = dFs b ↔ a = b := by
  unfold dFs
  rw [D.tup.injEq]
  exact map_inj (fun _ _ => dF_inj) a b
theorem dT_inj {a b : List (List Fr)} : dT a = dT b ↔ a = b := by
  unfold dT
  rw [D.tup.injEq]
  exact map_inj (fun _ _ => dFs_inj) a b
theorem dN_inj {a b : List (List Nat)} : dN a = dN b ↔ a = b := by
  unfold dN
  rw [D.tup.injEq]
  exact map_inj (fun _ _ => dS_inj) a b
/-- signs of texts -/
def Asc (c : List Nat) : Prop := ∀ x ∈ c, x < 0x110000
theorem dS_pln {c : List Nat} (h : Asc c) (k : Nat) : (dS c).pln k = true := by
  have : PyData.strOk (S c) = true := by
    unfold PyData.strOk
    rw [← Array.all_toList]
    exact List.all_eq_true.mpr fun x hx => decide_eq_true (h x hx)
  unfold dS D.pln
  exact this
theorem dF_pln (f : Fr) (k : Nat) : (dF f).pln (k + 1) = true := by
  unfold dF D.pln D.plns D.pln D.plns D.pln D.plns
  rfl
theorem plns_map {α : Type} {f : α → D} {k : Nat} {l : List α} (h : ∀ a ∈ l, (f a).pln k = true) : D.plns k (l.map f) = true := plns_mem.mpr fun d hd => by
  obtain ⟨a, ha, e⟩ := List.mem_map.mp hd
  rw [← e]
  exact h a ha
theorem dFs_pln (l : List Fr) (k : Nat) : (dFs l).pln (k + 2) = true := by
  unfold dFs D.pln
  exact plns_map fun a _ => dF_pln a k
theorem dT_pln (t : List (List Fr)) (k : Nat) : (dT t).pln (k + 3) = true := by
  unfold dT D.pln
  exact plns_map fun a _ => dFs_pln a k
theorem dN_pln {l : List (List Nat)} (h : ∀ c ∈ l, Asc c) (k : Nat) : (dN l).pln (k + 1) = true := by
  unfold dN D.pln
  exact plns_map fun a ha => dS_pln (h a ha) k
/-! ### fractions -/
def low (a b : Int) : Fr := (a / (Nat.gcd a.natAbs b.natAbs : Nat), b / (Nat.gcd a.natAbs b.natAbs : Nat))
def plus (f g : Fr) : Fr := low (f.1 * g.2 + g.1 * f.2) (f.2 * g.2)
def total (l : List Fr) : Fr := l.foldl plus (0, 1)
structure IsFr (f : Fr) : Prop where
  pos : 0 < f.2
  cop : Nat.gcd f.1.natAbs f.2.natAbs = 1
/-- so many bits -/
def Bits (n : Nat) (i : Int) : Prop := i.natAbs < 2 ^ n
theorem Bits.log {n : Nat} {i : Int} (h : Bits n i) : i.natAbs.log2 ≤ n := by
  unfold Bits at h
  by_cases z : i.natAbs = 0
  · rw [z]
    exact Nat.zero_le _
  · exact Nat.le_of_lt ((Nat.log2_lt z).mpr h)
theorem mulOk_of {n m : Nat} {i j : Int} (h : Bits n i) (g : Bits m j) (hl : n + m < 999990) : mulOk i j = true := by
  unfold mulOk
  have := h.log
  have := g.log
  exact decide_eq_true (by omega)
theorem divOk_of {n : Nat} {j : Int} (h : 0 < j) (g : Bits n j) (hl : n < 9000) : divOk j = true := by
  unfold divOk
  have := g.log
  rw [decide_eq_true h, decide_eq_true (by omega)]
  rfl
theorem Bits.mono {n m : Nat} {i : Int} (h : Bits n i) (l : n ≤ m) : Bits m i := Nat.lt_of_lt_of_le h (Nat.pow_le_pow_right (by decide) l)
theorem Bits.mul {n m : Nat} {i j : Int} (h : Bits n i) (g : Bits m j) : Bits (n + m) (i * j) := by
  unfold Bits at *
  rw [Int.natAbs_mul, Nat.pow_add]
  exact Nat.mul_lt_mul'' h g
theorem Bits.add {n : Nat} {i j : Int} (h : Bits n i) (g : Bits n j) : Bits (n + 1) (i + j) := by
  unfold Bits at *
  have := Int.natAbs_add_le i j
  rw [Nat.pow_succ]
  omega
theorem Bits.div {n : Nat} {i : Int} {g : Nat} (h : Bits n i) (d : (g : Int) ∣ i) : Bits n (i / (g : Int)) := by
  unfold Bits at *
  rw [Int.natAbs_ediv_of_dvd d]
  exact Nat.lt_of_le_of_lt (Nat.div_le_self _ _) h
theorem gcd_pos {a b : Int} (h : 0 < b) : 0 < Nat.gcd a.natAbs b.natAbs := Nat.gcd_pos_of_pos_right _ (by omega)
theorem gcd_dl (a b : Int) : ((Nat.gcd a.natAbs b.natAbs : Nat) : Int) ∣ a := Int.ofNat_dvd_left.mpr (Nat.gcd_dvd_left _ _)
theorem gcd_dr (a b : Int) : ((Nat.gcd a.natAbs b.natAbs : Nat) : Int) ∣ b := Int.ofNat_dvd_left.mpr (Nat.gcd_dvd_right _ _)
theorem gcd_bits {n : Nat} {a b : Int} (h : 0 < b) (g : Bits n b) : Bits n ((Nat.gcd a.natAbs b.natAbs : Nat) : Int) := by
  unfold Bits at *
  rw [Int.natAbs_natCast]
  exact Nat.lt_of_le_of_lt (Nat.gcd_le_right _ (by omega)) g
theorem low_fr {a b : Int} (h : 0 < b) : IsFr (low a b) := by
  have hg := gcd_pos (a := a) h
  have dl := gcd_dl a b
  have dr := gcd_dr a b
  refine ⟨?_, ?_⟩
  · show 0 < b / ((Nat.gcd a.natAbs b.natAbs : Nat) : Int)
    exact Int.ediv_pos_of_pos_of_dvd h (Int.natCast_nonneg _) dr
  · show Nat.gcd (a / ((Nat.gcd a.natAbs b.natAbs : Nat) : Int)).natAbs (b / ((Nat.gcd a.natAbs b.natAbs : Nat) : Int)).natAbs = 1
    rw [Int.natAbs_ediv_of_dvd dl, Int.natAbs_ediv_of_dvd dr, Int.natAbs_natCast, Nat.gcd_div (Nat.gcd_dvd_left _ _) (Nat.gcd_dvd_right _ _)]
    exact Nat.div_self hg
/-- a fraction's value -/
theorem low_val {a b : Int} (h : 0 < b) : (low a b).1 * b = a * (low a b).2 := by
  have dl := gcd_dl a b
  have dr := gcd_dr a b
  show a / _ * b = a * (b / _)
  rw [← Int.mul_ediv_assoc a dr, Int.mul_comm (a / _) b, ← Int.mul_ediv_assoc b dl, Int.mul_comm b a]
theorem fr_eq {f g : Fr} (hf : IsFr f) (hg : IsFr g) (h : f.1 * g.2 = g.1 * f.2) : f = g := by
  obtain ⟨a, b⟩ := f
  obtain ⟨c, d⟩ := g
  have hb : 0 < b := hf.pos
  have hd : 0 < d := hg.pos
  have c1 : Nat.gcd a.natAbs b.natAbs = 1 := hf.cop
  have c2 : Nat.gcd c.natAbs d.natAbs = 1 := hg.cop
  have h : a * d = c * b := h
  have hn : a.natAbs * d.natAbs = c.natAbs * b.natAbs := by rw [← Int.natAbs_mul, ← Int.natAbs_mul, h]
  have d1 : b.natAbs ∣ d.natAbs := (Nat.Coprime.symm c1).dvd_of_dvd_mul_left (by rw [hn]; exact Nat.dvd_mul_left _ _)
  have d2 : d.natAbs ∣ b.natAbs := (Nat.Coprime.symm c2).dvd_of_dvd_mul_left (by rw [← hn]; exact Nat.dvd_mul_left _ _)
  have e : b.natAbs = d.natAbs := Nat.dvd_antisymm d1 d2
  have e2 : b = d := by omega
  subst e2
  have : a = c := Int.eq_of_mul_eq_mul_right (by omega) h
  rw [this]
theorem plus_fr {f g : Fr} (hf : IsFr f) (hg : IsFr g) : IsFr (plus f g) := low_fr (Int.mul_pos hf.pos hg.pos)
/-- sums, brought to one denominator -/
theorem plus_val {f g : Fr} (hf : IsFr f) (hg : IsFr g) : (plus f g).1 * (f.2 * g.2) = (f.1 * g.2 + g.1 * f.2) * (plus f g).2 := low_val (Int.mul_pos hf.pos hg.pos)
structure BF (n : Nat) (f : Fr) : Prop where
  a : Bits n f.1
  b : Bits n f.2
theorem BF.mono {n m : Nat} {f : Fr} (h : BF n f) (l : n ≤ m) : BF m f := ⟨h.a.mono l, h.b.mono l⟩
theorem low_bits {n : Nat} {a b : Int} (ha : Bits n a) (hb : Bits n b) : BF n (low a b) := ⟨ha.div (gcd_dl a b), hb.div (gcd_dr a b)⟩
theorem plus_bits {n m : Nat} {f g : Fr} (hf : BF n f) (hg : BF m g) : BF (n + m + 1) (plus f g) :=
  low_bits ((hf.a.mul hg.b).add ((hg.a.mul hf.b).mono (by omega))) ((hf.b.mul hg.b).mono (by omega))
end MM
end
section
set_option Elab.async false
set_option linter.all false
set_option maxRecDepth 100000
set_option maxHeartbeats 1000000
/-! Loops, indices, parts; isinstance. -/
namespace MM
open PySem SX
def Tm.isStar : Tm → Bool
  | .star _ => true
  | _ => false
@[simp] theorem evs_nil {g : GE} (δ : En) (S : Store) : evs g [] δ S = .ok [] S := by unfold evs; rfl
theorem evs_ns {g : GE} {t : Tm} (h : t.isStar = false) (r : List Tm) (δ : En) (S : Store) : evs g (t :: r) δ S = (ev g t δ S).bind fun x S => (evs g r δ S).bind fun xs S => .ok (x :: xs) S := by
  cases t <;> first | (cases h; done) | (rw [evs]; intro a z; cases z)
@[simp] theorem evs_var {g : GE} {x0} (r : List Tm) (δ : En) (S : Store) : evs g ((Tm.var x0) :: r) δ S = (ev g (Tm.var x0) δ S).bind fun x S => (evs g r δ S).bind fun xs S => .ok (x :: xs) S := evs_ns rfl r δ S
@[simp] theorem evs_cint {g : GE} {x0} (r : List Tm) (δ : En) (S : Store) : evs g ((Tm.cint x0) :: r) δ S = (ev g (Tm.cint x0) δ S).bind fun x S => (evs g r δ S).bind fun xs S => .ok (x :: xs) S := evs_ns rfl r δ S
@[simp] theorem evs_cbl {g : GE} {x0} (r : List Tm) (δ : En) (S : Store) : evs g ((Tm.cbl x0) :: r) δ S = (ev g (Tm.cbl x0) δ S).bind fun x S => (evs g r δ S).bind fun xs S => .ok (x :: xs) S := evs_ns rfl r δ S
@[simp] theorem evs_cnon {g : GE} (r : List Tm) (δ : En) (S : Store) : evs g ((Tm.cnon ) :: r) δ S = (ev g (Tm.cnon ) δ S).bind fun x S => (evs g r δ S).bind fun xs S => .ok (x :: xs) S := evs_ns rfl r δ S
@[simp] theorem evs_cstr {g : GE} {x0} (r : List Tm) (δ : En) (S : Store) : evs g ((Tm.cstr x0) :: r) δ S = (ev g (Tm.cstr x0) δ S).bind fun x S => (evs g r δ S).bind fun xs S => .ok (x :: xs) S := evs_ns rfl r δ S
@[simp] theorem evs_glb {g : GE} {x0} (r : List Tm) (δ : En) (S : Store) : evs g ((Tm.glb x0) :: r) δ S = (ev g (Tm.glb x0) δ S).bind fun x S => (evs g r δ S).bind fun xs S => .ok (x :: xs) S := evs_ns rfl r δ S
@[simp] theorem evs_typ {g : GE} {x0} (r : List Tm) (δ : En) (S : Store) : evs g ((Tm.typ x0) :: r) δ S = (ev g (Tm.typ x0) δ S).bind fun x S => (evs g r δ S).bind fun xs S => .ok (x :: xs) S := evs_ns rfl r δ S
@[simp] theorem evs_bin {g : GE} {x0} {x1} {x2} (r : List Tm) (δ : En) (S : Store) : evs g ((Tm.bin x0 x1 x2) :: r) δ S = (ev g (Tm.bin x0 x1 x2) δ S).bind fun x S => (evs g r δ S).bind fun xs S => .ok (x :: xs) S := evs_ns rfl r δ S
@[simp] theorem evs_neg {g : GE} {x0} (r : List Tm) (δ : En) (S : Store) : evs g ((Tm.neg x0) :: r) δ S = (ev g (Tm.neg x0) δ S).bind fun x S => (evs g r δ S).bind fun xs S => .ok (x :: xs) S := evs_ns rfl r δ S
@[simp] theorem evs_not {g : GE} {x0} (r : List Tm) (δ : En) (S : Store) : evs g ((Tm.not x0) :: r) δ S = (ev g (Tm.not x0) δ S).bind fun x S => (evs g r δ S).bind fun xs S => .ok (x :: xs) S := evs_ns rfl r δ S
@[simp] theorem evs_and {g : GE} {x0} {x1} (r : List Tm) (δ : En) (S : Store) : evs g ((Tm.and x0 x1) :: r) δ S = (ev g (Tm.and x0 x1) δ S).bind fun x S => (evs g r δ S).bind fun xs S => .ok (x :: xs) S := evs_ns rfl r δ S
@[simp] theorem evs_or {g : GE} {x0} {x1} (r : List Tm) (δ : En) (S : Store) : evs g ((Tm.or x0 x1) :: r) δ S = (ev g (Tm.or x0 x1) δ S).bind fun x S => (evs g r δ S).bind fun xs S => .ok (x :: xs) S := evs_ns rfl r δ S
@[simp] theorem evs_cmp {g : GE} {x0} {x1} {x2} (r : List Tm) (δ : En) (S : Store) : evs g ((Tm.cmp x0 x1 x2) :: r) δ S = (ev g (Tm.cmp x0 x1 x2) δ S).bind fun x S => (evs g r δ S).bind fun xs S => .ok (x :: xs) S := evs_ns rfl r δ S
@[simp] theorem evs_chn {g : GE} {x0} {x1} {x2} {x3} {x4} (r : List Tm) (δ : En) (S : Store) : evs g ((Tm.chn x0 x1 x2 x3 x4) :: r) δ S = (ev g (Tm.chn x0 x1 x2 x3 x4) δ S).bind fun x S => (evs g r δ S).bind fun xs S => .ok (x :: xs) S := evs_ns rfl r δ S
@[simp] theorem evs_oeq {g : GE} {x0} {x1} {x2} (r : List Tm) (δ : En) (S : Store) : evs g ((Tm.oeq x0 x1 x2) :: r) δ S = (ev g (Tm.oeq x0 x1 x2) δ S).bind fun x S => (evs g r δ S).bind fun xs S => .ok (x :: xs) S := evs_ns rfl r δ S
@[simp] theorem evs_ite {g : GE} {x0} {x1} {x2} (r : List Tm) (δ : En) (S : Store) : evs g ((Tm.ite x0 x1 x2) :: r) δ S = (ev g (Tm.ite x0 x1 x2) δ S).bind fun x S => (evs g r δ S).bind fun xs S => .ok (x :: xs) S := evs_ns rfl r δ S
@[simp] theorem evs_tup {g : GE} {x0} (r : List Tm) (δ : En) (S : Store) : evs g ((Tm.tup x0) :: r) δ S = (ev g (Tm.tup x0) δ S).bind fun x S => (evs g r δ S).bind fun xs S => .ok (x :: xs) S := evs_ns rfl r δ S
@[simp] theorem evs_lst {g : GE} {x0} {x1} (r : List Tm) (δ : En) (S : Store) : evs g ((Tm.lst x0 x1) :: r) δ S = (ev g (Tm.lst x0 x1) δ S).bind fun x S => (evs g r δ S).bind fun xs S => .ok (x :: xs) S := evs_ns rfl r δ S
@[simp] theorem evs_ix {g : GE} {x0} {x1} (r : List Tm) (δ : En) (S : Store) : evs g ((Tm.ix x0 x1) :: r) δ S = (ev g (Tm.ix x0 x1) δ S).bind fun x S => (evs g r δ S).bind fun xs S => .ok (x :: xs) S := evs_ns rfl r δ S
@[simp] theorem evs_sl {g : GE} {x0} {x1} {x2} (r : List Tm) (δ : En) (S : Store) : evs g ((Tm.sl x0 x1 x2) :: r) δ S = (ev g (Tm.sl x0 x1 x2) δ S).bind fun x S => (evs g r δ S).bind fun xs S => .ok (x :: xs) S := evs_ns rfl r δ S
@[simp] theorem evs_fld {g : GE} {x0} {x1} (r : List Tm) (δ : En) (S : Store) : evs g ((Tm.fld x0 x1) :: r) δ S = (ev g (Tm.fld x0 x1) δ S).bind fun x S => (evs g r δ S).bind fun xs S => .ok (x :: xs) S := evs_ns rfl r δ S
@[simp] theorem evs_call {g : GE} {x0} {x1} (r : List Tm) (δ : En) (S : Store) : evs g ((Tm.call x0 x1) :: r) δ S = (ev g (Tm.call x0 x1) δ S).bind fun x S => (evs g r δ S).bind fun xs S => .ok (x :: xs) S := evs_ns rfl r δ S
@[simp] theorem evs_kcl {g : GE} {x0} {x1} {x2} {x3} (r : List Tm) (δ : En) (S : Store) : evs g ((Tm.kcl x0 x1 x2 x3) :: r) δ S = (ev g (Tm.kcl x0 x1 x2 x3) δ S).bind fun x S => (evs g r δ S).bind fun xs S => .ok (x :: xs) S := evs_ns rfl r δ S
@[simp] theorem evs_clv {g : GE} {x0} {x1} (r : List Tm) (δ : En) (S : Store) : evs g ((Tm.clv x0 x1) :: r) δ S = (ev g (Tm.clv x0 x1) δ S).bind fun x S => (evs g r δ S).bind fun xs S => .ok (x :: xs) S := evs_ns rfl r δ S
@[simp] theorem evs_blt {g : GE} {x0} {x1} (r : List Tm) (δ : En) (S : Store) : evs g ((Tm.blt x0 x1) :: r) δ S = (ev g (Tm.blt x0 x1) δ S).bind fun x S => (evs g r δ S).bind fun xs S => .ok (x :: xs) S := evs_ns rfl r δ S
@[simp] theorem evs_mth {g : GE} {x0} {x1} {x2} (r : List Tm) (δ : En) (S : Store) : evs g ((Tm.mth x0 x1 x2) :: r) δ S = (ev g (Tm.mth x0 x1 x2) δ S).bind fun x S => (evs g r δ S).bind fun xs S => .ok (x :: xs) S := evs_ns rfl r δ S
@[simp] theorem evs_omt {g : GE} {x0} {x1} {x2} (r : List Tm) (δ : En) (S : Store) : evs g ((Tm.omt x0 x1 x2) :: r) δ S = (ev g (Tm.omt x0 x1 x2) δ S).bind fun x S => (evs g r δ S).bind fun xs S => .ok (x :: xs) S := evs_ns rfl r δ S
@[simp] theorem evs_lc {g : GE} {x0} {x1} {x2} {x3} {x4} {x5} {x6} (r : List Tm) (δ : En) (S : Store) : evs g ((Tm.lc x0 x1 x2 x3 x4 x5 x6) :: r) δ S = (ev g (Tm.lc x0 x1 x2 x3 x4 x5 x6) δ S).bind fun x S => (evs g r δ S).bind fun xs S => .ok (x :: xs) S := evs_ns rfl r δ S
@[simp] theorem evs_dcp {g : GE} {x0} {x1} {x2} {x3} {x4} {x5} {x6} {x7} {x8} (r : List Tm) (δ : En) (S : Store) : evs g ((Tm.dcp x0 x1 x2 x3 x4 x5 x6 x7 x8) :: r) δ S = (ev g (Tm.dcp x0 x1 x2 x3 x4 x5 x6 x7 x8) δ S).bind fun x S => (evs g r δ S).bind fun xs S => .ok (x :: xs) S := evs_ns rfl r δ S
@[simp] theorem evs_fst {g : GE} {x0} (r : List Tm) (δ : En) (S : Store) : evs g ((Tm.fst x0) :: r) δ S = (ev g (Tm.fst x0) δ S).bind fun x S => (evs g r δ S).bind fun xs S => .ok (x :: xs) S := evs_ns rfl r δ S
@[simp] theorem evs_lam {g : GE} {x0} {x1} (r : List Tm) (δ : En) (S : Store) : evs g ((Tm.lam x0 x1) :: r) δ S = (ev g (Tm.lam x0 x1) δ S).bind fun x S => (evs g r δ S).bind fun xs S => .ok (x :: xs) S := evs_ns rfl r δ S
@[simp] theorem evs_kin {g : GE} {x0} {x1} {x2} (r : List Tm) (δ : En) (S : Store) : evs g ((Tm.kin x0 x1 x2) :: r) δ S = (ev g (Tm.kin x0 x1 x2) δ S).bind fun x S => (evs g r δ S).bind fun xs S => .ok (x :: xs) S := evs_ns rfl r δ S
@[simp] theorem evs_kget {g : GE} {x0} {x1} (r : List Tm) (δ : En) (S : Store) : evs g ((Tm.kget x0 x1) :: r) δ S = (ev g (Tm.kget x0 x1) δ S).bind fun x S => (evs g r δ S).bind fun xs S => .ok (x :: xs) S := evs_ns rfl r δ S
/-! ### indices -/
theorem ixN_nat {n i : Nat} (h : i < n) : L2.ixN n (i : Int) = some i := by
  unfold L2.ixN
  rw [if_pos (Int.natCast_nonneg _), if_pos (by omega)]
  rfl
theorem atI_nat {α : Type} {l : List α} {i : Nat} {a : α} (h : l[i]? = some a) : L2.atI l (i : Int) = some a := by
  unfold L2.atI
  rw [ixN_nat (List.getElem?_eq_some_iff.mp h).1]
  exact h
theorem atI_last {α : Type} {l : List α} {a : α} : L2.atI (l ++ [a]) (-1) = some a := by
  unfold L2.atI L2.ixN
  rw [if_neg (by decide), if_pos (by rw [List.length_append, List.length_singleton]; omega)]
  show (l ++ [a])[(-1 + ((l ++ [a]).length : Int)).toNat]? = some a
  rw [show (-1 + ((l ++ [a]).length : Int)).toNat = l.length by rw [List.length_append, List.length_singleton]; omega]
  simp
@[simp] theorem atI_0 {α : Type} (a : α) (l : List α) : L2.atI (a :: l) 0 = some a := atI_nat (i := 0) rfl
@[simp] theorem atI_1 {α : Type} (a b : α) (l : List α) : L2.atI (a :: b :: l) 1 = some b := atI_nat (i := 1) rfl
@[simp] theorem atI_2 {α : Type} (a b c : α) (l : List α) : L2.atI (a :: b :: c :: l) 2 = some c := atI_nat (i := 2) rfl
@[simp] theorem atI_3 {α : Type} (a b c d : α) (l : List α) : L2.atI (a :: b :: c :: d :: l) 3 = some d := atI_nat (i := 3) rfl
@[simp] theorem atI4_1 {α : Type} (a b c d : α) : L2.atI [a, b, c, d] (-1) = some d := rfl
@[simp] theorem atI4_2 {α : Type} (a b c d : α) : L2.atI [a, b, c, d] (-2) = some c := rfl
@[simp] theorem atI5_1 {α : Type} (a b c d e : α) : L2.atI [a, b, c, d, e] (-1) = some e := rfl
@[simp] theorem atI5_2 {α : Type} (a b c d e : α) : L2.atI [a, b, c, d, e] (-2) = some d := rfl
/-! ### parts -/
theorem sIx_nat (n d i : Nat) : HT.sIx n d (some (i : Int)) = min i n := by
  unfold HT.sIx
  dsimp only
  rw [if_neg (by omega), Int.toNat_natCast]
theorem cut_to {α : Type} (l : List α) (i : Nat) : cutD l none (some (i : Int)) = l.take i := by
  unfold cutD
  rw [sIx_nat]
  show (l.drop 0).take (min i l.length - 0) = l.take i
  rw [List.drop_zero, Nat.sub_zero, List.take_eq_take_iff]
  omega
theorem cut_from {α : Type} (l : List α) (i : Nat) : cutD l (some (i : Int)) none = l.drop i := by
  unfold cutD
  rw [sIx_nat]
  show (l.drop (min i l.length)).take (l.length - min i l.length) = l.drop i
  by_cases h : i ≤ l.length
  · rw [Nat.min_eq_left h]
    exact List.take_of_length_le (by rw [List.length_drop]; omega)
  · rw [Nat.min_eq_right (by omega), List.drop_eq_nil_of_le (Nat.le_refl _), List.drop_eq_nil_of_le (by omega), List.take_nil]
@[simp] theorem cut4 {α : Type} (a b c d : α) : cutD [a, b, c, d] (some 1) (some (-2)) = [b] := rfl
@[simp] theorem cut4' {α : Type} (a b c d : α) : cutD [a, b, c, d] (some (-2)) none = [c, d] := rfl
@[simp] theorem cut5 {α : Type} (a b c d e : α) : cutD [a, b, c, d, e] (some 1) (some (-2)) = [b, c] := rfl
@[simp] theorem cut5' {α : Type} (a b c d e : α) : cutD [a, b, c, d, e] (some (-2)) none = [d, e] := rfl
@[simp] theorem cut413 {α : Type} (a b c d : α) : cutD [a, b, c, d] (some 1) (some 3) = [b, c] := rfl
@[simp] theorem cut513 {α : Type} (a b c d e : α) : cutD [a, b, c, d, e] (some 1) (some 3) = [b, c] := rfl
theorem cutS_to (a : List Nat) (i : Nat) : L2.cutS (S a) none (some (i : Int)) = S (a.take i) := by
  rw [C8.cutS_slice, slice_to (by omega)]
  rfl
theorem cutS_from (a : List Nat) (i : Nat) : L2.cutS (S a) (some (i : Int)) none = S (a.drop i) := by
  rw [C8.cutS_slice, slice_from (by omega)]
  rfl
/-! ### kinds -/
@[simp] theorem kit_ii : L2.kitB "int" "int" = some true := by kernel_rfl
@[simp] theorem kit_ib : L2.kitB "int" "bool" = some false := by kernel_rfl
@[simp] theorem kit_bi : L2.kitB "bool" "int" = some true := by kernel_rfl
@[simp] theorem kit_bb : L2.kitB "bool" "bool" = some true := by kernel_rfl
@[simp] theorem kit_is : L2.kitB "int" "str" = some false := by kernel_rfl
@[simp] theorem kit_it : L2.kitB "int" "tuple" = some false := by kernel_rfl
@[simp] theorem kit_il : L2.kitB "int" "list" = some false := by kernel_rfl
@[simp] theorem kit_ss : L2.kitB "str" "str" = some true := by kernel_rfl
@[simp] theorem kit_st : L2.kitB "str" "tuple" = some false := by kernel_rfl
@[simp] theorem kit_sl : L2.kitB "str" "list" = some false := by kernel_rfl
@[simp] theorem kit_si : L2.kitB "str" "int" = some false := by kernel_rfl
@[simp] theorem kit_tt : L2.kitB "tuple" "tuple" = some true := by kernel_rfl
@[simp] theorem kit_tl : L2.kitB "tuple" "list" = some false := by kernel_rfl
@[simp] theorem kit_ti : L2.kitB "tuple" "int" = some false := by kernel_rfl
@[simp] theorem kit_ll : L2.kitB "list" "list" = some true := by kernel_rfl
@[simp] theorem kit_lt : L2.kitB "list" "tuple" = some false := by kernel_rfl
@[simp] theorem kit_nt : L2.kitB "NoneType" "tuple" = some false := by kernel_rfl
@[simp] theorem kit_nl : L2.kitB "NoneType" "list" = some false := by kernel_rfl
/-! ### comprehensions -/
theorem lc_pure {g : GE} {tg : List Nat} {δ0 : En} {c e : Tm} {S : Store} {α : Type} {enc f : α → D} {p : α → Bool} {k : D → En} (l : List α) (hb : ∀ d, bindG tg d δ0 = some (k d) ∨ ∀ a ∈ l, enc a ≠ d)
    (h : ∀ a ∈ l, (enc a).hasClo = false ∧ ev g c (k (enc a)) S = .ok (.bl (p a)) S ∧ (p a = true → ev g e (k (enc a)) S = .ok (f a) S ∧ (f a).hasClo = false)) (hl : l.length ≤ line) :
    lcLoop tt (stepL tg δ0 (ev g c) (ev g e)) (l.map enc) S [] = .ok ((l.filter p).map f) S := by
  rw [lc_filter (p := p) (f := f) l [] _ (by simpa using hl)]
  · rfl
  · intro a ha
    obtain ⟨h1, h2, h3⟩ := h a ha
    have hk : bindG tg (enc a) δ0 = some (k (enc a)) := (hb (enc a)).resolve_right fun z => z a ha rfl
    unfold stepL
    rw [h1, if_neg Bool.false_ne_true, hk]
    dsimp only
    rw [h2, Res.bind_ok]
    cases hp : p a with
    | false => rfl
    | true =>
      obtain ⟨h4, h5⟩ := h3 hp
      dsimp only
      rw [h4, Res.bind_ok, h5]
      rfl
/-- no condition, one name -/
theorem lc_all {g : GE} {v : Nat} {δ0 : En} {e : Tm} {S : Store} {α : Type} {enc f : α → D} (l : List α)
    (h : ∀ a ∈ l, (enc a).hasClo = false ∧ ev g e (δ0.set v (some (enc a))) S = .ok (f a) S ∧ (f a).hasClo = false) (hl : l.length ≤ line) :
    lcLoop tt (stepL [v] δ0 (ev g (.cbl true)) (ev g e)) (l.map enc) S [] = .ok (l.map f) S := by
  rw [lc_pure (p := fun _ => true) (f := f) (k := fun d => δ0.set v (some d)) l (fun d => .inl rfl) (fun a ha => ⟨(h a ha).1, by unfold ev; rfl, fun _ => (h a ha).2⟩) hl]
  rw [List.filter_eq_self.mpr fun _ _ => rfl]
theorem lc_some1 {g : GE} {v : Nat} {δ0 : En} {c e : Tm} {S : Store} {α : Type} {enc f : α → D} {p : α → Bool} (l : List α)
    (h : ∀ a ∈ l, (enc a).hasClo = false ∧ ev g c (δ0.set v (some (enc a))) S = .ok (.bl (p a)) S ∧ (p a = true → ev g e (δ0.set v (some (enc a))) S = .ok (f a) S ∧ (f a).hasClo = false)) (hl : l.length ≤ line) :
    lcLoop tt (stepL [v] δ0 (ev g c) (ev g e)) (l.map enc) S [] = .ok ((l.filter p).map f) S :=
  lc_pure (k := fun d => δ0.set v (some d)) l (fun d => .inl rfl) h hl
/-- two names -/
theorem lc_two {g : GE} {v w : Nat} {δ0 : En} {c e : Tm} {S : Store} {α : Type} {x y f : α → D} {p : α → Bool} (l : List α)
    (h : ∀ a ∈ l, (x a).hasClo = false ∧ (y a).hasClo = false ∧ ev g c ((δ0.set v (some (x a))).set w (some (y a))) S = .ok (.bl (p a)) S ∧ (p a = true → ev g e ((δ0.set v (some (x a))).set w (some (y a))) S = .ok (f a) S ∧ (f a).hasClo = false)) (hl : l.length ≤ line) :
    lcLoop tt (stepL [v, w] δ0 (ev g c) (ev g e)) (l.map fun a => .tup [x a, y a]) S [] = .ok ((l.filter p).map f) S :=
  lc_pure (enc := fun a => .tup [x a, y a]) (k := fun d => match d with
    | .tup [a, b] => (δ0.set v (some a)).set w (some b)
    | _ => δ0) l (fun d => by
      by_cases hd : ∃ a b, d = .tup [a, b]
      · obtain ⟨a, b, rfl⟩ := hd
        exact .inl rfl
      · exact .inr fun a _ z => hd ⟨_, _, z.symm⟩) (fun a ha => by
        obtain ⟨h1, h2, h3, h4⟩ := h a ha
        exact ⟨by simp [D.hasClo, D.hasCloL, h1, h2], h3, h4⟩) hl
theorem zip_map {α β : Type} (f : α → D) (g : β → D) : ∀ (l : List α) (m : List β), zipD (l.map f) (m.map g) = (l.zip m).map fun a => .tup [f a.1, g a.2]
  | [], _ => rfl
  | _ :: _, [] => rfl
  | a :: l, b :: m => by
    rw [List.map_cons, List.map_cons, List.zip_cons_cons, List.map_cons]
    unfold zipD
    rw [zip_map f g l m]
theorem enum_map {α : Type} (f : α → D) : ∀ (l : List α) (i : Nat), enumD i (l.map f) = (l.zipIdx i).map fun a => .tup [.int ((a.2 : Nat) : Int), f a.1]
  | [], _ => rfl
  | a :: l, i => by
    rw [List.map_cons, List.zipIdx_cons, List.map_cons]
    unfold enumD
    rw [enum_map f l (i + 1)]
/-! ### for -/
theorem for_inv {step : D → En → Store → Res Fl} {P : Nat → En → Store → Prop} : ∀ (l : List D) (i : Nat) (δ : En) (S : Store), P i δ S → (∀ j d δ S, l[j]? = some d → P (i + j) δ S → ∃ δ' S', step d δ S = .ok (.nx δ') S' ∧ P (i + j + 1) δ' S') →
    ∃ δ' S', forLoop tt step l δ S = .ok (.nx δ') S' ∧ P (i + l.length) δ' S'
  | [], i, δ, S, h0, _ => ⟨δ, S, rfl, h0⟩
  | d :: l, i, δ, S, h0, h => by
    obtain ⟨δ1, S1, h1, h2⟩ := h 0 d δ S rfl h0
    obtain ⟨δ', S', h3, h4⟩ := for_inv l (i + 1) δ1 S1 h2 fun j d' δ2 S2 hj hp => by
      have := h (j + 1) d' δ2 S2 (by simpa using hj) (by rw [show i + (j + 1) = i + 1 + j by omega]; exact hp)
      rw [show i + (j + 1) + 1 = i + 1 + j + 1 by omega] at this
      exact this
    refine ⟨δ', S', ?_, by rw [List.length_cons, show i + (l.length + 1) = i + 1 + l.length by omega]; exact h4⟩
    rw [forLoop, if_pos rfl, h1, Res.bind_ok]
    exact h3
/-! ### whole comprehensions -/
theorem ev_lc1 {g : GE} {m : Bool} {v : Nat} {it c e : Tm} {own : List Nat} {δ : En} {S : Store} {x : D} {α : Type} {enc f : α → D} {p : α → Bool} (l : List α) (hit : evs g [it] δ S = .ok [x] S) (hx : iterD S x = some (l.map enc)) (hg : gdR S x = tt)
    (h : ∀ a ∈ l, (enc a).hasClo = false ∧ ev g c ((wipeC (wipeE δ own)).set v (some (enc a))) S = .ok (.bl (p a)) S ∧ (p a = true → ev g e ((wipeC (wipeE δ own)).set v (some (enc a))) S = .ok (f a) S ∧ (f a).hasClo = false)) (hl : l.length ≤ line) :
    ev g (.lc m [v] .plain [it] c e own) δ S = endL m ((l.filter p).map f) S := by
  unfold ev
  rw [hit, Res.bind_ok]
  unfold iterK
  dsimp only
  unfold itPlain
  dsimp only
  rw [hx]
  dsimp only
  rw [Res.bind_ok]
  dsimp only
  rw [hg, lc_some1 l h hl, Res.bind_ok]
theorem ev_lca {g : GE} {m : Bool} {v : Nat} {it e : Tm} {own : List Nat} {δ : En} {S : Store} {x : D} {α : Type} {enc f : α → D} (l : List α) (hit : evs g [it] δ S = .ok [x] S) (hx : iterD S x = some (l.map enc)) (hg : gdR S x = tt)
    (h : ∀ a ∈ l, (enc a).hasClo = false ∧ ev g e ((wipeC (wipeE δ own)).set v (some (enc a))) S = .ok (f a) S ∧ (f a).hasClo = false) (hl : l.length ≤ line) :
    ev g (.lc m [v] .plain [it] (.cbl true) e own) δ S = endL m (l.map f) S := by
  rw [ev_lc1 (p := fun _ => true) (f := f) l hit hx hg (fun a ha => ⟨(h a ha).1, by unfold ev; rfl, fun _ => (h a ha).2⟩) hl, List.filter_eq_self.mpr fun _ _ => rfl]
theorem ev_lc2 {g : GE} {m : Bool} {v w : Nat} {i1 i2 c e : Tm} {own : List Nat} {δ : En} {S : Store} {α β : Type} {ex : α → D} {ey : β → D} {f : α × β → D} {p : α × β → Bool} (l1 : List α) (l2 : List β)
    (hit : evs g [i1, i2] δ S = .ok [.tup (l1.map ex), .tup (l2.map ey)] S)
    (h : ∀ a ∈ l1.zip l2, (ex a.1).hasClo = false ∧ (ey a.2).hasClo = false ∧ ev g c (((wipeC (wipeE δ own)).set v (some (ex a.1))).set w (some (ey a.2))) S = .ok (.bl (p a)) S ∧ (p a = true → ev g e (((wipeC (wipeE δ own)).set v (some (ex a.1))).set w (some (ey a.2))) S = .ok (f a) S ∧ (f a).hasClo = false)) (hl : (l1.zip l2).length ≤ line) :
    ev g (.lc m [v, w] .zip [i1, i2] c e own) δ S = endL m (((l1.zip l2).filter p).map f) S := by
  unfold ev
  rw [hit, Res.bind_ok]
  unfold iterK
  dsimp only
  unfold itZip
  dsimp only
  rw [Res.bind_ok]
  dsimp only
  rw [zip_map, lc_two (x := fun a => ex a.1) (y := fun a => ey a.2) (p := p) (f := f) (l1.zip l2) h hl, Res.bind_ok]
/-- over a range, with a store that goes on -/
theorem ev_lcS {g : GE} {m : Bool} {v : Nat} {it e : Tm} {own : List Nat} {δ : En} {S : Store} {n : Nat} {P : Nat → Store → List D → Prop} (hit : evs g [it] δ S = .ok [.int (n : Int)] S) (hn : n < 1000) (h0 : P 0 S [])
    (h : ∀ j S acc, j < n → P j S acc → ∃ d S', ev g e ((wipeC (wipeE δ own)).set v (some (.int (j : Int)))) S = .ok d S' ∧ d.hasClo = false ∧ P (j + 1) S' (acc ++ [d])) :
    ∃ S' r, ev g (.lc m [v] .range [it] (.cbl true) e own) δ S = endL m r S' ∧ P n S' r := by
  obtain ⟨S', r, h1, h2⟩ := lc_store (step := stepL [v] (wipeC (wipeE δ own)) (ev g (.cbl true)) (ev g e)) (P := P) (rangeD 0 (n : Int)) 0 S [] h0 (by unfold rangeD; rw [List.length_map, List.length_range]; show 0 + ((n : Int) - 0).toNat ≤ 16777216; omega) fun j d S acc hj hp => by
    unfold rangeD at hj
    rw [List.getElem?_map] at hj
    obtain ⟨i, hi, rfl⟩ := Option.map_eq_some_iff.mp hj
    obtain ⟨hlt, hi⟩ := List.getElem?_eq_some_iff.mp hi
    rw [List.getElem_range] at hi
    rw [List.length_range] at hlt
    subst hi
    rw [Nat.zero_add] at hp
    obtain ⟨d, S', h3, h4, h5⟩ := h j S acc (by omega) hp
    refine ⟨d, S', ?_, by rw [Nat.zero_add]; exact h5⟩
    unfold stepL
    rw [if_neg (by simp [D.hasClo])]
    unfold bindG
    dsimp only
    rw [show (0 : Int) + (j : Int) = (j : Int) by omega]
    rw [show ev g (.cbl true) ((wipeC (wipeE δ own)).set v (some (.int (j : Int)))) S = .ok (.bl true) S by unfold ev; rfl, Res.bind_ok]
    dsimp only
    rw [h3, Res.bind_ok, h4]
    rfl
  refine ⟨S', r, ?_, ?_⟩
  · unfold ev
    rw [hit, Res.bind_ok]
    unfold iterK
    dsimp only
    unfold itRange
    dsimp only
    rw [if_pos (by unfold rngOk; rw [decide_eq_true (by omega), decide_eq_true (by omega)]; rfl)]
    rw [Res.bind_ok]
    dsimp only
    rw [show (fun _ : Store => true) = tt from rfl, h1, Res.bind_ok]
  · rw [Nat.zero_add] at h2
    unfold rangeD at h2
    rw [List.length_map, List.length_range, Int.sub_zero, Int.toNat_natCast] at h2
    exact h2
/-- for, over a tuple -/
theorem ex_for1 {g : GE} {v : Nat} {it : Tm} {b : List Sm} {δ : En} {S : Store} {x : D} {l : List D} {P : Nat → En → Store → Prop} (hit : evs g [it] δ S = .ok [x] S) (hx : iterD S x = some l) (hg : gdR S x = tt) (h0 : P 0 δ S) (hc : ∀ d ∈ l, d.hasClo = false)
    (h : ∀ j d δ S, l[j]? = some d → P j δ S → ∃ δ' S', exs g b (δ.set v (some d)) S = .ok (.nx δ') S' ∧ P (j + 1) δ' S') :
    ∃ δ' S', ex g (.for false [v] .plain [it] b) δ S = .ok (.nx δ') S' ∧ P l.length δ' S' := by
  obtain ⟨δ', S', h1, h2⟩ := for_inv (step := stepF false [v] (exs g b)) (P := P) l 0 δ S h0 fun j d δ S hj hp => by
    rw [Nat.zero_add] at hp
    obtain ⟨δ', S', h3, h4⟩ := h j d δ S hj hp
    refine ⟨δ', S', ?_, by rw [Nat.zero_add]; exact h4⟩
    unfold stepF
    rw [hc d (List.mem_of_getElem? hj), if_neg Bool.false_ne_true]
    exact h3
  refine ⟨δ', S', ?_, by rw [Nat.zero_add] at h2; exact h2⟩
  unfold ex
  rw [hit, Res.bind_ok]
  unfold iterK
  dsimp only
  unfold itPlain
  dsimp only
  rw [hx]
  dsimp only
  rw [Res.bind_ok]
  dsimp only
  rw [hg]
  exact h1
/-- for, over pairs -/
theorem ex_for2 {g : GE} {c : Bool} {v w : Nat} {ik : Ik} {it : List Tm} {b : List Sm} {δ : En} {S : Store} {α : Type} {ex1 ex2 : α → D} {P : Nat → En → Store → Prop} {ys : List D} (l : List α) (hit : evs g it δ S = .ok ys S) (hk : iterK ik ys S = .ok ⟨l.map fun a => .tup [ex1 a, ex2 a], tt⟩ S) (h0 : P 0 δ S) (hc : ∀ a ∈ l, (ex1 a).hasClo = false ∧ (ex2 a).hasClo = false)
    (h : ∀ j a δ S, l[j]? = some a → P j δ S → ∃ δ' S', exs g b (((if c then wipeC δ else δ).set v (some (ex1 a))).set w (some (ex2 a))) S = .ok (.nx δ') S' ∧ P (j + 1) δ' S') :
    ∃ δ' S', ex g (.for c [v, w] ik it b) δ S = .ok (.nx δ') S' ∧ P l.length δ' S' := by
  obtain ⟨δ', S', h1, h2⟩ := for_inv (step := stepF c [v, w] (exs g b)) (P := P) (l.map fun a => .tup [ex1 a, ex2 a]) 0 δ S h0 fun j d δ S hj hp => by
    rw [Nat.zero_add] at hp
    rw [List.getElem?_map] at hj
    obtain ⟨a, ha, rfl⟩ := Option.map_eq_some_iff.mp hj
    obtain ⟨δ', S', h3, h4⟩ := h j a δ S ha hp
    refine ⟨δ', S', ?_, by rw [Nat.zero_add]; exact h4⟩
    have hm := hc a (List.mem_of_getElem? ha)
    unfold stepF
    rw [if_neg (by simp [D.hasClo, D.hasCloL, hm.1, hm.2])]
    exact h3
  refine ⟨δ', S', ?_, by rw [Nat.zero_add, List.length_map] at h2; exact h2⟩
  unfold ex
  rw [hit, Res.bind_ok, hk, Res.bind_ok]
  exact h1
/-- for, over a range -/
theorem ex_forR {g : GE} {v : Nat} {it : Tm} {b : List Sm} {δ : En} {S : Store} {n : Nat} {P : Nat → En → Store → Prop} (hit : evs g [it] δ S = .ok [.int (n : Int)] S) (hn : n < 1000) (h0 : P 0 δ S)
    (h : ∀ j δ S, j < n → P j δ S → ∃ δ' S', exs g b (δ.set v (some (.int (j : Int)))) S = .ok (.nx δ') S' ∧ P (j + 1) δ' S') :
    ∃ δ' S', ex g (.for false [v] .range [it] b) δ S = .ok (.nx δ') S' ∧ P n δ' S' := by
  obtain ⟨δ', S', h1, h2⟩ := for_inv (step := stepF false [v] (exs g b)) (P := P) (rangeD 0 (n : Int)) 0 δ S h0 fun j d δ S hj hp => by
    rw [Nat.zero_add] at hp
    unfold rangeD at hj
    rw [List.getElem?_map] at hj
    obtain ⟨i, hi, rfl⟩ := Option.map_eq_some_iff.mp hj
    obtain ⟨hlt, hi⟩ := List.getElem?_eq_some_iff.mp hi
    rw [List.getElem_range] at hi
    rw [List.length_range] at hlt
    subst hi
    obtain ⟨δ', S', h3, h4⟩ := h j δ S (by omega) hp
    refine ⟨δ', S', ?_, by rw [Nat.zero_add]; exact h4⟩
    unfold stepF
    rw [if_neg (by simp [D.hasClo])]
    unfold bindG
    dsimp only
    rw [show (0 : Int) + (j : Int) = (j : Int) by omega]
    exact h3
  refine ⟨δ', S', ?_, ?_⟩
  · unfold ex
    rw [hit, Res.bind_ok]
    unfold iterK
    dsimp only
    unfold itRange
    dsimp only
    rw [if_pos (by unfold rngOk; rw [decide_eq_true (by omega), decide_eq_true (by omega)]; rfl)]
    rw [Res.bind_ok]
    exact h1
  · rw [Nat.zero_add] at h2
    unfold rangeD at h2
    rw [List.length_map, List.length_range, Int.sub_zero, Int.toNat_natCast] at h2
    exact h2
/-! ### all of -/
theorem bls_map {α : Type} (f : α → Bool) : ∀ l : List α, blsD (l.map fun a => D.bl (f a)) = some (l.map f)
  | [] => rfl
  | a :: l => by
    rw [List.map_cons, blsD, bls_map f l]
    rfl
theorem strs_map : ∀ l : List (List Nat), strsD (l.map dS) = some (l.map S)
  | [] => rfl
  | a :: l => by
    rw [List.map_cons]
    unfold dS strsD
    rw [show l.map (fun c => D.str (S c)) = l.map dS from rfl, strs_map l]
    rfl
theorem ints_map : ∀ l : List Int, intsD (l.map D.int) = some l
  | [] => rfl
  | a :: l => by
    rw [List.map_cons, intsD, ints_map l]
    rfl
theorem fuel_le : 1000 ≤ fuelW := by
  unfold fuelW
  exact Nat.le_trans (by decide : 1000 ≤ 10 ^ 3) (Nat.pow_le_pow_right (by decide) (by decide))
end MM
end
section
set_option Elab.async false
set_option linter.all false
set_option maxRecDepth 100000
set_option maxHeartbeats 1000000
/-! Texts of whole numbers. -/
namespace MM
open PySem SX
def numI (i : Int) : List Nat := if i < 0 then 45 :: TL.numL i.natAbs else TL.numL i.natAbs
theorem numI_pos {i : Int} (h : 0 ≤ i) : numI i = TL.numL i.natAbs := if_neg (by omega)
theorem numI_neg {i : Int} (h : i < 0) : numI i = 45 :: TL.numL i.natAbs := if_pos h
theorem num_txt (i : Int) : Str.ofString (toString i) = S (numI i) := by
  cases i with
  | ofNat n =>
    have := num_S n
    rw [← show numI (n : Int) = TL.numL n from numI_pos (Int.natCast_nonneg n)] at this
    exact this
  | negSucc m =>
    rw [numI_neg (Int.negSucc_lt_zero m)]
    have e : toString (Int.negSucc m) = "-" ++ toString (((m + 1 : Nat)) : Int) := rfl
    refine TL.ext_tl ?_
    have h := TL.tl_num (m + 1)
    rw [TL.tl_ofString] at h
    rw [e, TL.tl_ofString, String.toList_append, List.map_append, h]
    rfl
theorem numI_len {i : Int} {k : Nat} (hk : 0 < k) (h : i.natAbs < 10 ^ k) : (numI i).length ≤ k + 1 := by
  have := TL.numL_len hk h
  unfold numI
  split
  · rw [List.length_cons]
    omega
  · omega
theorem numI_signs (i : Int) : ∀ c ∈ numI i, c = 45 ∨ (48 ≤ c ∧ c ≤ 57) := by
  intro c hc
  unfold numI at hc
  split at hc
  · rcases List.mem_cons.mp hc with rfl | h
    · exact .inl rfl
    · exact .inr (TL.numL_digits _ c h)
  · exact .inr (TL.numL_digits _ c hc)
theorem numI_asc (i : Int) : Asc (numI i) := fun x hx => by
  have := numI_signs i x hx
  omega
theorem numI_ne (i : Int) : numI i ≠ [] := by
  unfold numI
  split
  · exact List.cons_ne_nil _ _
  · exact TL.numL_ne _
theorem int_back {i : Int} (h : (numI i).length ≤ 640) : PySem.intText? (S (numI i)) = some i := by
  by_cases hi : i < 0
  · rw [numI_neg hi] at h ⊢
    have e := PySem.intText_neg (x := S (45 :: TL.numL i.natAbs)) rfl (TL.numL_digits _) (TL.numL_ne _) (by rw [S_len]; omega)
    rw [e, TL.numL_val]
    exact congrArg some (by omega)
  · rw [numI_pos (by omega)] at h ⊢
    have e := PySem.intText_digits (x := S (TL.numL i.natAbs)) (TL.numL_digits _) (TL.numL_ne _) (by rw [S_len]; omega)
    rw [e, show (S (TL.numL i.natAbs)).cps.toList = TL.numL i.natAbs from rfl, TL.numL_val]
    exact congrArg some (by omega)
theorem numL_head {n : Nat} (h : 0 < n) : ∃ c r, TL.numL n = c :: r ∧ c ≠ 48 := by
  induction n using Nat.strongRecOn with
  | _ n ih =>
    by_cases hn : n < 10
    · exact ⟨48 + n, [], TL.numL_lt hn, by omega⟩
    · obtain ⟨c, r, e, hc⟩ := ih (n / 10) (by omega) (by omega)
      exact ⟨c, r ++ [48 + n % 10], by rw [TL.numL_step (by omega), e]; rfl, hc⟩
theorem bits_pow {n : Nat} {i : Int} (h : Bits n i) : i.natAbs < 10 ^ n := Nat.lt_of_lt_of_le h (Nat.pow_le_pow_left (by decide) n)
end MM
end
section
set_option Elab.async false
set_option linter.all false
set_option maxRecDepth 100000
set_option maxHeartbeats 1000000
/-! Pairs of names, by < -/
namespace MM
open PySem SX
theorem lst_irrefl (a : List Nat) : ¬ a < a := fun h => List.lt_irrefl a h
theorem pair_lt {s : Store} {a b c d : List Nat} (h : a < c ∨ (a = c ∧ b < d)) : ltT s (.tup [dS a, dS b]) (.tup [dS c, dS d]) = some true := by
  have e1 : data s (.tup [dS a, dS b]) = some (.tuple [.str (S a), .str (S b)]) := rfl
  have e2 : data s (.tup [dS c, dS d]) = some (.tuple [.str (S c), .str (S d)]) := rfl
  have e3 : PySem.W.alike (.tuple [.str (S a), .str (S b)]) (.tuple [.str (S c), .str (S d)]) = true := rfl
  have e4 : (decide ((PyData.tuple [.str (S a), .str (S b)]).depth < 60)) = true := rfl
  have k : ∀ a b : List Nat, PySem.W.keyToksAll [.str (S a), .str (S b)] = [Sum.inl 1, Sum.inr a, Sum.inl 1, Sum.inr b, Sum.inl 0] := fun _ _ => rfl
  have e5 : PySem.W.dataLt (.tuple [.str (S a), .str (S b)]) (.tuple [.str (S c), .str (S d)]) = true := by
    rw [PySem.W.dataLt_tuple, k, k, PyProof.Rows.lex_self]
    rcases h with h | ⟨rfl, h⟩
    · have hne : (Sum.inr a : Int ⊕ List Nat) ≠ Sum.inr c := fun z => by
        have := Sum.inr.inj z
        subst this
        exact lst_irrefl a h
      rw [PyProof.Rows.lex_diff hne]
      exact decide_eq_true h
    · have hne : (Sum.inr b : Int ⊕ List Nat) ≠ Sum.inr d := fun z => by
        have := Sum.inr.inj z
        subst this
        exact lst_irrefl b h
      rw [PyProof.Rows.lex_self, PyProof.Rows.lex_self, PyProof.Rows.lex_diff hne]
      exact decide_eq_true h
  unfold ltT
  dsimp only
  rw [e1, e2]
  dsimp only
  rw [e3, e4, e5]
  rfl
theorem pair_ltD {a b c d : D} : ltD (.tup [a, b]) (.tup [c, d]) = none := rfl
/-! ### what a text tells of trust -/
abbrev Tri : Type := List Nat × List Nat × Fr
def trs (p : List (List Nat)) (t : List (List Fr)) : List Tri := (p.zip t).flatMap fun a => ((p.zip a.2).filter fun b => decide (b.2 ≠ (0, 1))).map fun b => (a.1, b.1, b.2)
theorem trs_mem {p : List (List Nat)} {t : List (List Fr)} {x : Tri} (h : x ∈ trs p t) : x.1 ∈ p ∧ x.2.1 ∈ p ∧ x.2.2 ≠ (0, 1) ∧ ∃ r ∈ t, x.2.2 ∈ r := by
  unfold trs at h
  obtain ⟨a, ha, hx⟩ := List.mem_flatMap.mp h
  obtain ⟨b, hb, rfl⟩ := List.mem_map.mp hx
  obtain ⟨hb, hn⟩ := List.mem_filter.mp hb
  exact ⟨(List.of_mem_zip ha).1, (List.of_mem_zip hb).1, of_decide_eq_true hn, a.2, (List.of_mem_zip ha).2, (List.of_mem_zip hb).2⟩
def Tlt (x y : Tri) : Prop := x.1 < y.1 ∨ (x.1 = y.1 ∧ x.2.1 < y.2.1)
theorem zip_fst_pw {α β : Type} {R : α → α → Prop} : ∀ {l : List α} {m : List β}, l.Pairwise R → (l.zip m).Pairwise fun a b => R a.1 b.1
  | [], _, _ => List.Pairwise.nil
  | _ :: _, [], _ => List.Pairwise.nil
  | a :: l, b :: m, h => by
    rw [List.pairwise_cons] at h
    rw [List.zip_cons_cons, List.pairwise_cons]
    exact ⟨fun x hx => h.1 x.1 (List.of_mem_zip hx).1, zip_fst_pw h.2⟩
theorem flat_pw {α β : Type} {R : β → β → Prop} {f : α → List β} : ∀ {l : List α}, (∀ a ∈ l, (f a).Pairwise R) → l.Pairwise (fun a b => ∀ x ∈ f a, ∀ y ∈ f b, R x y) → (l.flatMap f).Pairwise R
  | [], _, _ => List.Pairwise.nil
  | a :: l, h1, h2 => by
    rw [List.pairwise_cons] at h2
    rw [List.flatMap_cons, List.pairwise_append]
    refine ⟨h1 a List.mem_cons_self, flat_pw (fun b hb => h1 b (List.mem_cons_of_mem _ hb)) h2.2, fun x hx y hy => ?_⟩
    obtain ⟨b, hb, hy⟩ := List.mem_flatMap.mp hy
    exact h2.1 b hb x hx y hy
theorem trs_pw {p : List (List Nat)} {t : List (List Fr)} (h : p.Pairwise (· < ·)) : (trs p t).Pairwise Tlt := by
  unfold trs
  refine flat_pw (fun a _ => ?_) ?_
  · refine List.Pairwise.map _ (R := fun b c => b.1 < c.1) (fun b c hbc => .inr ⟨rfl, hbc⟩) ?_
    exact (zip_fst_pw h).filter _
  · refine (zip_fst_pw h).imp fun hab x hx y hy => ?_
    obtain ⟨b, _, rfl⟩ := List.mem_map.mp hx
    obtain ⟨c, _, rfl⟩ := List.mem_map.mp hy
    exact .inl hab
theorem trs_at {p : List (List Nat)} {t : List (List Fr)} {i j : Nat} {a b : List Nat} {r : List Fr} {f : Fr} (h1 : p[i]? = some a) (h2 : t[i]? = some r) (h3 : p[j]? = some b) (h4 : r[j]? = some f) (hf : f ≠ (0, 1)) : (a, b, f) ∈ trs p t := by
  unfold trs
  refine List.mem_flatMap.mpr ⟨(a, r), ?_, List.mem_map.mpr ⟨(b, f), List.mem_filter.mpr ⟨?_, decide_eq_true hf⟩, rfl⟩⟩
  · refine List.mem_of_getElem? (i := i) ?_
    rw [List.getElem?_zip_eq_some]
    exact ⟨h1, h2⟩
  · refine List.mem_of_getElem? (i := j) ?_
    rw [List.getElem?_zip_eq_some]
    exact ⟨h3, h4⟩
theorem nodup_of {p : List (List Nat)} (h : p.Pairwise (· < ·)) {i j : Nat} {a : List Nat} (h1 : p[i]? = some a) (h2 : p[j]? = some a) : i = j := by
  obtain ⟨li, ei⟩ := List.getElem?_eq_some_iff.mp h1
  obtain ⟨lj, ej⟩ := List.getElem?_eq_some_iff.mp h2
  rcases Nat.lt_trichotomy i j with z | z | z
  · have := List.pairwise_iff_getElem.mp h i j li lj z
    rw [ei, ej] at this
    exact absurd this (lst_irrefl a)
  · exact z
  · have := List.pairwise_iff_getElem.mp h j i lj li z
    rw [ei, ej] at this
    exact absurd this (lst_irrefl a)
theorem trs_only {p : List (List Nat)} {t : List (List Fr)} (hp : p.Pairwise (· < ·)) {i j : Nat} {a b : List Nat} {r : List Fr} {f : Fr} (h1 : p[i]? = some a) (h2 : t[i]? = some r) (h3 : p[j]? = some b) (h : (a, b, f) ∈ trs p t) : r[j]? = some f := by
  unfold trs at h
  obtain ⟨x, hx, hy⟩ := List.mem_flatMap.mp h
  obtain ⟨y, hy, e⟩ := List.mem_map.mp hy
  obtain ⟨i', hi'⟩ := List.mem_iff_getElem?.mp hx
  obtain ⟨j', hj'⟩ := List.mem_iff_getElem?.mp (List.mem_filter.mp hy).1
  rw [List.getElem?_zip_eq_some] at hi' hj'
  have e1 : x.1 = a := congrArg (fun z : Tri => z.1) e
  have e2 : y.1 = b := congrArg (fun z : Tri => z.2.1) e
  have e3 : y.2 = f := congrArg (fun z : Tri => z.2.2) e
  rw [e1] at hi'
  rw [e2, e3] at hj'
  have := nodup_of hp h1 hi'.1
  subst this
  have := nodup_of hp h3 hj'.1
  subst this
  rw [h2] at hi'
  rw [Option.some.inj hi'.2]
  exact hj'.2
/-! ### a dict of these -/
theorem get_mem {κ : Type} [DecidableEq κ] : ∀ {ks : List κ} {vs : List D} {i : Nat} {x : κ} {v : D}, ks.Nodup → ks[i]? = some x → vs[i]? = some v → dicGet ks vs x = some v
  | [], _, _, _, _, _, h, _ => by simp at h
  | _ :: _, [], i, _, _, _, _, h => by simp at h
  | k :: ks, w :: vs, 0, x, v, _, h1, h2 => by
    have h1 : k = x := by simpa using h1
    have h2 : w = v := by simpa using h2
    unfold dicGet
    rw [if_pos h1, h2]
  | k :: ks, w :: vs, i + 1, x, v, hn, h1, h2 => by
    rw [List.nodup_cons] at hn
    have h1 : ks[i]? = some x := by simpa using h1
    have h2 : vs[i]? = some v := by simpa using h2
    unfold dicGet
    rw [if_neg (fun z => hn.1 (by rw [z]; exact List.mem_of_getElem? h1)), get_mem hn.2 h1 h2]
theorem get_none {κ : Type} [DecidableEq κ] : ∀ {ks : List κ} {vs : List D} {x : κ}, x ∉ ks → dicGet ks vs x = none
  | [], _, _, _ => by unfold dicGet; rfl
  | _ :: _, [], _, _ => by unfold dicGet; rfl
  | k :: ks, w :: vs, x, h => by
    unfold dicGet
    rw [if_neg (fun z => h (by rw [z]; exact List.mem_cons_self)), get_none fun z => h (List.mem_cons_of_mem _ z)]
end MM
namespace MM
open PySem SX
/-! ### loops of dict comprehensions -/
section
variable {κ : Type} [DecidableEq κ] {step : D → Store → Res (Option (κ × D))} {S : Store}
theorem dc_skips : ∀ (l m : List D) (ks : List κ) (vs : List D), (∀ d ∈ l, step d S = .ok none S) → dcLoop tt step (l ++ m) S ks vs = dcLoop tt step m S ks vs
  | [], m, ks, vs, _ => rfl
  | d :: l, m, ks, vs, h => by
    rw [List.cons_append, dcLoop, if_pos rfl, h d List.mem_cons_self]
    exact dc_skips l m ks vs fun e he => h e (List.mem_cons_of_mem _ he)
theorem dc_puts {α : Type} {enc : α → D} {key : α → κ} {val : α → D} : ∀ (l : List α) (ks : List κ) (vs : List D), (∀ a ∈ l, step (enc a) S = .ok (some (key a, val a)) S) → (ks ++ l.map key).Nodup → ks.length + l.length ≤ line → dcLoop tt step (l.map enc) S ks vs = .ok (ks ++ l.map key, vs ++ l.map val) S
  | [], ks, vs, _, _, _ => by
    rw [List.map_nil, List.map_nil, List.map_nil, List.append_nil, List.append_nil]
    rfl
  | a :: l, ks, vs, h, hn, hl => by
    rw [List.length_cons] at hl
    rw [List.map_cons, dcLoop, if_pos rfl, h a List.mem_cons_self]
    dsimp only
    have hk : key a ∉ ks := fun z => by
      rw [List.nodup_append] at hn
      exact hn.2.2 (key a) z (key a) (by rw [List.map_cons]; exact List.mem_cons_self) rfl
    have hp : dicPut ks vs (key a) (val a) = (ks ++ [key a], vs ++ [val a]) := by
      unfold dicPut
      rw [if_neg]
      intro z
      obtain ⟨k, hk', e⟩ := List.any_eq_true.mp z
      rw [of_decide_eq_true e] at hk'
      exact hk hk'
    rw [if_pos (by omega), hp, dc_puts l (ks ++ [key a]) (vs ++ [val a]) (fun b hb => h b (List.mem_cons_of_mem _ hb)) (by rw [List.append_assoc]; exact hn) (by rw [List.length_append, List.length_singleton]; omega)]
    rw [List.append_assoc, List.append_assoc]
    rfl
end
theorem flat_len {α β : Type} {f : α → List β} {n : Nat} : ∀ {l : List α}, (∀ a ∈ l, (f a).length ≤ n) → (l.flatMap f).length ≤ l.length * n
  | [], _ => by simp
  | a :: l, h => by
    rw [List.flatMap_cons, List.length_append, List.length_cons, Nat.add_mul, Nat.one_mul]
    have := h a List.mem_cons_self
    have := flat_len (l := l) fun b hb => h b (List.mem_cons_of_mem _ hb)
    omega
theorem trs_len {p : List (List Nat)} {t : List (List Fr)} (h : p.length ≤ 5) : (trs p t).length ≤ 25 := by
  have := flat_len (f := fun a : List Nat × List Fr => ((p.zip a.2).filter fun b => decide (b.2 ≠ (0, 1))).map fun b => (a.1, b.1, b.2)) (n := 5) (l := p.zip t) fun a _ => by
    rw [List.length_map]
    refine Nat.le_trans (List.length_filter_le _ _) ?_
    rw [List.length_zip]
    omega
  have h2 : (p.zip t).length ≤ 5 := by
    rw [List.length_zip]
    omega
  unfold trs
  omega
abbrev tkey (x : Tri) : List L2.Key := [.inr (S x.1), .inr (S x.2.1)]
theorem tkey_inj {x y : Tri} (h : tkey x = tkey y) : x.1 = y.1 ∧ x.2.1 = y.2.1 := by
  have h1 := (List.cons.inj h).1
  have h2 := (List.cons.inj (List.cons.inj h).2).1
  exact ⟨S_inj (Sum.inr.inj h1), S_inj (Sum.inr.inj h2)⟩
theorem keys_nodup {p : List (List Nat)} {t : List (List Fr)} (h : p.Pairwise (· < ·)) : ((trs p t).map tkey).Nodup := by
  rw [List.nodup_iff_pairwise_ne, List.pairwise_map]
  refine (trs_pw h).imp fun hxy z => ?_
  obtain ⟨e1, e2⟩ := tkey_inj z
  rcases hxy with h | ⟨_, h⟩
  · rw [e1] at h
    exact lst_irrefl _ h
  · rw [e2] at h
    exact lst_irrefl _ h
/-- what the dict tells of two -/
abbrev told2 (ts : List Tri) (a b : List Nat) : D := (dicGet (ts.map tkey) (ts.map fun x => dF x.2.2) (tkey (a, b, (0, 1)))).getD (dF (0, 1))
theorem told2_ok {p : List (List Nat)} {t : List (List Fr)} (hp : p.Pairwise (· < ·)) {i j : Nat} {a b : List Nat} {r : List Fr} {f : Fr} (h1 : p[i]? = some a) (h2 : t[i]? = some r) (h3 : p[j]? = some b) (h4 : r[j]? = some f) : told2 (trs p t) a b = dF f := by
  unfold told2
  by_cases hf : f = (0, 1)
  · rw [get_none]
    · rw [hf]
      rfl
    · intro z
      obtain ⟨x, hx, e⟩ := List.mem_map.mp z
      obtain ⟨e1, e2⟩ := tkey_inj e
      have hx' : (a, b, x.2.2) ∈ trs p t := by
        have : x = (a, b, x.2.2) := by
          obtain ⟨x1, x2, x3⟩ := x
          have e1 : x1 = a := e1
          have e2 : x2 = b := e2
          rw [e1, e2]
        rw [← this]
        exact hx
      have := trs_only hp h1 h2 h3 hx'
      rw [h4] at this
      have := Option.some.inj this
      exact (trs_mem hx).2.2.1 (by rw [← this, hf])
  · obtain ⟨n, hn⟩ := List.mem_iff_getElem?.mp (trs_at h1 h2 h3 h4 hf)
    rw [get_mem (i := n) (v := dF f) (keys_nodup hp) (by rw [List.getElem?_map, hn]; rfl) (by rw [List.getElem?_map, hn]; rfl)]
    rfl
theorem told_all {p : List (List Nat)} {t : List (List Fr)} (hp : p.Pairwise (· < ·)) (hl : t.length = p.length) (hr : ∀ r ∈ t, r.length = p.length) : D.tup (p.map fun a => .tup (p.map (told2 (trs p t) a))) = dT t := by
  unfold dT
  congr 1
  refine List.ext_getElem (by rw [List.length_map, List.length_map, hl]) fun i h1 h2 => ?_
  rw [List.getElem_map, List.getElem_map]
  rw [List.length_map] at h1 h2
  unfold dFs
  congr 1
  have hrl := hr t[i] (List.getElem_mem h2)
  refine List.ext_getElem (by rw [List.length_map, List.length_map, hrl]) fun j h3 h4 => ?_
  rw [List.length_map] at h3 h4
  rw [List.getElem_map, List.getElem_map]
  exact told2_ok hp (List.getElem?_eq_getElem h1) (List.getElem?_eq_getElem h2) (List.getElem?_eq_getElem h3) (List.getElem?_eq_getElem h4)
theorem fr_pos {f : Fr} (h : IsFr f) (h0 : 0 ≤ f.1) (hn : f ≠ (0, 1)) : 0 < f.1 := by
  by_cases z : f.1 = 0
  · exfalso
    have hc := h.cop
    have hp := h.pos
    rw [z] at hc
    have : f.2.natAbs = 1 := by simpa using hc
    obtain ⟨a, b⟩ := f
    have z : a = 0 := z
    have hp : 0 < b := hp
    have this : b.natAbs = 1 := this
    exact hn (by rw [z, show b = 1 by omega])
  · omega
end MM
end
section
set_option Elab.async false
set_option linter.all false
set_option maxRecDepth 100000
set_option maxHeartbeats 1000000
/-! Comprehensions over what is in the store; while; sorted. -/
namespace MM
open PySem SX
theorem lc_guard {c : Store → Bool} {step : D → Store → Res (Option D)} {S : Store} (hc : c S = true) : ∀ (l : List D) (acc : List D), (∀ d ∈ l, ∃ o, step d S = .ok o S) → lcLoop c step l S acc = lcLoop tt step l S acc
  | [], acc, _ => by
    rw [lcLoop, if_pos hc]
    rfl
  | d :: l, acc, h => by
    obtain ⟨o, ho⟩ := h d List.mem_cons_self
    rw [lcLoop, if_pos hc, lcLoop, if_pos rfl, ho]
    cases o with
    | none => exact lc_guard hc l acc fun e he => h e (List.mem_cons_of_mem _ he)
    | some x =>
      dsimp only
      by_cases hl : acc.length < line
      · rw [if_pos hl, if_pos hl]
        exact lc_guard hc l _ fun e he => h e (List.mem_cons_of_mem _ he)
      · rw [if_neg hl, if_neg hl]
/-- over a list of the store, that stays -/
theorem ev_lcg {g : GE} {m : Bool} {v : Nat} {it e : Tm} {own : List Nat} {δ : En} {S : Store} {x : D} {α : Type} {enc f : α → D} (l : List α) (hit : evs g [it] δ S = .ok [x] S) (hx : iterD S x = some (l.map enc)) (hg : gdR S x S = true)
    (h : ∀ a ∈ l, (enc a).hasClo = false ∧ ev g e ((wipeC (wipeE δ own)).set v (some (enc a))) S = .ok (f a) S ∧ (f a).hasClo = false) (hl : l.length ≤ line) :
    ev g (.lc m [v] .plain [it] (.cbl true) e own) δ S = endL m (l.map f) S := by
  unfold ev
  rw [hit, Res.bind_ok]
  unfold iterK
  dsimp only
  unfold itPlain
  dsimp only
  rw [hx]
  dsimp only
  rw [Res.bind_ok]
  dsimp only
  rw [lc_guard hg, lc_all l h hl, Res.bind_ok]
  intro d hd
  obtain ⟨a, ha, rfl⟩ := List.mem_map.mp hd
  obtain ⟨h1, h2, h3⟩ := h a ha
  refine ⟨some (f a), ?_⟩
  unfold stepL
  rw [h1, if_neg Bool.false_ne_true]
  unfold bindG
  dsimp only
  rw [show ev g (.cbl true) ((wipeC (wipeE δ own)).set v (some (enc a))) S = .ok (.bl true) S by unfold ev; rfl, Res.bind_ok]
  dsimp only
  rw [h2, Res.bind_ok, h3]
  rfl
/-- over a tuple, with a store that goes on -/
theorem ev_lcT {g : GE} {m : Bool} {v : Nat} {it e : Tm} {own : List Nat} {δ : En} {S : Store} {l : List D} {P : Nat → Store → List D → Prop} (hit : evs g [it] δ S = .ok [.tup l] S) (hl : l.length ≤ 1000) (h0 : P 0 S [])
    (h : ∀ j a S acc, l[j]? = some a → P j S acc → a.hasClo = false ∧ ∃ d S', ev g e ((wipeC (wipeE δ own)).set v (some a)) S = .ok d S' ∧ d.hasClo = false ∧ P (j + 1) S' (acc ++ [d])) :
    ∃ S' r, ev g (.lc m [v] .plain [it] (.cbl true) e own) δ S = endL m r S' ∧ P l.length S' r := by
  obtain ⟨S', r, h1, h2⟩ := lc_store (step := stepL [v] (wipeC (wipeE δ own)) (ev g (.cbl true)) (ev g e)) (P := P) l 0 S [] h0 (by show 0 + l.length ≤ 16777216; omega) fun j a S acc hj hp => by
    rw [Nat.zero_add] at hp
    obtain ⟨hc, d, S', h3, h4, h5⟩ := h j a S acc hj hp
    refine ⟨d, S', ?_, by rw [Nat.zero_add]; exact h5⟩
    unfold stepL
    rw [hc, if_neg Bool.false_ne_true]
    unfold bindG
    dsimp only
    rw [show ev g (.cbl true) ((wipeC (wipeE δ own)).set v (some a)) S = .ok (.bl true) S by unfold ev; rfl, Res.bind_ok]
    dsimp only
    rw [h3, Res.bind_ok, h4]
    rfl
  refine ⟨S', r, ?_, by rw [Nat.zero_add] at h2; exact h2⟩
  unfold ev
  rw [hit, Res.bind_ok]
  unfold iterK
  dsimp only
  unfold itPlain
  dsimp only
  rw [show iterD S (.tup l) = some l from rfl]
  dsimp only
  rw [Res.bind_ok]
  dsimp only
  rw [show gdR S (.tup l) = tt from rfl, h1, Res.bind_ok]
/-! ### sorted -/
theorem strLe_tr (a b c : Str) : strLe a b = true → strLe b c = true → strLe a c = true := by
  unfold strLe
  simp only [Bool.not_eq_true', decide_eq_false_iff_not]
  intro h1 h2 h3
  rw [List.not_lt] at h1 h2
  exact absurd h3 (List.not_lt.mpr (List.le_trans h1 h2))
theorem strLe_tot (a b : Str) : (strLe a b || strLe b a) = true := by
  unfold strLe
  rw [Bool.or_eq_true]
  simp only [Bool.not_eq_true', decide_eq_false_iff_not]
  rcases List.le_total a.cps.toList b.cps.toList with h | h
  · exact .inl (List.not_lt.mpr h)
  · exact .inr (List.not_lt.mpr h)
/-- sorted names: the same ones, ascending -/
theorem sorted_names {fs : List (List Nat)} (hn : fs.Nodup) : ∃ p : List (List Nat), ((fs.map S).mergeSort strLe).map D.str = p.map dS ∧ p.Perm fs ∧ p.Pairwise (· < ·) := by
  refine ⟨((fs.map S).mergeSort strLe).map fun x => x.cps.toList, ?_, ?_, ?_⟩
  · rw [List.map_map]
    refine List.map_congr_left fun x _ => ?_
    show D.str x = D.str (S x.cps.toList)
    rw [S_tl]
  · have h := (List.mergeSort_perm (fs.map S) strLe).map fun x => x.cps.toList
    rw [List.map_map] at h
    have e : (fs.map ((fun x : Str => x.cps.toList) ∘ S)) = fs := by
      have : ((fun x : Str => x.cps.toList) ∘ S) = id := rfl
      rw [this, List.map_id]
    rw [e] at h
    exact h
  · have h1 : ((fs.map S).mergeSort strLe).Pairwise fun a b => strLe a b = true := List.pairwise_mergeSort strLe_tr strLe_tot _
    have hnd : ((fs.map S).mergeSort strLe).Nodup := (List.mergeSort_perm _ _).nodup_iff.mpr (by
      rw [List.nodup_iff_pairwise_ne, List.pairwise_map]
      rw [List.nodup_iff_pairwise_ne] at hn
      exact hn.imp fun h z => h (S_inj z))
    rw [List.nodup_iff_pairwise_ne] at hnd
    rw [List.pairwise_map]
    refine (h1.and hnd).imp fun ⟨h2, h3⟩ => ?_
    unfold strLe at h2
    simp only [Bool.not_eq_true', decide_eq_false_iff_not] at h2
    rw [List.not_lt] at h2
    rcases List.le_iff_lt_or_eq.mp h2 with h | h
    · exact h
    · exact absurd (TL.ext_tl h) h3
/-! ### one that is not among so many -/
theorem sub_len : ∀ {l m : List Nat}, l.Nodup → (∀ x ∈ l, x ∈ m) → l.length ≤ m.length
  | [], _, _, _ => Nat.zero_le _
  | x :: l, m, hn, h => by
    rw [List.nodup_cons] at hn
    have hx := h x List.mem_cons_self
    have := sub_len (l := l) (m := m.erase x) hn.2 fun y hy => by
      have hne : y ≠ x := fun z => hn.1 (by rw [← z]; exact hy)
      exact (List.mem_erase_of_ne hne).mpr (h y (List.mem_cons_of_mem _ hy))
    rw [List.length_erase_of_mem hx] at this
    have hp : 0 < m.length := List.length_pos_of_mem hx
    rw [List.length_cons]
    omega
theorem free_sign {ls : List Nat} (hn : ls.Nodup) {bad : List (List Nat)} (q : List Nat) (h : (bad.filter fun b => decide (b.dropLast = q)).length < ls.length) : ∃ x ∈ ls, q ++ [x] ∉ bad := by
  by_cases hh : ∃ x ∈ ls, q ++ [x] ∉ bad
  · exact hh
  · exfalso
    have ha : ∀ x ∈ ls, q ++ [x] ∈ bad := fun x hx => by
      by_cases z : q ++ [x] ∈ bad
      · exact z
      · exact absurd ⟨x, hx, z⟩ hh
    have := sub_len (m := (bad.filter fun b => decide (b.dropLast = q)).map fun b => b.getLastD 0) hn fun x hx => by
      refine List.mem_map.mpr ⟨q ++ [x], List.mem_filter.mpr ⟨ha x hx, decide_eq_true (by simp)⟩, by simp⟩
    rw [List.length_map] at this
    omega
end MM
namespace MM
open PySem SX
/-- for, over a range that is drawn -/
theorem ex_forR' {g : GE} {v : Nat} {it : Tm} {b : List Sm} {δ : En} {S S1 : Store} {n : Nat} {P : Nat → En → Store → Prop} (hit : evs g [it] δ S = .ok [.int (n : Int)] S1) (hn : n < 1000) (h0 : P 0 δ S1)
    (h : ∀ j δ S, j < n → P j δ S → ∃ δ' S', exs g b (δ.set v (some (.int (j : Int)))) S = .ok (.nx δ') S' ∧ P (j + 1) δ' S') :
    ∃ δ' S', ex g (.for false [v] .range [it] b) δ S = .ok (.nx δ') S' ∧ P n δ' S' := by
  have hit2 : evs g [.cint (n : Int)] δ S1 = .ok [.int (n : Int)] S1 := by simp [ev]
  obtain ⟨δ', S', h1, h2⟩ := ex_forR (it := .cint (n : Int)) hit2 hn h0 h
  refine ⟨δ', S', ?_, h2⟩
  rw [← h1]
  unfold ex
  rw [hit, hit2]
theorem opAdd_lst {s : Store} {a b : List D} (h : a.length + b.length ≤ 16777216) : opAdd s (.lst a) (.lst b) = .ok (.lst (a ++ b)) s := by
  unfold opAdd
  dsimp only
  rw [show asL s (.lst a) = some a from rfl, show asL s (.lst b) = some b from rfl]
  exact if_pos h
theorem leave_frz {n0 : Nat} {d : D} {S : Store} (hc : d.hasClo = false) (hu : d.under n0 = true) (hl : S.length ≠ n0) (hS : ∀ m ∈ S.take n0, MO.under n0 m = true) : leave n0 false (.ok d S) = .ok d (S.take n0) := by
  unfold leave leaveOk frz
  dsimp only
  rw [hc, if_neg Bool.false_ne_true, if_neg hl, if_pos (List.all_eq_true.mpr hS), if_neg Bool.false_ne_true, if_pos hu]
  dsimp only
  rw [hc, if_neg Bool.false_ne_true]
/-! ### statements, one behind the other (by words, so that the kernel unfolds nothing) -/
theorem exs_nx {g : GE} {st : Sm} {r : List Sm} {δ δ' : En} {S S' : Store} (h : ex g st δ S = .ok (.nx δ') S') : exs g (st :: r) δ S = exs g r δ' S' := by
  rw [exs, h]
  unfold seqF
  rw [Res.bind_ok]
theorem exs_ret {g : GE} {st : Sm} {r : List Sm} {δ : En} {d : D} {S S' : Store} (h : ex g st δ S = .ok (.ret d) S') : exs g (st :: r) δ S = .ok (.ret d) S' := by
  rw [exs, h]
  unfold seqF
  rw [Res.bind_ok]
theorem exs_nil {g : GE} {δ : En} {S : Store} : exs g [] δ S = .ok (.nx δ) S := by unfold exs; rfl
theorem fnF_ret {N ps : List Str} {kp : Bool} {fb : En → Store → Res Fl} {ds : List D} {S S' : Store} {δ : En} {d : D} (hl : ds.length = ps.length) (hs : startE N.length ds = δ) (h : fb δ S = .ok (.ret d) S') : fnF N ps kp fb ds S = leave S.length kp (.ok d S') := by
  unfold fnF
  rw [if_pos hl, hs, h]
  rfl
theorem leave_same {n0 : Nat} {kp : Bool} {d : D} {S : Store} (hc : d.hasClo = false) (hl : S.length = n0) : leave n0 kp (.ok d S) = .ok d S := by
  unfold leave leaveOk
  dsimp only
  rw [hc, if_neg Bool.false_ne_true, if_pos hl]
theorem ex_ite_t {g : GE} {c : Tm} {a b : List Sm} {δ : En} {S S' : Store} {r : Res Fl} (h : ev g c δ S = .ok (.bl true) S') (h2 : exs g a δ S' = r) : ex g (.ite c a b) δ S = r := by
  unfold ex
  rw [h, Res.bind_ok]
  exact h2
theorem ex_ite_f {g : GE} {c : Tm} {a b : List Sm} {δ : En} {S S' : Store} {r : Res Fl} (h : ev g c δ S = .ok (.bl false) S') (h2 : exs g b δ S' = r) : ex g (.ite c a b) δ S = r := by
  unfold ex
  rw [h, Res.bind_ok]
  exact h2
theorem ex_set {g : GE} {e : Tm} {i : Nat} {δ : En} {S S' : Store} {d : D} (h : ev g e δ S = .ok d S') : ex g (.set (.nam false i) e) δ S = .ok (.nx (δ.set i (some d))) S' := by
  unfold ex
  rw [h, Res.bind_ok]
  rfl
theorem ex_setc {g : GE} {e : Tm} {i : Nat} {δ : En} {S S' : Store} {d : D} (h : ev g e δ S = .ok d S') (hc : d.hasClo = false) : ex g (.set (.nam true i) e) δ S = .ok (.nx ((wipeC δ).set i (some d))) S' := by
  unfold ex asnG
  rw [h, Res.bind_ok]
  dsimp only
  rw [if_pos rfl, hc, if_neg Bool.false_ne_true, Res.bind_ok]
theorem ex_ret {g : GE} {e : Tm} {δ : En} {S S' : Store} {d : D} (h : ev g e δ S = .ok d S') (hc : d.hasClo = false) : ex g (.ret e) δ S = .ok (.ret d) S' := by
  unfold ex retF
  rw [h, Res.bind_ok, hc, if_neg Bool.false_ne_true]
theorem ev_call {g : GE} {f : Str} {l : List Tm} {δ : En} {S S1 : Store} {xs : List D} {r : Res D} (h : evs g l δ S = .ok xs S1) (h2 : g.fn f xs S1 = r) : ev g (.call f l) δ S = r := by
  unfold ev
  rw [h, Res.bind_ok, h2]
theorem evs_two {g : GE} {a b : Tm} {δ : En} {S S1 S2 : Store} {x y : D} (ha : a.isStar = false) (hb : b.isStar = false) (h1 : ev g a δ S = .ok x S1) (h2 : ev g b δ S1 = .ok y S2) : evs g [a, b] δ S = .ok [x, y] S2 := by
  rw [evs_ns ha, h1, Res.bind_ok, evs_ns hb, h2, Res.bind_ok, evs_nil, Res.bind_ok, Res.bind_ok]
theorem evs_one {g : GE} {a : Tm} {δ : En} {S S1 : Store} {x : D} (ha : a.isStar = false) (h1 : ev g a δ S = .ok x S1) : evs g [a] δ S = .ok [x] S1 := by
  rw [evs_ns ha, h1, Res.bind_ok, evs_nil, Res.bind_ok]
end MM
end
section
set_option Elab.async false
set_option linter.all false
set_option maxRecDepth 100000
set_option maxHeartbeats 1000000
/-! Parts of one whole. -/
namespace MM
open PySem SX
theorem low_add {a b s : Int} (hs : 0 < s) : plus (low a s) (low b s) = low (a + b) s := by
  have hf := low_fr (a := a) hs
  have hg := low_fr (a := b) hs
  have hh := low_fr (a := a + b) hs
  have hP := plus_fr hf hg
  refine fr_eq hP hh ?_
  have v1 := low_val (a := a) hs
  have v2 := low_val (a := b) hs
  have v3 := low_val (a := a + b) hs
  have v4 := plus_val hf hg
  have p1 := hf.pos
  have p2 := hg.pos
  generalize low a s = f at *
  generalize low b s = g at *
  generalize low (a + b) s = h at *
  generalize plus f g = P at *
  have hn : s * (f.2 * g.2) ≠ 0 := Int.ne_of_gt (Int.mul_pos hs (Int.mul_pos p1 p2))
  refine Int.eq_of_mul_eq_mul_right hn ?_
  have e1 : P.1 * h.2 * (s * (f.2 * g.2)) = (P.1 * (f.2 * g.2)) * (h.2 * s) := by ac_rfl
  have e2 : (f.1 * g.2 + g.1 * f.2) * s = (a + b) * (f.2 * g.2) := by
    rw [Int.add_mul, Int.add_mul, show f.1 * g.2 * s = (f.1 * s) * g.2 by ac_rfl, show g.1 * f.2 * s = (g.1 * s) * f.2 by ac_rfl, v1, v2]
    rw [show a * f.2 * g.2 = a * (f.2 * g.2) by ac_rfl, show b * g.2 * f.2 = b * (f.2 * g.2) by ac_rfl]
  have e3 : h.1 * P.2 * (s * (f.2 * g.2)) = (h.1 * s) * (P.2 * (f.2 * g.2)) := by ac_rfl
  rw [e1, v4, e3, v3, show (f.1 * g.2 + g.1 * f.2) * P.2 * (h.2 * s) = ((f.1 * g.2 + g.1 * f.2) * s) * (P.2 * h.2) by ac_rfl, e2]
  ac_rfl
theorem low_0 {s : Int} (hs : 0 < s) : low 0 s = (0, 1) := by
  unfold low
  rw [show Nat.gcd (0 : Int).natAbs s.natAbs = s.natAbs from Nat.gcd_zero_left _, show ((s.natAbs : Nat) : Int) = s by omega, Int.zero_ediv, Int.ediv_self (by omega)]
theorem low_1 {s : Int} (hs : 0 < s) : low s s = (1, 1) := by
  unfold low
  rw [Nat.gcd_self, show ((s.natAbs : Nat) : Int) = s by omega, Int.ediv_self (by omega)]
theorem fold_low {s : Int} (hs : 0 < s) : ∀ (ys : List Int) (a : Int), (ys.map fun y => low y s).foldl plus (low a s) = low (a + ys.sum) s
  | [], a => by simp
  | y :: ys, a => by
    rw [List.map_cons, List.foldl_cons, low_add hs, fold_low hs ys (a + y), List.sum_cons, Int.add_assoc]
theorem total_low {s : Int} (hs : 0 < s) (ys : List Int) : total (ys.map fun y => low y s) = low ys.sum s := by
  unfold total
  rw [← low_0 hs, fold_low hs ys 0, Int.zero_add]
theorem sum_le {b : Int} : ∀ (ys : List Int), (∀ y ∈ ys, 0 ≤ y ∧ y ≤ b) → 0 ≤ ys.sum ∧ ys.sum ≤ (ys.length : Int) * b
  | [], _ => by simp
  | y :: ys, h => by
    have h1 := h y List.mem_cons_self
    have h2 := sum_le ys fun z hz => h z (List.mem_cons_of_mem _ hz)
    rw [List.sum_cons, List.length_cons, Int.natCast_succ, Int.add_mul, Int.one_mul]
    omega
theorem low_nn {a s : Int} (h : 0 ≤ a) : 0 ≤ (low a s).1 := Int.ediv_nonneg h (Int.natCast_nonneg _)
theorem low_bf {a s : Int} {n : Nat} (ha : Bits n a) (hs : Bits n s) : BF n (low a s) := low_bits ha hs
theorem sum_pos_set : ∀ (ys : List Int) (i : Nat), (∀ y ∈ ys, 0 ≤ y) → i < ys.length → 0 < (ys.set i 1).sum
  | [], _, _, h => absurd h (Nat.not_lt_zero _)
  | y :: ys, 0, h, _ => by
    rw [List.set_cons_zero, List.sum_cons]
    have : 0 ≤ ys.sum := by
      have aux : ∀ l : List Int, (∀ z ∈ l, 0 ≤ z) → 0 ≤ l.sum := by
        intro l
        induction l with
        | nil => intro _; simp
        | cons a l ih =>
          intro hh
          rw [List.sum_cons]
          have := hh a List.mem_cons_self
          have := ih fun z hz => hh z (List.mem_cons_of_mem _ hz)
          omega
      exact aux ys fun z hz => h z (List.mem_cons_of_mem _ hz)
    omega
  | y :: ys, i + 1, h, hi => by
    rw [List.set_cons_succ, List.sum_cons]
    have h1 := h y List.mem_cons_self
    have h2 := sum_pos_set ys i (fun z hz => h z (List.mem_cons_of_mem _ hz)) (by simpa using hi)
    omega
theorem set_map (ys : List Int) (i : Nat) : (ys.map D.int).set i (.int 1) = (ys.set i 1).map D.int := by
  rw [List.map_set]
end MM
end
section
set_option Elab.async false
set_option linter.all false
set_option maxRecDepth 100000
set_option maxHeartbeats 0
/-! The text of the law as data (printed by wip/gen.py). -/
namespace LW
open PySem PySem.Spec PyProof.Rows L2 MM
def top (i : Nat) : Stmt := PySem.Challenge.pw_mindmeans_k83_whole_texts_of_circles.main.body.getD i (.Pass ⟨0, 0, 0, 0⟩)
def a_is_whole : DefA := ⟨fun K => He.ga K (Str.ofString "is_whole"), (Str.ofString "is_whole"), (Str.ofString "is_whole"), defArgs (top 5), defBody (top 5), defScope (top 5)⟩
def b_is_whole_0 : Sm := (.ret (.and (.blt .isinstance [(.var 0), (.typ "int")]) (.not (.blt .isinstance [(.var 0), (.typ "bool")]))))
def r_is_whole : DefR := ⟨[(Str.ofString "value")], [(Str.ofString "value")], false, [b_is_whole_0]⟩
def a_is_word : DefA := ⟨fun K => He.ga K (Str.ofString "is_word"), (Str.ofString "is_word"), (Str.ofString "is_word"), defArgs (top 6), defBody (top 6), defScope (top 6)⟩
def t_is_word_0 : MM.Tm := .lc false [1] .plain [(.var 0)] (.cbl true) (.cmp .In (.var 1) (.glb (Str.ofString "LETTERS"))) [1]
def b_is_word_0 : Sm := (.ret (.and (.blt .isinstance [(.var 0), (.typ "str")]) (.and (.cmp .NotEq (.var 0) (.cstr (Str.ofString ""))) (.blt .all [t_is_word_0]))))
def r_is_word : DefR := ⟨[(Str.ofString "value"), (Str.ofString "sign")], [(Str.ofString "value")], false, [b_is_word_0]⟩
def a_is_name : DefA := ⟨fun K => He.ga K (Str.ofString "is_name"), (Str.ofString "is_name"), (Str.ofString "is_name"), defArgs (top 7), defBody (top 7), defScope (top 7)⟩
def b_is_name_0 : Sm := (.ret (.and (.call (Str.ofString "is_word") [(.var 0)]) (.and (.cmp .LtE (.blt .len [(.var 0)]) (.glb (Str.ofString "MOST_LETTERS"))) (.cmp .NotIn (.var 0) (.glb (Str.ofString "WORDS"))))))
def r_is_name : DefR := ⟨[(Str.ofString "value")], [(Str.ofString "value")], false, [b_is_name_0]⟩
def a_is_tuple_of : DefA := ⟨fun K => He.ga K (Str.ofString "is_tuple_of"), (Str.ofString "is_tuple_of"), (Str.ofString "is_tuple_of"), defArgs (top 8), defBody (top 8), defScope (top 8)⟩
def b_is_tuple_of_0 : Sm := (.ret (.and (.blt .isinstance [(.var 0), (.typ "tuple")]) (.cmp .Eq (.blt .len [(.var 0)]) (.var 1))))
def r_is_tuple_of : DefR := ⟨[(Str.ofString "value"), (Str.ofString "many")], [(Str.ofString "value"), (Str.ofString "many")], false, [b_is_tuple_of_0]⟩
def a_is_pair : DefA := ⟨fun K => He.ga K (Str.ofString "is_pair"), (Str.ofString "is_pair"), (Str.ofString "is_pair"), defArgs (top 9), defBody (top 9), defScope (top 9)⟩
def b_is_pair_0 : Sm := (.ret (.call (Str.ofString "is_tuple_of") [(.var 0), (.cint 2)]))
def r_is_pair : DefR := ⟨[(Str.ofString "value")], [(Str.ofString "value")], false, [b_is_pair_0]⟩
def a_wrong_in : DefA := ⟨fun K => He.ga K (Str.ofString "wrong_in"), (Str.ofString "wrong_in"), (Str.ofString "wrong_in"), defArgs (top 10), defBody (top 10), defScope (top 10)⟩
def b_wrong_in_0_a_0 : Sm := (.ret (.lst false [.cnon]))
def q_wrong_in_0_a : List Sm := [b_wrong_in_0_a_0]
def b_wrong_in_0 : Sm := (.ite (.or (.not (.blt .isinstance [(.var 0), (.typ "tuple")])) (.cmp .Lt (.blt .len [(.var 0)]) (.var 1))) q_wrong_in_0_a [])
def b_wrong_in_1_0_a_0 : Sm := (.ret (.lst false [(.var 4)]))
def q_wrong_in_1_0_a : List Sm := [b_wrong_in_1_0_a_0]
def b_wrong_in_1_0 : Sm := (.ite (.or (.cmp .Eq (.var 4) (.var 2)) (.not (.clv 3 [(.sl (.var 0) .cnon (.var 4)), (.var 5)]))) q_wrong_in_1_0_a [])
def q_wrong_in_1 : List Sm := [b_wrong_in_1_0]
def b_wrong_in_1 : Sm := (.for false [4, 5] .enumerate [(.var 0)] q_wrong_in_1)
def b_wrong_in_2 : Sm := (.ret (.lst false []))
def r_wrong_in : DefR := ⟨[(Str.ofString "value"), (Str.ofString "least"), (Str.ofString "most"), (Str.ofString "is_right"), (Str.ofString "index"), (Str.ofString "each")], [(Str.ofString "value"), (Str.ofString "least"), (Str.ofString "most"), (Str.ofString "is_right")], false, [b_wrong_in_0, b_wrong_in_1, b_wrong_in_2]⟩
def a_wrong_in_all : DefA := ⟨fun K => He.ga K (Str.ofString "wrong_in_all"), (Str.ofString "wrong_in_all"), (Str.ofString "wrong_in_all"), defArgs (top 11), defBody (top 11), defScope (top 11)⟩
def b_wrong_in_all_0 : Sm := (.ret (.ite (.call (Str.ofString "is_tuple_of") [(.var 0), (.var 1)]) (.call (Str.ofString "wrong_in") [(.var 0), (.var 1), (.var 1), (.lam 0 [2])]) (.lst false [.cnon])))
def r_wrong_in_all : DefR := ⟨[(Str.ofString "value"), (Str.ofString "many"), (Str.ofString "is_right")], [(Str.ofString "value"), (Str.ofString "many"), (Str.ofString "is_right")], false, [b_wrong_in_all_0]⟩
def a_are_below : DefA := ⟨fun K => He.ga K (Str.ofString "are_below"), (Str.ofString "are_below"), (Str.ofString "are_below"), defArgs (top 12), defBody (top 12), defScope (top 12)⟩
def b_are_below_0 : Sm := (.ret (.or (.cmp .Eq (.var 0) (.tup [])) (.cmp .Lt (.ix (.var 0) (.neg (.cint 1))) (.var 1))))
def r_are_below : DefR := ⟨[(Str.ofString "ahead"), (Str.ofString "value")], [(Str.ofString "ahead"), (Str.ofString "value")], false, [b_are_below_0]⟩
def a_lowest : DefA := ⟨fun K => He.ga K (Str.ofString "lowest"), (Str.ofString "lowest"), (Str.ofString "lowest"), defArgs (top 16), defBody (top 16), defScope (top 16)⟩
def b_lowest_0 : Sm := (.set (.nam false 2) (.ite (.cmp .Gt (.var 1) (.cint 0)) (.blt .gcd [(.var 0), (.var 1)]) (.neg (.blt .gcd [(.var 0), (.var 1)]))))
def b_lowest_1 : Sm := (.ret (.tup [(.bin .FloorDiv (.var 0) (.var 2)), (.bin .FloorDiv (.var 1) (.var 2))]))
def r_lowest : DefR := ⟨[(Str.ofString "one"), (Str.ofString "two"), (Str.ofString "common")], [(Str.ofString "one"), (Str.ofString "two")], false, [b_lowest_0, b_lowest_1]⟩
def a_is_fraction : DefA := ⟨fun K => He.ga K (Str.ofString "is_fraction"), (Str.ofString "is_fraction"), (Str.ofString "is_fraction"), defArgs (top 17), defBody (top 17), defScope (top 17)⟩
def t_is_fraction_0 : MM.Tm := .lc false [1] .plain [(.var 0)] (.cbl true) (.call (Str.ofString "is_whole") [(.var 1)]) [1]
def b_is_fraction_0_a_0 : Sm := (.ret (.cbl false))
def q_is_fraction_0_a : List Sm := [b_is_fraction_0_a_0]
def b_is_fraction_0 : Sm := (.ite (.or (.not (.call (Str.ofString "is_pair") [(.var 0)])) (.not (.blt .all [t_is_fraction_0]))) q_is_fraction_0_a [])
def b_is_fraction_1 : Sm := (.ret (.and (.cmp .Gt (.ix (.var 0) (.cint 1)) (.cint 0)) (.cmp .Eq (.blt .gcd [(.ix (.var 0) (.cint 0)), (.ix (.var 0) (.cint 1))]) (.cint 1))))
def r_is_fraction : DefR := ⟨[(Str.ofString "value"), (Str.ofString "each")], [(Str.ofString "value")], false, [b_is_fraction_0, b_is_fraction_1]⟩
def a_plus : DefA := ⟨fun K => He.ga K (Str.ofString "plus"), (Str.ofString "plus"), (Str.ofString "plus"), defArgs (top 18), defBody (top 18), defScope (top 18)⟩
def b_plus_0 : Sm := (.ret (.call (Str.ofString "lowest") [(.bin .Add (.bin .Mult (.ix (.var 0) (.cint 0)) (.ix (.var 1) (.cint 1))) (.bin .Mult (.ix (.var 1) (.cint 0)) (.ix (.var 0) (.cint 1)))), (.bin .Mult (.ix (.var 0) (.cint 1)) (.ix (.var 1) (.cint 1)))]))
def r_plus : DefR := ⟨[(Str.ofString "one"), (Str.ofString "two")], [(Str.ofString "one"), (Str.ofString "two")], false, [b_plus_0]⟩
def a_total : DefA := ⟨fun K => He.ga K (Str.ofString "total"), (Str.ofString "total"), (Str.ofString "total"), defArgs (top 19), defBody (top 19), defScope (top 19)⟩
def b_total_0 : Sm := (.set (.nam false 1) (.glb (Str.ofString "NOTHING")))
def b_total_1_0 : Sm := (.set (.nam false 1) (.call (Str.ofString "plus") [(.var 1), (.var 2)]))
def q_total_1 : List Sm := [b_total_1_0]
def b_total_1 : Sm := (.for false [2] .plain [(.var 0)] q_total_1)
def b_total_2 : Sm := (.ret (.var 1))
def r_total : DefR := ⟨[(Str.ofString "some"), (Str.ofString "found"), (Str.ofString "each")], [(Str.ofString "some")], false, [b_total_0, b_total_1, b_total_2]⟩
def a_wrong_in_people : DefA := ⟨fun K => He.ga K (Str.ofString "wrong_in_people"), (Str.ofString "wrong_in_people"), (Str.ofString "wrong_in_people"), defArgs (top 22), defBody (top 22), defScope (top 22)⟩
def b_wrong_in_people_0 : Sm := (.ret (.call (Str.ofString "wrong_in") [(.var 0), (.cint 1), (.glb (Str.ofString "MOST_PEOPLE")), (.lam 1 [])]))
def r_wrong_in_people : DefR := ⟨[(Str.ofString "value")], [(Str.ofString "value")], false, [b_wrong_in_people_0]⟩
def a_is_sum : DefA := ⟨fun K => He.ga K (Str.ofString "is_sum"), (Str.ofString "is_sum"), (Str.ofString "is_sum"), defArgs (top 23), defBody (top 23), defScope (top 23)⟩
def b_is_sum_0 : Sm := (.ret (.and (.call (Str.ofString "is_fraction") [(.var 0)]) (.cmp .GtE (.ix (.var 0) (.cint 0)) (.cint 0))))
def r_is_sum : DefR := ⟨[(Str.ofString "value")], [(Str.ofString "value")], false, [b_is_sum_0]⟩
def a_is_row : DefA := ⟨fun K => He.ga K (Str.ofString "is_row"), (Str.ofString "is_row"), (Str.ofString "is_row"), defArgs (top 24), defBody (top 24), defScope (top 24)⟩
def t_is_row_0 : MM.Tm := .lc false [2] .plain [(.var 1)] (.cbl true) (.call (Str.ofString "is_sum") [(.var 2)]) [2]
def b_is_row_0 : Sm := (.ret (.and (.call (Str.ofString "is_tuple_of") [(.var 1), (.blt .len [(.var 0)])]) (.and (.blt .all [t_is_row_0]) (.cmp .Eq (.call (Str.ofString "total") [(.var 1)]) (.glb (Str.ofString "WHOLE"))))))
def r_is_row : DefR := ⟨[(Str.ofString "people"), (Str.ofString "value"), (Str.ofString "each")], [(Str.ofString "people"), (Str.ofString "value")], false, [b_is_row_0]⟩
def a_wrong_in_trust : DefA := ⟨fun K => He.ga K (Str.ofString "wrong_in_trust"), (Str.ofString "wrong_in_trust"), (Str.ofString "wrong_in_trust"), defArgs (top 25), defBody (top 25), defScope (top 25)⟩
def b_wrong_in_trust_0 : Sm := (.ret (.call (Str.ofString "wrong_in_all") [(.var 1), (.blt .len [(.var 0)]), (.lam 2 [0])]))
def r_wrong_in_trust : DefR := ⟨[(Str.ofString "people"), (Str.ofString "value")], [(Str.ofString "people"), (Str.ofString "value")], false, [b_wrong_in_trust_0]⟩
def a_wrong_in_minds : DefA := ⟨fun K => He.ga K (Str.ofString "wrong_in_minds"), (Str.ofString "wrong_in_minds"), (Str.ofString "wrong_in_minds"), defArgs (top 26), defBody (top 26), defScope (top 26)⟩
def b_wrong_in_minds_0_a_0 : Sm := (.ret (.call (Str.ofString "wrong_in_all") [(.var 0), (.var 1), (.glb (Str.ofString "is_fraction"))]))
def q_wrong_in_minds_0_a : List Sm := [b_wrong_in_minds_0_a_0]
def b_wrong_in_minds_0 : Sm := (.ite (.cmp .IsNot (.var 1) .cnon) q_wrong_in_minds_0_a [])
def b_wrong_in_minds_1_a_0 : Sm := (.ret (.lst false [.cnon]))
def q_wrong_in_minds_1_a : List Sm := [b_wrong_in_minds_1_a_0]
def b_wrong_in_minds_1 : Sm := (.ite (.or (.not (.blt .isinstance [(.var 0), (.typ "tuple")])) (.not (.chn .LtE .LtE (.cint 1) (.blt .len [(.var 0)]) (.glb (Str.ofString "MOST_PEOPLE"))))) q_wrong_in_minds_1_a [])
def b_wrong_in_minds_2 : Sm := (.ret (.call (Str.ofString "wrong_in_all") [(.var 0), (.blt .len [(.var 0)]), (.glb (Str.ofString "is_fraction"))]))
def r_wrong_in_minds : DefR := ⟨[(Str.ofString "value"), (Str.ofString "many")], [(Str.ofString "value"), (Str.ofString "many")], false, [b_wrong_in_minds_0, b_wrong_in_minds_1, b_wrong_in_minds_2]⟩
def a_Circle___init__ : DefA := ⟨fun K => He.ma K (He.ga K (Str.ofString "Circle")) "__init__", (Str.ofString "__init__"), (Str.ofString "Circle.__init__"), defArgs (inClass (top 35) 0), defBody (inClass (top 35) 0), defScope (inClass (top 35) 0)⟩
def b_Circle___init___0_0 : Sm := .rse
def q_Circle___init___0 : List Sm := [b_Circle___init___0_0]
def b_Circle___init___0 : Sm := (.for false [3] .plain [(.call (Str.ofString "wrong_in_people") [(.var 1)])] q_Circle___init___0)
def b_Circle___init___1_0 : Sm := .rse
def q_Circle___init___1 : List Sm := [b_Circle___init___1_0]
def b_Circle___init___1 : Sm := (.for false [3] .plain [(.call (Str.ofString "wrong_in_trust") [(.var 1), (.var 2)])] q_Circle___init___1)
def b_Circle___init___2 : Sm := (.fld (.var 0) (Str.ofString "all_told") (.tup [(.var 1), (.var 2)]))
def r_Circle___init__ : DefR := ⟨[(Str.ofString "self"), (Str.ofString "people"), (Str.ofString "trust"), (Str.ofString "index")], [(Str.ofString "self"), (Str.ofString "people"), (Str.ofString "trust")], false, [b_Circle___init___0, b_Circle___init___1, b_Circle___init___2]⟩
def a_Circle_people : DefA := ⟨fun K => getA K (Str.ofString "Circle") (Str.ofString "people"), (Str.ofString "people"), (Str.ofString "Circle.people"), defArgs (inClass (top 35) 1), defBody (inClass (top 35) 1), defScope (inClass (top 35) 1)⟩
def b_Circle_people_0 : Sm := (.ret (.ix (.fld (.var 0) (Str.ofString "all_told")) (.cint 0)))
def r_Circle_people : DefR := ⟨[(Str.ofString "self")], [(Str.ofString "self")], false, [b_Circle_people_0]⟩
def a_Circle_trust : DefA := ⟨fun K => getA K (Str.ofString "Circle") (Str.ofString "trust"), (Str.ofString "trust"), (Str.ofString "Circle.trust"), defArgs (inClass (top 35) 2), defBody (inClass (top 35) 2), defScope (inClass (top 35) 2)⟩
def b_Circle_trust_0 : Sm := (.ret (.ix (.fld (.var 0) (Str.ofString "all_told")) (.cint 1)))
def r_Circle_trust : DefR := ⟨[(Str.ofString "self")], [(Str.ofString "self")], false, [b_Circle_trust_0]⟩
def a_Circle_parts : DefA := ⟨fun K => getA K (Str.ofString "Circle") (Str.ofString "parts"), (Str.ofString "parts"), (Str.ofString "Circle.parts"), defArgs (inClass (top 35) 3), defBody (inClass (top 35) 3), defScope (inClass (top 35) 3)⟩
def b_Circle_parts_0 : Sm := (.ret (.fld (.var 0) (Str.ofString "all_told")))
def r_Circle_parts : DefR := ⟨[(Str.ofString "self")], [(Str.ofString "self")], false, [b_Circle_parts_0]⟩
def a_Circle___eq__ : DefA := ⟨fun K => He.ma K (He.ga K (Str.ofString "Circle")) (Str.ofString "__eq__"), (Str.ofString "__eq__"), (Str.ofString "Circle.__eq__"), defArgs (inClass (top 35) 4), defBody (inClass (top 35) 4), defScope (inClass (top 35) 4)⟩
def b_Circle___eq___0 : Sm := (.ret (.and (.blt .isinstance [(.var 1), (.glb (Str.ofString "Circle"))]) (.cmp .Eq (.fld (.var 0) (Str.ofString "parts")) (.fld (.var 1) (Str.ofString "parts")))))
def r_Circle___eq__ : DefR := ⟨[(Str.ofString "self"), (Str.ofString "other")], [(Str.ofString "self"), (Str.ofString "other")], false, [b_Circle___eq___0]⟩
def a_check_circle : DefA := ⟨fun K => He.ga K (Str.ofString "check_circle"), (Str.ofString "check_circle"), (Str.ofString "check_circle"), defArgs (top 36), defBody (top 36), defScope (top 36)⟩
def b_check_circle_0_a_0 : Sm := .rse
def q_check_circle_0_a : List Sm := [b_check_circle_0_a_0]
def b_check_circle_0 : Sm := (.ite (.not (.blt .isinstance [(.var 0), (.glb (Str.ofString "Circle"))])) q_check_circle_0_a [])
def r_check_circle : DefR := ⟨[(Str.ofString "circle")], [(Str.ofString "circle")], false, [b_check_circle_0]⟩
def a_check_minds : DefA := ⟨fun K => He.ga K (Str.ofString "check_minds"), (Str.ofString "check_minds"), (Str.ofString "check_minds"), defArgs (top 37), defBody (top 37), defScope (top 37)⟩
def b_check_minds_0 : Sm := (.exp (.call (Str.ofString "check_circle") [(.var 0)]))
def b_check_minds_1_0 : Sm := .rse
def q_check_minds_1 : List Sm := [b_check_minds_1_0]
def b_check_minds_1 : Sm := (.for false [2] .plain [(.call (Str.ofString "wrong_in_minds") [(.var 1), (.blt .len [(.fld (.var 0) (Str.ofString "people"))])])] q_check_minds_1)
def r_check_minds : DefR := ⟨[(Str.ofString "circle"), (Str.ofString "minds"), (Str.ofString "index")], [(Str.ofString "circle"), (Str.ofString "minds")], false, [b_check_minds_0, b_check_minds_1]⟩
def a_is_figures : DefA := ⟨fun K => He.ga K (Str.ofString "is_figures"), (Str.ofString "is_figures"), (Str.ofString "is_figures"), defArgs (top 44), defBody (top 44), defScope (top 44)⟩
def t_is_figures_0 : MM.Tm := .lc false [1] .plain [(.var 0)] (.cbl true) (.cmp .In (.var 1) (.glb (Str.ofString "FIGURES"))) [1]
def b_is_figures_0_a_0 : Sm := (.ret (.cbl false))
def q_is_figures_0_a : List Sm := [b_is_figures_0_a_0]
def b_is_figures_0 : Sm := (.ite (.or (.cmp .Eq (.var 0) (.cstr (Str.ofString ""))) (.or (.cmp .Gt (.blt .len [(.var 0)]) (.glb (Str.ofString "MOST_FIGURES"))) (.not (.blt .all [t_is_figures_0])))) q_is_figures_0_a [])
def b_is_figures_1 : Sm := (.ret (.or (.cmp .Eq (.var 0) (.cstr (Str.ofString "0"))) (.cmp .NotEq (.ix (.var 0) (.cint 0)) (.cstr (Str.ofString "0")))))
def r_is_figures : DefR := ⟨[(Str.ofString "word"), (Str.ofString "sign")], [(Str.ofString "word")], false, [b_is_figures_0, b_is_figures_1]⟩
def a_is_whole_word : DefA := ⟨fun K => He.ga K (Str.ofString "is_whole_word"), (Str.ofString "is_whole_word"), (Str.ofString "is_whole_word"), defArgs (top 45), defBody (top 45), defScope (top 45)⟩
def b_is_whole_word_0 : Sm := (.ret (.or (.call (Str.ofString "is_figures") [(.var 0)]) (.and (.cmp .Eq (.sl (.var 0) .cnon (.cint 1)) (.cstr (Str.ofString "-"))) (.and (.cmp .NotEq (.sl (.var 0) (.cint 1) .cnon) (.cstr (Str.ofString "0"))) (.call (Str.ofString "is_figures") [(.sl (.var 0) (.cint 1) .cnon)])))))
def r_is_whole_word : DefR := ⟨[(Str.ofString "word")], [(Str.ofString "word")], false, [b_is_whole_word_0]⟩
def a_told_row : DefA := ⟨fun K => He.ga K (Str.ofString "told_row"), (Str.ofString "told_row"), (Str.ofString "told_row"), defArgs (top 46), defBody (top 46), defScope (top 46)⟩
def b_told_row_0 : Sm := (.set (.nam false 1) (.ite (.blt .isinstance [(.var 0), (.typ "str")]) (.blt .tuple [(.mth .split (.var 0) [(.cstr (Str.ofString " "))])]) (.tup [(.cstr (Str.ofString ""))])))
def b_told_row_1_a_0 : Sm := (.ret (.tup []))
def q_told_row_1_a : List Sm := [b_told_row_1_a_0]
def b_told_row_1 : Sm := (.ite (.or (.kin true (Str.ofString "MANY") (.ix (.var 1) (.cint 0))) (.cmp .NotEq (.blt .len [(.var 1)]) (.kget (Str.ofString "MANY") (.ix (.var 1) (.cint 0))))) q_told_row_1_a [])
def t_told_row_0 : MM.Tm := .lc false [2] .plain [(.sl (.var 1) (.neg (.cint 2)) .cnon)] (.cbl true) (.call (Str.ofString "is_whole_word") [(.var 2)]) [2]
def t_told_row_1 : MM.Tm := .lc false [2] .plain [(.sl (.var 1) (.cint 1) (.neg (.cint 2)))] (.cbl true) (.call (Str.ofString "is_word") [(.var 2)]) [2]
def b_told_row_2_a_0 : Sm := (.ret (.tup []))
def q_told_row_2_a : List Sm := [b_told_row_2_a_0]
def b_told_row_2 : Sm := (.ite (.or (.not (.blt .all [t_told_row_1])) (.not (.blt .all [t_told_row_0]))) q_told_row_2_a [])
def b_told_row_3 : Sm := (.ret (.var 1))
def r_told_row : DefR := ⟨[(Str.ofString "value"), (Str.ofString "words"), (Str.ofString "word")], [(Str.ofString "value")], false, [b_told_row_0, b_told_row_1, b_told_row_2, b_told_row_3]⟩
def a_does_follow : DefA := ⟨fun K => He.ga K (Str.ofString "does_follow"), (Str.ofString "does_follow"), (Str.ofString "does_follow"), defArgs (top 47), defBody (top 47), defScope (top 47)⟩
def t_does_follow_0 : MM.Tm := .lc false [2] .plain [(.var 0)] (.cbl true) (.cmp .Eq (.ix (.var 2) (.cint 0)) (.glb (Str.ofString "TRUST"))) [2]
def b_does_follow_0_a_0 : Sm := (.ret (.not (.blt .any [t_does_follow_0])))
def q_does_follow_0_a : List Sm := [b_does_follow_0_a_0]
def b_does_follow_0 : Sm := (.ite (.cmp .Eq (.ix (.var 1) (.cint 0)) (.glb (Str.ofString "PERSON"))) q_does_follow_0_a [])
def t_does_follow_1 : MM.Tm := .lc false [2] .plain [(.var 0)] (.cmp .Eq (.ix (.var 2) (.cint 0)) (.glb (Str.ofString "PERSON"))) (.ix (.var 2) (.cint 1)) [2]
def b_does_follow_1 : Sm := (.set (.nam false 3) t_does_follow_1)
def b_does_follow_2_a_0 : Sm := (.ret (.cbl false))
def q_does_follow_2_a : List Sm := [b_does_follow_2_a_0]
def b_does_follow_2 : Sm := (.ite (.or (.cmp .NotIn (.ix (.var 1) (.cint 1)) (.var 3)) (.or (.cmp .NotIn (.ix (.var 1) (.cint 2)) (.var 3)) (.cmp .LtE (.blt .int [(.ix (.var 1) (.cint 3))]) (.cint 0)))) q_does_follow_2_a [])
def b_does_follow_3 : Sm := (.ret (.or (.cmp .Eq (.ix (.ix (.var 0) (.neg (.cint 1))) (.cint 0)) (.glb (Str.ofString "PERSON"))) (.cmp .Lt (.sl (.ix (.var 0) (.neg (.cint 1))) (.cint 1) (.cint 3)) (.sl (.var 1) (.cint 1) (.cint 3)))))
def r_does_follow : DefR := ⟨[(Str.ofString "ahead"), (Str.ofString "words"), (Str.ofString "row"), (Str.ofString "folk")], [(Str.ofString "ahead"), (Str.ofString "words")], false, [b_does_follow_0, b_does_follow_1, b_does_follow_2, b_does_follow_3]⟩
def a_wrong_in_lines : DefA := ⟨fun K => He.ga K (Str.ofString "wrong_in_lines"), (Str.ofString "wrong_in_lines"), (Str.ofString "wrong_in_lines"), defArgs (top 48), defBody (top 48), defScope (top 48)⟩
def b_wrong_in_lines_0_a_0 : Sm := (.ret (.lst false [.cnon]))
def q_wrong_in_lines_0_a : List Sm := [b_wrong_in_lines_0_a_0]
def b_wrong_in_lines_0 : Sm := (.ite (.or (.not (.blt .isinstance [(.var 0), (.typ "tuple")])) (.cmp .Eq (.var 0) (.tup []))) q_wrong_in_lines_0_a [])
def t_wrong_in_lines_0 : MM.Tm := .lc false [2] .plain [(.var 0)] (.cbl true) (.call (Str.ofString "told_row") [(.var 2)]) [2]
def b_wrong_in_lines_1 : Sm := (.set (.nam false 1) t_wrong_in_lines_0)
def b_wrong_in_lines_2_0_a_0 : Sm := (.ret (.lst false [(.var 3)]))
def q_wrong_in_lines_2_0_a : List Sm := [b_wrong_in_lines_2_0_a_0]
def b_wrong_in_lines_2_0 : Sm := (.ite (.or (.cmp .Eq (.var 4) (.tup [])) (.not (.call (Str.ofString "does_follow") [(.sl (.var 1) .cnon (.var 3)), (.var 4)]))) q_wrong_in_lines_2_0_a [])
def q_wrong_in_lines_2 : List Sm := [b_wrong_in_lines_2_0]
def b_wrong_in_lines_2 : Sm := (.for false [3, 4] .enumerate [(.var 1)] q_wrong_in_lines_2)
def b_wrong_in_lines_3 : Sm := (.ret (.lst false []))
def r_wrong_in_lines : DefR := ⟨[(Str.ofString "value"), (Str.ofString "told"), (Str.ofString "row"), (Str.ofString "index"), (Str.ofString "words")], [(Str.ofString "value")], false, [b_wrong_in_lines_0, b_wrong_in_lines_1, b_wrong_in_lines_2, b_wrong_in_lines_3]⟩
def a_fraction_of : DefA := ⟨fun K => He.ga K (Str.ofString "fraction_of"), (Str.ofString "fraction_of"), (Str.ofString "fraction_of"), defArgs (top 49), defBody (top 49), defScope (top 49)⟩
def b_fraction_of_0 : Sm := (.ret (.tup [(.blt .int [(.ix (.var 0) (.neg (.cint 2)))]), (.blt .int [(.ix (.var 0) (.neg (.cint 1)))])]))
def r_fraction_of : DefR := ⟨[(Str.ofString "words")], [(Str.ofString "words")], false, [b_fraction_of_0]⟩
def a_told_by : DefA := ⟨fun K => He.ga K (Str.ofString "told_by"), (Str.ofString "told_by"), (Str.ofString "told_by"), defArgs (top 50), defBody (top 50), defScope (top 50)⟩
def t_told_by_0 : MM.Tm := .lc false [2] .plain [(.var 0)] (.cbl true) (.call (Str.ofString "told_row") [(.var 2)]) [2]
def b_told_by_0 : Sm := (.set (.nam false 1) t_told_by_0)
def t_told_by_1 : MM.Tm := .lc false [4] .plain [(.var 1)] (.cmp .Eq (.ix (.var 4) (.cint 0)) (.glb (Str.ofString "PERSON"))) (.var 4) [4]
def b_told_by_1 : Sm := (.set (.nam false 3) t_told_by_1)
def t_told_by_2 : MM.Tm := .lc false [4] .plain [(.var 3)] (.cbl true) (.ix (.var 4) (.cint 1)) [4]
def b_told_by_2 : Sm := (.set (.nam true 5) (.blt .tuple [t_told_by_2]))
def t_told_by_3 : MM.Tm := .dcp [4] .plain [(.var 1)] (.cmp .Eq (.ix (.var 4) (.cint 0)) (.glb (Str.ofString "TRUST"))) (.var 4) (.cint 1) (.cint 3) (.call (Str.ofString "fraction_of") [(.var 4)]) [4]
def b_told_by_3 : Sm := (.set (.nam true 6) t_told_by_3)
def t_told_by_4 : MM.Tm := .lc false [8] .plain [(.var 5)] (.cbl true) (.mth .get (.var 6) [(.tup [(.var 9), (.var 8)]), (.glb (Str.ofString "NOTHING"))]) [8]
def t_told_by_5 : MM.Tm := .lc false [9] .plain [(.var 5)] (.cbl true) (.blt .tuple [t_told_by_4]) [9]
def b_told_by_4 : Sm := (.set (.nam false 7) (.blt .tuple [t_told_by_5]))
def t_told_by_6 : MM.Tm := .lc false [4] .plain [(.var 3)] (.cbl true) (.call (Str.ofString "fraction_of") [(.var 4)]) [4]
def b_told_by_5 : Sm := (.ret (.tup [(.var 5), (.var 7), (.blt .tuple [t_told_by_6])]))
def r_told_by : DefR := ⟨[(Str.ofString "rows"), (Str.ofString "told"), (Str.ofString "row"), (Str.ofString "folk"), (Str.ofString "words"), (Str.ofString "names"), (Str.ofString "much"), (Str.ofString "trust"), (Str.ofString "other"), (Str.ofString "one")], [(Str.ofString "rows")], false, [b_told_by_0, b_told_by_1, b_told_by_2, b_told_by_3, b_told_by_4, b_told_by_5]⟩
def a_rows_by : DefA := ⟨fun K => He.ga K (Str.ofString "rows_by"), (Str.ofString "rows_by"), (Str.ofString "rows_by"), defArgs (top 51), defBody (top 51), defScope (top 51)⟩
def t_rows_by_0 : MM.Tm := .lc true [3, 4] .zip [(.fld (.var 0) (Str.ofString "people")), (.var 1)] (.cbl true) (.fst [(.glb (Str.ofString "PERSON")), (.cstr (Str.ofString " ")), (.var 3), (.cstr (Str.ofString " ")), (.ix (.var 4) (.cint 0)), (.cstr (Str.ofString " ")), (.ix (.var 4) (.cint 1))]) [3, 4]
def b_rows_by_0 : Sm := (.set (.nam false 2) t_rows_by_0)
def t_rows_by_1 : MM.Tm := .lc false [7, 8] .zip [(.fld (.var 0) (Str.ofString "people")), (.var 6)] (.cmp .NotEq (.var 8) (.glb (Str.ofString "NOTHING"))) (.fst [(.glb (Str.ofString "TRUST")), (.cstr (Str.ofString " ")), (.var 5), (.cstr (Str.ofString " ")), (.var 7), (.cstr (Str.ofString " ")), (.ix (.var 8) (.cint 0)), (.cstr (Str.ofString " ")), (.ix (.var 8) (.cint 1))]) [7, 8]
def b_rows_by_1_0 : Sm := (.exp (.mth .extend (.var 2) [t_rows_by_1]))
def q_rows_by_1 : List Sm := [b_rows_by_1_0]
def b_rows_by_1 : Sm := (.for true [5, 6] .zip [(.fld (.var 0) (Str.ofString "people")), (.fld (.var 0) (Str.ofString "trust"))] q_rows_by_1)
def b_rows_by_2 : Sm := (.ret (.blt .tuple [(.var 2)]))
def r_rows_by : DefR := ⟨[(Str.ofString "circle"), (Str.ofString "minds"), (Str.ofString "rows"), (Str.ofString "name"), (Str.ofString "mind"), (Str.ofString "one"), (Str.ofString "row"), (Str.ofString "other"), (Str.ofString "much")], [(Str.ofString "circle"), (Str.ofString "minds")], false, [b_rows_by_0, b_rows_by_1, b_rows_by_2]⟩
def a_circle_rows : DefA := ⟨fun K => He.ga K (Str.ofString "circle_rows"), (Str.ofString "circle_rows"), (Str.ofString "circle_rows"), defArgs (top 53), defBody (top 53), defScope (top 53)⟩
def b_circle_rows_0 : Sm := (.exp (.call (Str.ofString "check_minds") [(.var 0), (.var 1)]))
def b_circle_rows_1 : Sm := (.ret (.call (Str.ofString "rows_by") [(.var 0), (.var 1)]))
def r_circle_rows : DefR := ⟨[(Str.ofString "circle"), (Str.ofString "minds")], [(Str.ofString "circle"), (Str.ofString "minds")], false, [b_circle_rows_0, b_circle_rows_1]⟩
def a_read_circle : DefA := ⟨fun K => He.ga K (Str.ofString "read_circle"), (Str.ofString "read_circle"), (Str.ofString "read_circle"), defArgs (top 54), defBody (top 54), defScope (top 54)⟩
def b_read_circle_0_0 : Sm := .rse
def q_read_circle_0 : List Sm := [b_read_circle_0_0]
def b_read_circle_0 : Sm := (.for false [1] .plain [(.call (Str.ofString "wrong_in_lines") [(.var 0)])] q_read_circle_0)
def b_read_circle_1 : Sm := (.unp [(.nam false 2), (.nam false 3), (.nam false 4)] (.call (Str.ofString "told_by") [(.var 0)]))
def b_read_circle_2 : Sm := (.set (.nam false 5) (.call (Str.ofString "Circle") [(.var 2), (.var 3)]))
def b_read_circle_3 : Sm := (.exp (.call (Str.ofString "check_minds") [(.var 5), (.var 4)]))
def b_read_circle_4 : Sm := (.ret (.tup [(.var 5), (.var 4)]))
def r_read_circle : DefR := ⟨[(Str.ofString "rows"), (Str.ofString "index"), (Str.ofString "names"), (Str.ofString "trust"), (Str.ofString "minds"), (Str.ofString "circle")], [(Str.ofString "rows")], false, [b_read_circle_0, b_read_circle_1, b_read_circle_2, b_read_circle_3, b_read_circle_4]⟩
def a__law_lamp : DefA := ⟨fun K => He.ga K (Str.ofString "_law_lamp"), (Str.ofString "_law_lamp"), (Str.ofString "_law_lamp"), defArgs (top 56), defBody (top 56), defScope (top 56)⟩
def b__law_lamp_0 : Sm := (.set (.nam false 2) (.ite (.cmp .Lt (.var 1) (.blt .len [(.var 0)])) (.blt .int [(.ix (.var 0) (.var 1))]) (.cint 0)))
def b__law_lamp_1 : Sm := (.set (.nam false 3) (.bin .Add (.cint 5647) (.bin .Mult (.cint 617) (.var 1))))
def b__law_lamp_2_0 : Sm := (.set (.nam false 3) (.bin .Mod (.blt .int [(.bin .Add (.bin .Add (.bin .Mult (.var 3) (.cint 21589)) (.bin .Mod (.blt .int [(.var 4)]) (.cint 2147482181))) (.cint 163))]) (.cint 2147482801)))
def q__law_lamp_2 : List Sm := [b__law_lamp_2_0]
def b__law_lamp_2 : Sm := (.for false [4] .plain [(.bin .Add (.sl (.var 0) .cnon (.cint 9)) (.lst false [(.var 2)]))] q__law_lamp_2)
def b__law_lamp_3 : Sm := (.ret (.lst true [(.ite (.or (.cmp .Lt (.var 2) (.cint 0)) (.cmp .GtE (.var 2) (.bin .Pow (.cint 10) (.cint 16)))) (.bin .Mod (.blt .abs [(.var 2)]) (.bin .Pow (.cint 10) (.cint 60))) (.cint 0)), (.var 3), (.cint 0)]))
def r__law_lamp : DefR := ⟨[(Str.ofString "script"), (Str.ofString "lap"), (Str.ofString "own"), (Str.ofString "stir"), (Str.ofString "cell")], [(Str.ofString "script"), (Str.ofString "lap")], true, [b__law_lamp_0, b__law_lamp_1, b__law_lamp_2, b__law_lamp_3]⟩
def a__law_wick : DefA := ⟨fun K => He.ga K (Str.ofString "_law_wick"), (Str.ofString "_law_wick"), (Str.ofString "_law_wick"), defArgs (top 57), defBody (top 57), defScope (top 57)⟩
def b__law_wick_0_a_0 : Sm := (.unp [(.sub (.var 0) (.cint 0)), (.nam false 2)] (.blt .divmod [(.ix (.var 0) (.cint 0)), (.var 1)]))
def b__law_wick_0_a_1 : Sm := (.ret (.var 2))
def q__law_wick_0_a : List Sm := [b__law_wick_0_a_0, b__law_wick_0_a_1]
def b__law_wick_0 : Sm := (.ite (.cmp .Gt (.ix (.var 0) (.cint 0)) (.cint 0)) q__law_wick_0_a [])
def b__law_wick_1 : Sm := (.set (.sub (.var 0) (.cint 2)) (.bin .Add (.ix (.var 0) (.cint 2)) (.cint 1)))
def b__law_wick_2 : Sm := (.set (.sub (.var 0) (.cint 1)) (.bin .Mod (.blt .int [(.bin .Add (.bin .Add (.bin .Mult (.ix (.var 0) (.cint 1)) (.bin .Add (.bin .Mod (.blt .int [(.ix (.var 0) (.cint 1))]) (.cint 9829)) (.cint 43003))) (.bin .Mult (.cint 10177) (.ix (.var 0) (.cint 2)))) (.cint 181))]) (.cint 2147482801)))
def b__law_wick_3 : Sm := (.ret (.bin .Mod (.blt .int [(.bin .FloorDiv (.ix (.var 0) (.cint 1)) (.cint 499))]) (.var 1)))
def r__law_wick : DefR := ⟨[(Str.ofString "lamp"), (Str.ofString "many"), (Str.ofString "figure")], [(Str.ofString "lamp"), (Str.ofString "many")], false, [b__law_wick_0, b__law_wick_1, b__law_wick_2, b__law_wick_3]⟩
def a__law_of : DefA := ⟨fun K => He.ga K (Str.ofString "_law_of"), (Str.ofString "_law_of"), (Str.ofString "_law_of"), defArgs (top 58), defBody (top 58), defScope (top 58)⟩
def b__law_of_0 : Sm := (.ret (.ix (.var 1) (.call (Str.ofString "_law_wick") [(.var 0), (.blt .len [(.var 1)])])))
def r__law_of : DefR := ⟨[(Str.ofString "lamp"), (Str.ofString "some")], [(Str.ofString "lamp"), (Str.ofString "some")], false, [b__law_of_0]⟩
def a__law_same : DefA := ⟨fun K => He.ga K (Str.ofString "_law_same"), (Str.ofString "_law_same"), (Str.ofString "_law_same"), defArgs (top 59), defBody (top 59), defScope (top 59)⟩
def b__law_same_0_a_0_a_0 : Sm := (.ret (.cbl false))
def q__law_same_0_a_0_a : List Sm := [b__law_same_0_a_0_a_0]
def b__law_same_0_a_0 : Sm := (.ite (.or (.cmp .NotEq (.blt .isinstance [(.var 0), (.typ "tuple")]) (.blt .isinstance [(.var 1), (.typ "tuple")])) (.cmp .NotEq (.blt .isinstance [(.var 0), (.typ "list")]) (.blt .isinstance [(.var 1), (.typ "list")]))) q__law_same_0_a_0_a [])
def t__law_same_0 : MM.Tm := .lc false [2, 3] .zip [(.var 0), (.var 1)] (.cbl true) (.call (Str.ofString "_law_same") [(.var 2), (.var 3)]) [2, 3]
def b__law_same_0_a_1 : Sm := (.ret (.and (.cmp .Eq (.blt .len [(.var 0)]) (.blt .len [(.var 1)])) (.blt .all [t__law_same_0])))
def q__law_same_0_a : List Sm := [b__law_same_0_a_0, b__law_same_0_a_1]
def b__law_same_0 : Sm := (.ite (.or (.blt .isinstance [(.var 1), (.typ "tuple")]) (.blt .isinstance [(.var 1), (.typ "list")])) q__law_same_0_a [])
def b__law_same_1_a_0 : Sm := (.ret (.cmp .Is (.var 0) .cnon))
def q__law_same_1_a : List Sm := [b__law_same_1_a_0]
def b__law_same_1 : Sm := (.ite (.cmp .Is (.var 1) .cnon) q__law_same_1_a [])
def b__law_same_2_a_0 : Sm := (.ret (.and (.blt .isinstance [(.var 0), (.typ "int")]) (.and (.cmp .Eq (.blt .isinstance [(.var 0), (.typ "bool")]) (.blt .isinstance [(.var 1), (.typ "bool")])) (.cmp .Eq (.var 0) (.var 1)))))
def q__law_same_2_a : List Sm := [b__law_same_2_a_0]
def b__law_same_2 : Sm := (.ite (.blt .isinstance [(.var 1), (.typ "int")]) q__law_same_2_a [])
def b__law_same_3 : Sm := (.ret (.and (.blt .isinstance [(.var 1), (.typ "str")]) (.and (.blt .isinstance [(.var 0), (.typ "str")]) (.cmp .Eq (.var 0) (.var 1)))))
def r__law_same : DefR := ⟨[(Str.ofString "told"), (Str.ofString "due"), (Str.ofString "one"), (Str.ofString "two")], [(Str.ofString "told"), (Str.ofString "due")], false, [b__law_same_0, b__law_same_1, b__law_same_2, b__law_same_3]⟩
def a__law_low : DefA := ⟨fun K => He.ga K (Str.ofString "_law_low"), (Str.ofString "_law_low"), (Str.ofString "_law_low"), defArgs (top 60), defBody (top 60), defScope (top 60)⟩
def b__law_low_0 : Sm := (.par 2 3 [(.blt .abs [(.var 0)]), (.blt .abs [(.var 1)])])
def b__law_low_1_0 : Sm := (.par 2 3 [(.var 3), (.bin .Mod (.blt .int [(.var 2)]) (.var 3))])
def q__law_low_1 : List Sm := [b__law_low_1_0]
def b__law_low_1 : Sm := (.whl (.cmp .Gt (.var 3) (.cint 0)) q__law_low_1)
def b__law_low_2 : Sm := (.set (.nam false 2) (.ite (.cmp .Gt (.var 1) (.cint 0)) (.var 2) (.bin .Sub (.cint 0) (.var 2))))
def b__law_low_3 : Sm := (.ret (.tup [(.bin .FloorDiv (.var 0) (.var 2)), (.bin .FloorDiv (.var 1) (.var 2))]))
def r__law_low : DefR := ⟨[(Str.ofString "top"), (Str.ofString "under"), (Str.ofString "one"), (Str.ofString "two")], [(Str.ofString "top"), (Str.ofString "under")], false, [b__law_low_0, b__law_low_1, b__law_low_2, b__law_low_3]⟩
def a__law_own : DefA := ⟨fun K => He.ga K (Str.ofString "_law_own"), (Str.ofString "_law_own"), (Str.ofString "_law_own"), defArgs (top 61), defBody (top 61), defScope (top 61)⟩
def b__law_own_0 : Sm := (.ret (.mth .split (.cstr (Str.ofString "person trust")) [(.cstr (Str.ofString " "))]))
def r__law_own : DefR := ⟨[], [], false, [b__law_own_0]⟩
def a__law_names : DefA := ⟨fun K => He.ga K (Str.ofString "_law_names"), (Str.ofString "_law_names"), (Str.ofString "_law_names"), defArgs (top 62), defBody (top 62), defScope (top 62)⟩
def b__law_names_0 : Sm := (.set (.nam false 2) (.mth .split (.cstr (Str.ofString "agree all back beat book case circle end firm group hear in last mean meet middle mind near none of out people")) [(.cstr (Str.ofString " "))]))
def b__law_names_1 : Sm := (.unp [(.nam true 3), (.nam true 4)] (.tup [(.bin .Add (.var 2) (.mth .split (.cstr (Str.ofString "quit rest rhythm row say spread swing take trust undo web weight yes zzzzzzzz zzzzzzzy")) [(.cstr (Str.ofString " "))])), (.lst true [])]))
def b__law_names_2_0 : Sm := (.set (.nam true 6) (.cstr (Str.ofString "")))
def b__law_names_2_1_0 : Sm := (.set (.nam true 6) (.bin .Add (.var 6) (.call (Str.ofString "_law_of") [(.var 0), (.cstr (Str.ofString "abcdefghijklmnopqrstuvwxyz"))])))
def q__law_names_2_1 : List Sm := [b__law_names_2_1_0]
def b__law_names_2_1 : Sm := (.for false [7] .range [(.bin .Add (.cint 1) (.call (Str.ofString "_law_of") [(.var 0), (.lst false [(.cint 0), (.cint 0), (.cint 1), (.cint 2), (.cint 7)])]))] q__law_names_2_1)
def b__law_names_2_2 : Sm := (.set (.nam true 6) (.call (Str.ofString "_law_of") [(.var 0), (.lst false [(.cstr (Str.ofString "a")), (.cstr (Str.ofString "b")), (.cstr (Str.ofString "minds")), (.var 6), (.var 6), (.var 6), (.var 6)])]))
def t__law_names_0 : MM.Tm := .lc false [9] .plain [(.cstr (Str.ofString "abcdefghijklmnopqrstuvwxyz"))] (.cbl true) (.bin .Add (.sl (.var 6) .cnon (.cint 7)) (.var 9)) [9]
def t__law_names_1 : MM.Tm := .lc false [8] .plain [(.bin .Add (.lst false [(.var 6)]) t__law_names_0)] (.cmp .NotIn (.var 8) (.bin .Add (.bin .Add (.var 3) (.var 4)) (.call (Str.ofString "_law_own") []))) (.var 8) [8]
def b__law_names_2_3 : Sm := (.exp (.mth .append (.var 4) [(.ix t__law_names_1 (.cint 0))]))
def q__law_names_2 : List Sm := [b__law_names_2_0, b__law_names_2_1, b__law_names_2_2, b__law_names_2_3]
def b__law_names_2 : Sm := (.for false [5] .range [(.var 1)] q__law_names_2)
def b__law_names_3 : Sm := (.ret (.blt .tuple [(.blt .sorted [(.var 4)])]))
def r__law_names : DefR := ⟨[(Str.ofString "lamp"), (Str.ofString "many"), (Str.ofString "words"), (Str.ofString "bad"), (Str.ofString "found"), (Str.ofString "lap"), (Str.ofString "word"), (Str.ofString "spot"), (Str.ofString "each"), (Str.ofString "sign")], [(Str.ofString "lamp"), (Str.ofString "many")], false, [b__law_names_0, b__law_names_1, b__law_names_2, b__law_names_3]⟩
def a__law_trust : DefA := ⟨fun K => He.ga K (Str.ofString "_law_trust"), (Str.ofString "_law_trust"), (Str.ofString "_law_trust"), defArgs (top 63), defBody (top 63), defScope (top 63)⟩
def b__law_trust_0 : Sm := (.set (.nam true 2) (.call (Str.ofString "_law_of") [(.var 0), (.lst false [(.lst false [(.cint 0), (.cint 0), (.cint 1)]), (.lst false [(.cint 0), (.cint 1), (.cint 1), (.cint 2)]), (.lst false [(.cint 0), (.cint 0), (.cint 0), (.cint 1), (.cint 3)]), (.lst false [(.cint 1), (.cint 2), (.cint 5)])])]))
def t__law_trust_0 : MM.Tm := .lc true [4] .range [(.var 1)] (.cbl true) (.call (Str.ofString "_law_of") [(.var 0), (.var 2)]) [4]
def b__law_trust_1 : Sm := (.set (.nam true 3) t__law_trust_0)
def b__law_trust_2_a_0 : Sm := (.set (.sub (.var 3) (.call (Str.ofString "_law_wick") [(.var 0), (.var 1)])) (.cint 1))
def q__law_trust_2_a : List Sm := [b__law_trust_2_a_0]
def b__law_trust_2 : Sm := (.ite (.cmp .Eq (.blt .sum [(.var 3)]) (.cint 0)) q__law_trust_2_a [])
def t__law_trust_1 : MM.Tm := .lc false [5] .plain [(.var 3)] (.cbl true) (.call (Str.ofString "_law_low") [(.var 5), (.blt .sum [(.var 3)])]) [5]
def b__law_trust_3 : Sm := (.ret (.blt .tuple [t__law_trust_1]))
def r__law_trust : DefR := ⟨[(Str.ofString "lamp"), (Str.ofString "many"), (Str.ofString "some"), (Str.ofString "row"), (Str.ofString "person"), (Str.ofString "part")], [(Str.ofString "lamp"), (Str.ofString "many")], false, [b__law_trust_0, b__law_trust_1, b__law_trust_2, b__law_trust_3]⟩
def a__law_circle : DefA := ⟨fun K => He.ga K (Str.ofString "_law_circle"), (Str.ofString "_law_circle"), (Str.ofString "_law_circle"), defArgs (top 64), defBody (top 64), defScope (top 64)⟩
def b__law_circle_0 : Sm := (.set (.nam true 3) (.call (Str.ofString "_law_names") [(.var 0), (.bin .Add (.var 1) (.call (Str.ofString "_law_wick") [(.var 0), (.bin .Add (.bin .Sub (.var 2) (.var 1)) (.cint 1))]))]))
def t__law_circle_0 : MM.Tm := .lc false [4] .plain [(.var 3)] (.cbl true) (.call (Str.ofString "_law_trust") [(.var 0), (.blt .len [(.var 3)])]) [4]
def b__law_circle_1 : Sm := (.ret (.tup [(.var 3), (.blt .tuple [t__law_circle_0])]))
def r__law_circle : DefR := ⟨[(Str.ofString "lamp"), (Str.ofString "least"), (Str.ofString "most"), (Str.ofString "people"), (Str.ofString "person")], [(Str.ofString "lamp"), (Str.ofString "least"), (Str.ofString "most")], false, [b__law_circle_0, b__law_circle_1]⟩
def a__law_minds : DefA := ⟨fun K => He.ga K (Str.ofString "_law_minds"), (Str.ofString "_law_minds"), (Str.ofString "_law_minds"), defArgs (top 65), defBody (top 65), defScope (top 65)⟩
def t__law_minds_0 : MM.Tm := .lc false [2] .range [(.var 1)] (.cbl true) (.call (Str.ofString "_law_of") [(.var 0), (.lst false [(.call (Str.ofString "_law_low") [(.bin .Sub (.call (Str.ofString "_law_wick") [(.var 0), (.cint 20)]) (.cint 9)), (.bin .Add (.cint 1) (.call (Str.ofString "_law_wick") [(.var 0), (.cint 6)]))]), (.tup [(.call (Str.ofString "_law_wick") [(.var 0), (.cint 3)]), (.cint 1)])])]) [2]
def b__law_minds_0 : Sm := (.ret (.blt .tuple [t__law_minds_0]))
def r__law_minds : DefR := ⟨[(Str.ofString "lamp"), (Str.ofString "many"), (Str.ofString "person")], [(Str.ofString "lamp"), (Str.ofString "many")], false, [b__law_minds_0]⟩
def a__law_made : DefA := ⟨fun K => He.ga K (Str.ofString "_law_made"), (Str.ofString "_law_made"), (Str.ofString "_law_made"), defArgs (top 66), defBody (top 66), defScope (top 66)⟩
def b__law_made_0 : Sm := (.ret (.call (Str.ofString "Circle") [(.ix (.var 0) (.cint 0)), (.ix (.var 0) (.cint 1))]))
def r__law_made : DefR := ⟨[(Str.ofString "circle")], [(Str.ofString "circle")], false, [b__law_made_0]⟩
def a__law_text : DefA := ⟨fun K => He.ga K (Str.ofString "_law_text"), (Str.ofString "_law_text"), (Str.ofString "_law_text"), defArgs (top 67), defBody (top 67), defScope (top 67)⟩
def b__law_text_0 : Sm := (.unp [(.nam false 2), (.nam false 3)] (.var 0))
def t__law_text_0 : MM.Tm := .lc false [5, 6] .zip [(.var 2), (.var 1)] (.cbl true) (.mth .join (.cstr (Str.ofString " ")) [(.lst false [(.cstr (Str.ofString "person")), (.var 5), (.blt .str [(.ix (.var 6) (.cint 0))]), (.blt .str [(.ix (.var 6) (.cint 1))])])]) [5, 6]
def b__law_text_1 : Sm := (.set (.nam false 4) t__law_text_0)
def t__law_text_1 : MM.Tm := .lc false [9, 10] .zip [(.var 2), (.var 8)] (.cmp .NotEq (.var 10) (.tup [(.cint 0), (.cint 1)])) (.mth .join (.cstr (Str.ofString " ")) [(.lst false [(.cstr (Str.ofString "trust")), (.var 7), (.var 9), (.blt .str [(.ix (.var 10) (.cint 0))]), (.blt .str [(.ix (.var 10) (.cint 1))])])]) [9, 10]
def b__law_text_2_0 : Sm := (.set (.nam false 4) (.bin .Add (.var 4) t__law_text_1))
def q__law_text_2 : List Sm := [b__law_text_2_0]
def b__law_text_2 : Sm := (.for true [7, 8] .zip [(.var 2), (.var 3)] q__law_text_2)
def b__law_text_3 : Sm := (.ret (.blt .tuple [(.var 4)]))
def r__law_text : DefR := ⟨[(Str.ofString "circle"), (Str.ofString "minds"), (Str.ofString "people"), (Str.ofString "trust"), (Str.ofString "rows"), (Str.ofString "person"), (Str.ofString "mind"), (Str.ofString "one"), (Str.ofString "row"), (Str.ofString "other"), (Str.ofString "part")], [(Str.ofString "circle"), (Str.ofString "minds")], false, [b__law_text_0, b__law_text_1, b__law_text_2, b__law_text_3]⟩
def a__law_right : DefA := ⟨fun K => He.ga K (Str.ofString "_law_right"), (Str.ofString "_law_right"), (Str.ofString "_law_right"), defArgs (top 68), defBody (top 68), defScope (top 68)⟩
def b__law_right_0_0 : Sm := (.set (.nam false 2) (.call (Str.ofString "_law_circle") [(.var 0), (.cint 1), (.cint 5)]))
def b__law_right_0_1 : Sm := (.par 3 4 [(.call (Str.ofString "_law_made") [(.var 2)]), (.call (Str.ofString "_law_minds") [(.var 0), (.blt .len [(.ix (.var 2) (.cint 0))])])])
def b__law_right_0_2 : Sm := (.set (.nam false 5) (.call (Str.ofString "_law_wick") [(.var 0), (.blt .len [(.var 4)])]))
def b__law_right_0_3 : Sm := (.set (.nam false 4) (.bin .Add (.bin .Add (.sl (.var 4) .cnon (.var 5)) (.tup [(.call (Str.ofString "_law_of") [(.var 0), (.lst false [(.ix (.var 4) (.var 5)), (.tup [(.neg (.cint 999998)), (.cint 7)]), (.tup [(.bin .Pow (.cint 10) (.cint 20)), (.cint 3)])])])])) (.sl (.var 4) (.bin .Add (.var 5) (.cint 1)) .cnon)))
def b__law_right_0_4 : Sm := (.set (.nam false 6) (.call (Str.ofString "_law_text") [(.var 2), (.var 4)]))
def b__law_right_0_5_a_0 : Sm := (.ret (.cbl false))
def q__law_right_0_5_a : List Sm := [b__law_right_0_5_a_0]
def b__law_right_0_5 : Sm := (.ite (.not (.call (Str.ofString "_law_same") [(.lst false [(.call (Str.ofString "circle_rows") [(.var 3), (.var 4)]), (.kcl (Str.ofString "circle_rows") [(Str.ofString "circle"), (Str.ofString "minds")] [(Str.ofString "minds"), (Str.ofString "circle")] [(.var 4), (.var 3)])]), (.lst false [(.var 6), (.var 6)])])) q__law_right_0_5_a [])
def b__law_right_0_6_0_a_0 : Sm := (.ret (.cbl false))
def q__law_right_0_6_0_a : List Sm := [b__law_right_0_6_0_a_0]
def b__law_right_0_6_0 : Sm := (.ite (.or (.not (.blt .isinstance [(.var 7), (.typ "tuple")])) (.or (.cmp .NotEq (.blt .len [(.var 7)]) (.cint 2)) (.or (.not (.call (Str.ofString "_law_same") [(.lst false [(.fld (.ix (.var 7) (.cint 0)) (Str.ofString "parts")), (.ix (.var 7) (.cint 1))]), (.lst false [(.var 2), (.var 4)])])) (.oeq true (.ix (.var 7) (.cint 0)) (.var 3))))) q__law_right_0_6_0_a [])
def q__law_right_0_6 : List Sm := [b__law_right_0_6_0]
def b__law_right_0_6 : Sm := (.for false [7] .plain [(.lst false [(.call (Str.ofString "read_circle") [(.var 6)]), (.kcl (Str.ofString "read_circle") [(Str.ofString "rows")] [(Str.ofString "rows")] [(.var 6)]), (.call (Str.ofString "read_circle") [(.call (Str.ofString "circle_rows") [(.var 3), (.var 4)])])])] q__law_right_0_6)
def b__law_right_0_7 : Sm := (.set (.nam false 8) (.call (Str.ofString "_law_circle") [(.var 0), (.cint 1), (.cint 5)]))
def b__law_right_0_8 : Sm := (.set (.nam false 9) (.call (Str.ofString "_law_minds") [(.var 0), (.blt .len [(.ix (.var 8) (.cint 0))])]))
def b__law_right_0_9_a_0 : Sm := (.ret (.cbl false))
def q__law_right_0_9_a : List Sm := [b__law_right_0_9_a_0]
def b__law_right_0_9 : Sm := (.ite (.cmp .NotEq (.cmp .Eq (.call (Str.ofString "circle_rows") [(.call (Str.ofString "_law_made") [(.var 8)]), (.var 9)]) (.var 6)) (.cmp .Eq (.tup [(.var 8), (.var 9)]) (.tup [(.var 2), (.var 4)]))) q__law_right_0_9_a [])
def q__law_right_0 : List Sm := [b__law_right_0_0, b__law_right_0_1, b__law_right_0_2, b__law_right_0_3, b__law_right_0_4, b__law_right_0_5, b__law_right_0_6, b__law_right_0_7, b__law_right_0_8, b__law_right_0_9]
def b__law_right_0 : Sm := (.for false [1] .range [(.cint 4)] q__law_right_0)
def b__law_right_1 : Sm := (.ret (.cbl true))
def r__law_right : DefR := ⟨[(Str.ofString "lamp"), (Str.ofString "lap"), (Str.ofString "circle"), (Str.ofString "made"), (Str.ofString "minds"), (Str.ofString "k"), (Str.ofString "rows"), (Str.ofString "told"), (Str.ofString "other"), (Str.ofString "far")], [(Str.ofString "lamp")], false, [b__law_right_0, b__law_right_1]⟩
def a_law : DefA := ⟨fun K => He.ga K (Str.ofString "law"), (Str.ofString "law"), (Str.ofString "law"), defArgs (top 69), defBody (top 69), defScope (top 69)⟩
def t_law_0 : MM.Tm := .lc false [1] .range [(.blt .max [(.cint 1), (.blt .min [(.blt .len [(.var 0)]), (.cint 3)])])] (.cbl true) (.call (Str.ofString "_law_right") [(.call (Str.ofString "_law_lamp") [(.var 0), (.var 1)])]) [1]
def b_law_0 : Sm := (.ret (.blt .all [t_law_0]))
def r_law : DefR := ⟨[(Str.ofString "script"), (Str.ofString "lap")], [(Str.ofString "script")], false, [b_law_0]⟩
def tx : Txt where
  con := [((Str.ofString "Circle"), .glo (Str.ofString "Circle")), ((Str.ofString "FIGURES"), .str (Str.ofString "0123456789")), ((Str.ofString "LETTERS"), .str (Str.ofString "abcdefghijklmnopqrstuvwxyz")), ((Str.ofString "MOST_FIGURES"), .int (400)), ((Str.ofString "MOST_LETTERS"), .int (8)), ((Str.ofString "MOST_PEOPLE"), .int (5)), ((Str.ofString "NOTHING"), .tup [.int (0), .int (1)]), ((Str.ofString "PERSON"), .str (Str.ofString "person")), ((Str.ofString "TRUST"), .str (Str.ofString "trust")), ((Str.ofString "WHOLE"), .tup [.int (1), .int (1)]), ((Str.ofString "WORDS"), .tup [.str (Str.ofString "agree"), .str (Str.ofString "all"), .str (Str.ofString "back"), .str (Str.ofString "beat"), .str (Str.ofString "book"), .str (Str.ofString "case"), .str (Str.ofString "circle"), .str (Str.ofString "end"), .str (Str.ofString "firm"), .str (Str.ofString "group"), .str (Str.ofString "hear"), .str (Str.ofString "in"), .str (Str.ofString "last"), .str (Str.ofString "mean"), .str (Str.ofString "meet"), .str (Str.ofString "middle"), .str (Str.ofString "mind"), .str (Str.ofString "near"), .str (Str.ofString "none"), .str (Str.ofString "of"), .str (Str.ofString "out"), .str (Str.ofString "people"), .str (Str.ofString "quit"), .str (Str.ofString "rest"), .str (Str.ofString "rhythm"), .str (Str.ofString "row"), .str (Str.ofString "say"), .str (Str.ofString "spread"), .str (Str.ofString "swing"), .str (Str.ofString "take"), .str (Str.ofString "trust"), .str (Str.ofString "undo"), .str (Str.ofString "web"), .str (Str.ofString "weight"), .str (Str.ofString "yes")]), ((Str.ofString "is_fraction"), .glo (Str.ofString "is_fraction"))]
  kd := [((Str.ofString "MANY"), [((Str.ofString "person"), .int (4)), ((Str.ofString "trust"), .int (5))])]
  fns := [((Str.ofString "is_whole"), r_is_whole), ((Str.ofString "is_word"), r_is_word), ((Str.ofString "is_name"), r_is_name), ((Str.ofString "is_tuple_of"), r_is_tuple_of), ((Str.ofString "is_pair"), r_is_pair), ((Str.ofString "wrong_in"), r_wrong_in), ((Str.ofString "wrong_in_all"), r_wrong_in_all), ((Str.ofString "are_below"), r_are_below), ((Str.ofString "lowest"), r_lowest), ((Str.ofString "is_fraction"), r_is_fraction), ((Str.ofString "plus"), r_plus), ((Str.ofString "total"), r_total), ((Str.ofString "wrong_in_people"), r_wrong_in_people), ((Str.ofString "is_sum"), r_is_sum), ((Str.ofString "is_row"), r_is_row), ((Str.ofString "wrong_in_trust"), r_wrong_in_trust), ((Str.ofString "wrong_in_minds"), r_wrong_in_minds), ((Str.ofString "check_circle"), r_check_circle), ((Str.ofString "check_minds"), r_check_minds), ((Str.ofString "is_figures"), r_is_figures), ((Str.ofString "is_whole_word"), r_is_whole_word), ((Str.ofString "told_row"), r_told_row), ((Str.ofString "does_follow"), r_does_follow), ((Str.ofString "wrong_in_lines"), r_wrong_in_lines), ((Str.ofString "fraction_of"), r_fraction_of), ((Str.ofString "told_by"), r_told_by), ((Str.ofString "rows_by"), r_rows_by), ((Str.ofString "circle_rows"), r_circle_rows), ((Str.ofString "read_circle"), r_read_circle), ((Str.ofString "_law_lamp"), r__law_lamp), ((Str.ofString "_law_wick"), r__law_wick), ((Str.ofString "_law_of"), r__law_of), ((Str.ofString "_law_same"), r__law_same), ((Str.ofString "_law_low"), r__law_low), ((Str.ofString "_law_own"), r__law_own), ((Str.ofString "_law_names"), r__law_names), ((Str.ofString "_law_trust"), r__law_trust), ((Str.ofString "_law_circle"), r__law_circle), ((Str.ofString "_law_minds"), r__law_minds), ((Str.ofString "_law_made"), r__law_made), ((Str.ofString "_law_text"), r__law_text), ((Str.ofString "_law_right"), r__law_right), ((Str.ofString "law"), r_law)]
  ini := [((Str.ofString "Circle"), false, r_Circle___init__)]
  mes := [(((Str.ofString "Circle"), (Str.ofString "people")), r_Circle_people), (((Str.ofString "Circle"), (Str.ofString "trust")), r_Circle_trust), (((Str.ofString "Circle"), (Str.ofString "parts")), r_Circle_parts)]
  met := [(((Str.ofString "Circle"), (Str.ofString "__eq__")), r_Circle___eq__)]
  cls := [(Str.ofString "Circle")]
  sub := [((Str.ofString "Circle"), (Str.ofString "Circle"))]
  fs := [((Str.ofString "Circle"), (Str.ofString "all_told"))]
  blt := [(Str.ofString "abs"), (Str.ofString "all"), (Str.ofString "any"), (Str.ofString "bool"), (Str.ofString "divmod"), (Str.ofString "enumerate"), (Str.ofString "int"), (Str.ofString "isinstance"), (Str.ofString "len"), (Str.ofString "list"), (Str.ofString "max"), (Str.ofString "min"), (Str.ofString "range"), (Str.ofString "sorted"), (Str.ofString "str"), (Str.ofString "sum"), (Str.ofString "tuple"), (Str.ofString "zip"), (Str.ofString "@gcd")]
  kws := [((Str.ofString "circle_rows"), [(Str.ofString "circle"), (Str.ofString "minds")], [(Str.ofString "minds"), (Str.ofString "circle")]), ((Str.ofString "read_circle"), [(Str.ofString "rows")], [(Str.ofString "rows")])]
def ds : List DefA := [a_is_whole, a_is_word, a_is_name, a_is_tuple_of, a_is_pair, a_wrong_in, a_wrong_in_all, a_are_below, a_lowest, a_is_fraction, a_plus, a_total, a_wrong_in_people, a_is_sum, a_is_row, a_wrong_in_trust, a_wrong_in_minds, a_Circle___init__, a_Circle_people, a_Circle_trust, a_Circle_parts, a_Circle___eq__, a_check_circle, a_check_minds, a_is_figures, a_is_whole_word, a_told_row, a_does_follow, a_wrong_in_lines, a_fraction_of, a_told_by, a_rows_by, a_circle_rows, a_read_circle, a__law_lamp, a__law_wick, a__law_of, a__law_same, a__law_low, a__law_own, a__law_names, a__law_trust, a__law_circle, a__law_minds, a__law_made, a__law_text, a__law_right, a_law]
def tf : List DefA := [a_wrong_in_all, a_wrong_in_people, a_wrong_in_trust]
def ts : List He.Tab := [(fun K => He.ga K (Str.ofString "MANY"), [(Str.ofString "person"), (Str.ofString "trust")])]
def o_wrong_in_all : List Ob := (chkSs (tx.cc r_wrong_in_all.N a_wrong_in_all.scope) r_wrong_in_all.body a_wrong_in_all.body).getD []
def o_wrong_in_people : List Ob := (chkSs (tx.cc r_wrong_in_people.N a_wrong_in_people.scope) r_wrong_in_people.body a_wrong_in_people.body).getD []
def o_wrong_in_trust : List Ob := (chkSs (tx.cc r_wrong_in_trust.N a_wrong_in_trust.scope) r_wrong_in_trust.body a_wrong_in_trust.body).getD []
def nob : Ob := ⟨0, ⟨[], [], none, [], [], none, []⟩, .Constant .none 0 ⟨0, 0, 0, 0⟩, ⟨.function, [], false, false, []⟩, []⟩
def l_wrong_in_all_0 : LamRec := ⟨(o_wrong_in_all.getD 0 nob).args, (o_wrong_in_all.getD 0 nob).body, (o_wrong_in_all.getD 0 nob).sc, (Str.ofString "wrong_in_all.<locals>.<lambda>"), [(Str.ofString "ahead"), (Str.ofString "each")], [(Str.ofString "is_right")], (.clv 2 [(.var 1)])⟩
abbrev i_wrong_in_all_0 : Nat := 0
def l_wrong_in_people_0 : LamRec := ⟨(o_wrong_in_people.getD 0 nob).args, (o_wrong_in_people.getD 0 nob).body, (o_wrong_in_people.getD 0 nob).sc, (Str.ofString "wrong_in_people.<locals>.<lambda>"), [(Str.ofString "ahead"), (Str.ofString "each")], [], (.and (.call (Str.ofString "is_name") [(.var 1)]) (.call (Str.ofString "are_below") [(.var 0), (.var 1)]))⟩
abbrev i_wrong_in_people_0 : Nat := 1
def l_wrong_in_trust_0 : LamRec := ⟨(o_wrong_in_trust.getD 0 nob).args, (o_wrong_in_trust.getD 0 nob).body, (o_wrong_in_trust.getD 0 nob).sc, (Str.ofString "wrong_in_trust.<locals>.<lambda>"), [(Str.ofString "each")], [(Str.ofString "people")], (.call (Str.ofString "is_row") [(.var 1), (.var 0)])⟩
abbrev i_wrong_in_trust_0 : Nat := 2
def lamL : List LamRec := [l_wrong_in_all_0, l_wrong_in_people_0, l_wrong_in_trust_0]
instance : Lams := ⟨fun i => lamL[i]?⟩
end LW
end
section
set_option Elab.async false
set_option linter.all false
set_option maxRecDepth 100000
set_option maxHeartbeats 0
/-! The data is the text's (printed by wip/gen.py). -/
namespace LW
open PySem PySem.Spec PyProof.Rows L2 MM
theorem s_is_whole : SrcOk tx tf a_is_whole r_is_whole := ⟨⟨by kernel_rfl, by kernel_rfl, by kernel_rfl, by decide +kernel, by kernel_rfl, by decide +kernel, by decide +kernel⟩, fun _ _ _ _ _ _ us hl => match us, hl with | [_], _ => (by kernel_rfl), src_none (by decide +kernel)⟩
theorem s_is_word : SrcOk tx tf a_is_word r_is_word := ⟨⟨by kernel_rfl, by kernel_rfl, by kernel_rfl, by decide +kernel, by kernel_rfl, by decide +kernel, by decide +kernel⟩, fun _ _ _ _ _ _ us hl => match us, hl with | [_], _ => (by kernel_rfl), src_none (by decide +kernel)⟩
theorem s_is_name : SrcOk tx tf a_is_name r_is_name := ⟨⟨by kernel_rfl, by kernel_rfl, by kernel_rfl, by decide +kernel, by kernel_rfl, by decide +kernel, by decide +kernel⟩, fun _ _ _ _ _ _ us hl => match us, hl with | [_], _ => (by kernel_rfl), src_none (by decide +kernel)⟩
theorem s_is_tuple_of : SrcOk tx tf a_is_tuple_of r_is_tuple_of := ⟨⟨by kernel_rfl, by kernel_rfl, by kernel_rfl, by decide +kernel, by kernel_rfl, by decide +kernel, by decide +kernel⟩, fun _ _ _ _ _ _ us hl => match us, hl with | [_, _], _ => (by kernel_rfl), src_none (by decide +kernel)⟩
theorem s_is_pair : SrcOk tx tf a_is_pair r_is_pair := ⟨⟨by kernel_rfl, by kernel_rfl, by kernel_rfl, by decide +kernel, by kernel_rfl, by decide +kernel, by decide +kernel⟩, fun _ _ _ _ _ _ us hl => match us, hl with | [_], _ => (by kernel_rfl), src_none (by decide +kernel)⟩
theorem s_wrong_in : SrcOk tx tf a_wrong_in r_wrong_in := ⟨⟨by kernel_rfl, by kernel_rfl, by kernel_rfl, by decide +kernel, by kernel_rfl, by decide +kernel, by decide +kernel⟩, fun _ _ _ _ _ _ us hl => match us, hl with | [_, _, _, _], _ => (by kernel_rfl), src_none (by decide +kernel)⟩
theorem s_wrong_in_all : SrcOk tx tf a_wrong_in_all r_wrong_in_all := ⟨⟨by kernel_rfl, by kernel_rfl, by kernel_rfl, by decide +kernel, by kernel_rfl, by decide +kernel, by decide +kernel⟩, fun _ _ _ _ _ _ us hl => match us, hl with | [_, _, _], _ => (by kernel_rfl), src_some (nb := nob) (by decide +kernel) 1 (by decide +kernel) (by repeat (first | exact List.mem_cons_self | apply List.mem_cons_of_mem)) (AllL.at (l := [o_wrong_in_all.getD 0 nob]) ⟨⟨l_wrong_in_all_0, rfl, rfl, rfl, by kernel_rfl, by decide +kernel, fun _ => by kernel_rfl, by decide +kernel, by decide +kernel, by decide +kernel⟩, trivial⟩)⟩
theorem s_are_below : SrcOk tx tf a_are_below r_are_below := ⟨⟨by kernel_rfl, by kernel_rfl, by kernel_rfl, by decide +kernel, by kernel_rfl, by decide +kernel, by decide +kernel⟩, fun _ _ _ _ _ _ us hl => match us, hl with | [_, _], _ => (by kernel_rfl), src_none (by decide +kernel)⟩
theorem s_lowest : SrcOk tx tf a_lowest r_lowest := ⟨⟨by kernel_rfl, by kernel_rfl, by kernel_rfl, by decide +kernel, by kernel_rfl, by decide +kernel, by decide +kernel⟩, fun _ _ _ _ _ _ us hl => match us, hl with | [_, _], _ => (by kernel_rfl), src_none (by decide +kernel)⟩
theorem s_is_fraction : SrcOk tx tf a_is_fraction r_is_fraction := ⟨⟨by kernel_rfl, by kernel_rfl, by kernel_rfl, by decide +kernel, by kernel_rfl, by decide +kernel, by decide +kernel⟩, fun _ _ _ _ _ _ us hl => match us, hl with | [_], _ => (by kernel_rfl), src_none (by decide +kernel)⟩
theorem s_plus : SrcOk tx tf a_plus r_plus := ⟨⟨by kernel_rfl, by kernel_rfl, by kernel_rfl, by decide +kernel, by kernel_rfl, by decide +kernel, by decide +kernel⟩, fun _ _ _ _ _ _ us hl => match us, hl with | [_, _], _ => (by kernel_rfl), src_none (by decide +kernel)⟩
theorem s_total : SrcOk tx tf a_total r_total := ⟨⟨by kernel_rfl, by kernel_rfl, by kernel_rfl, by decide +kernel, by kernel_rfl, by decide +kernel, by decide +kernel⟩, fun _ _ _ _ _ _ us hl => match us, hl with | [_], _ => (by kernel_rfl), src_none (by decide +kernel)⟩
theorem s_wrong_in_people : SrcOk tx tf a_wrong_in_people r_wrong_in_people := ⟨⟨by kernel_rfl, by kernel_rfl, by kernel_rfl, by decide +kernel, by kernel_rfl, by decide +kernel, by decide +kernel⟩, fun _ _ _ _ _ _ us hl => match us, hl with | [_], _ => (by kernel_rfl), src_some (nb := nob) (by decide +kernel) 1 (by decide +kernel) (by repeat (first | exact List.mem_cons_self | apply List.mem_cons_of_mem)) (AllL.at (l := [o_wrong_in_people.getD 0 nob]) ⟨⟨l_wrong_in_people_0, rfl, rfl, rfl, by kernel_rfl, by decide +kernel, fun _ => by kernel_rfl, by decide +kernel, by decide +kernel, by decide +kernel⟩, trivial⟩)⟩
theorem s_is_sum : SrcOk tx tf a_is_sum r_is_sum := ⟨⟨by kernel_rfl, by kernel_rfl, by kernel_rfl, by decide +kernel, by kernel_rfl, by decide +kernel, by decide +kernel⟩, fun _ _ _ _ _ _ us hl => match us, hl with | [_], _ => (by kernel_rfl), src_none (by decide +kernel)⟩
theorem s_is_row : SrcOk tx tf a_is_row r_is_row := ⟨⟨by kernel_rfl, by kernel_rfl, by kernel_rfl, by decide +kernel, by kernel_rfl, by decide +kernel, by decide +kernel⟩, fun _ _ _ _ _ _ us hl => match us, hl with | [_, _], _ => (by kernel_rfl), src_none (by decide +kernel)⟩
theorem s_wrong_in_trust : SrcOk tx tf a_wrong_in_trust r_wrong_in_trust := ⟨⟨by kernel_rfl, by kernel_rfl, by kernel_rfl, by decide +kernel, by kernel_rfl, by decide +kernel, by decide +kernel⟩, fun _ _ _ _ _ _ us hl => match us, hl with | [_, _], _ => (by kernel_rfl), src_some (nb := nob) (by decide +kernel) 1 (by decide +kernel) (by repeat (first | exact List.mem_cons_self | apply List.mem_cons_of_mem)) (AllL.at (l := [o_wrong_in_trust.getD 0 nob]) ⟨⟨l_wrong_in_trust_0, rfl, rfl, rfl, by kernel_rfl, by decide +kernel, fun _ => by kernel_rfl, by decide +kernel, by decide +kernel, by decide +kernel⟩, trivial⟩)⟩
theorem s_wrong_in_minds : SrcOk tx tf a_wrong_in_minds r_wrong_in_minds := ⟨⟨by kernel_rfl, by kernel_rfl, by kernel_rfl, by decide +kernel, by kernel_rfl, by decide +kernel, by decide +kernel⟩, fun _ _ _ _ _ _ us hl => match us, hl with | [_, _], _ => (by kernel_rfl), src_none (by decide +kernel)⟩
theorem s_Circle___init__ : SrcOk tx tf a_Circle___init__ r_Circle___init__ := ⟨⟨by kernel_rfl, by kernel_rfl, by kernel_rfl, by decide +kernel, by kernel_rfl, by decide +kernel, by decide +kernel⟩, fun _ _ _ _ _ _ us hl => match us, hl with | [_, _, _], _ => (by kernel_rfl), src_none (by decide +kernel)⟩
theorem s_Circle_people : SrcOk tx tf a_Circle_people r_Circle_people := ⟨⟨by kernel_rfl, by kernel_rfl, by kernel_rfl, by decide +kernel, by kernel_rfl, by decide +kernel, by decide +kernel⟩, fun _ _ _ _ _ _ us hl => match us, hl with | [_], _ => (by kernel_rfl), src_none (by decide +kernel)⟩
theorem s_Circle_trust : SrcOk tx tf a_Circle_trust r_Circle_trust := ⟨⟨by kernel_rfl, by kernel_rfl, by kernel_rfl, by decide +kernel, by kernel_rfl, by decide +kernel, by decide +kernel⟩, fun _ _ _ _ _ _ us hl => match us, hl with | [_], _ => (by kernel_rfl), src_none (by decide +kernel)⟩
theorem s_Circle_parts : SrcOk tx tf a_Circle_parts r_Circle_parts := ⟨⟨by kernel_rfl, by kernel_rfl, by kernel_rfl, by decide +kernel, by kernel_rfl, by decide +kernel, by decide +kernel⟩, fun _ _ _ _ _ _ us hl => match us, hl with | [_], _ => (by kernel_rfl), src_none (by decide +kernel)⟩
theorem s_Circle___eq__ : SrcOk tx tf a_Circle___eq__ r_Circle___eq__ := ⟨⟨by kernel_rfl, by kernel_rfl, by kernel_rfl, by decide +kernel, by kernel_rfl, by decide +kernel, by decide +kernel⟩, fun _ _ _ _ _ _ us hl => match us, hl with | [_, _], _ => (by kernel_rfl), src_none (by decide +kernel)⟩
theorem s_check_circle : SrcOk tx tf a_check_circle r_check_circle := ⟨⟨by kernel_rfl, by kernel_rfl, by kernel_rfl, by decide +kernel, by kernel_rfl, by decide +kernel, by decide +kernel⟩, fun _ _ _ _ _ _ us hl => match us, hl with | [_], _ => (by kernel_rfl), src_none (by decide +kernel)⟩
theorem s_check_minds : SrcOk tx tf a_check_minds r_check_minds := ⟨⟨by kernel_rfl, by kernel_rfl, by kernel_rfl, by decide +kernel, by kernel_rfl, by decide +kernel, by decide +kernel⟩, fun _ _ _ _ _ _ us hl => match us, hl with | [_, _], _ => (by kernel_rfl), src_none (by decide +kernel)⟩
theorem s_is_figures : SrcOk tx tf a_is_figures r_is_figures := ⟨⟨by kernel_rfl, by kernel_rfl, by kernel_rfl, by decide +kernel, by kernel_rfl, by decide +kernel, by decide +kernel⟩, fun _ _ _ _ _ _ us hl => match us, hl with | [_], _ => (by kernel_rfl), src_none (by decide +kernel)⟩
theorem s_is_whole_word : SrcOk tx tf a_is_whole_word r_is_whole_word := ⟨⟨by kernel_rfl, by kernel_rfl, by kernel_rfl, by decide +kernel, by kernel_rfl, by decide +kernel, by decide +kernel⟩, fun _ _ _ _ _ _ us hl => match us, hl with | [_], _ => (by kernel_rfl), src_none (by decide +kernel)⟩
theorem s_told_row : SrcOk tx tf a_told_row r_told_row := ⟨⟨by kernel_rfl, by kernel_rfl, by kernel_rfl, by decide +kernel, by kernel_rfl, by decide +kernel, by decide +kernel⟩, fun _ _ _ _ _ _ us hl => match us, hl with | [_], _ => (by kernel_rfl), src_none (by decide +kernel)⟩
theorem s_does_follow : SrcOk tx tf a_does_follow r_does_follow := ⟨⟨by kernel_rfl, by kernel_rfl, by kernel_rfl, by decide +kernel, by kernel_rfl, by decide +kernel, by decide +kernel⟩, fun _ _ _ _ _ _ us hl => match us, hl with | [_, _], _ => (by kernel_rfl), src_none (by decide +kernel)⟩
theorem s_wrong_in_lines : SrcOk tx tf a_wrong_in_lines r_wrong_in_lines := ⟨⟨by kernel_rfl, by kernel_rfl, by kernel_rfl, by decide +kernel, by kernel_rfl, by decide +kernel, by decide +kernel⟩, fun _ _ _ _ _ _ us hl => match us, hl with | [_], _ => (by kernel_rfl), src_none (by decide +kernel)⟩
theorem s_fraction_of : SrcOk tx tf a_fraction_of r_fraction_of := ⟨⟨by kernel_rfl, by kernel_rfl, by kernel_rfl, by decide +kernel, by kernel_rfl, by decide +kernel, by decide +kernel⟩, fun _ _ _ _ _ _ us hl => match us, hl with | [_], _ => (by kernel_rfl), src_none (by decide +kernel)⟩
theorem s_told_by : SrcOk tx tf a_told_by r_told_by := ⟨⟨by kernel_rfl, by kernel_rfl, by kernel_rfl, by decide +kernel, by kernel_rfl, by decide +kernel, by decide +kernel⟩, fun _ _ _ _ _ _ us hl => match us, hl with | [_], _ => (by kernel_rfl), src_none (by decide +kernel)⟩
theorem s_rows_by : SrcOk tx tf a_rows_by r_rows_by := ⟨⟨by kernel_rfl, by kernel_rfl, by kernel_rfl, by decide +kernel, by kernel_rfl, by decide +kernel, by decide +kernel⟩, fun _ _ _ _ _ _ us hl => match us, hl with | [_, _], _ => (by kernel_rfl), src_none (by decide +kernel)⟩
theorem s_circle_rows : SrcOk tx tf a_circle_rows r_circle_rows := ⟨⟨by kernel_rfl, by kernel_rfl, by kernel_rfl, by decide +kernel, by kernel_rfl, by decide +kernel, by decide +kernel⟩, fun _ _ _ _ _ _ us hl => match us, hl with | [_, _], _ => (by kernel_rfl), src_none (by decide +kernel)⟩
theorem s_read_circle : SrcOk tx tf a_read_circle r_read_circle := ⟨⟨by kernel_rfl, by kernel_rfl, by kernel_rfl, by decide +kernel, by kernel_rfl, by decide +kernel, by decide +kernel⟩, fun _ _ _ _ _ _ us hl => match us, hl with | [_], _ => (by kernel_rfl), src_none (by decide +kernel)⟩
theorem s__law_lamp : SrcOk tx tf a__law_lamp r__law_lamp := ⟨⟨by kernel_rfl, by kernel_rfl, by kernel_rfl, by decide +kernel, by kernel_rfl, by decide +kernel, by decide +kernel⟩, fun _ _ _ _ _ _ us hl => match us, hl with | [_, _], _ => (by kernel_rfl), src_none (by decide +kernel)⟩
theorem s__law_wick : SrcOk tx tf a__law_wick r__law_wick := ⟨⟨by kernel_rfl, by kernel_rfl, by kernel_rfl, by decide +kernel, by kernel_rfl, by decide +kernel, by decide +kernel⟩, fun _ _ _ _ _ _ us hl => match us, hl with | [_, _], _ => (by kernel_rfl), src_none (by decide +kernel)⟩
theorem s__law_of : SrcOk tx tf a__law_of r__law_of := ⟨⟨by kernel_rfl, by kernel_rfl, by kernel_rfl, by decide +kernel, by kernel_rfl, by decide +kernel, by decide +kernel⟩, fun _ _ _ _ _ _ us hl => match us, hl with | [_, _], _ => (by kernel_rfl), src_none (by decide +kernel)⟩
theorem s__law_same : SrcOk tx tf a__law_same r__law_same := ⟨⟨by kernel_rfl, by kernel_rfl, by kernel_rfl, by decide +kernel, by kernel_rfl, by decide +kernel, by decide +kernel⟩, fun _ _ _ _ _ _ us hl => match us, hl with | [_, _], _ => (by kernel_rfl), src_none (by decide +kernel)⟩
theorem s__law_low : SrcOk tx tf a__law_low r__law_low := ⟨⟨by kernel_rfl, by kernel_rfl, by kernel_rfl, by decide +kernel, by kernel_rfl, by decide +kernel, by decide +kernel⟩, fun _ _ _ _ _ _ us hl => match us, hl with | [_, _], _ => (by kernel_rfl), src_none (by decide +kernel)⟩
theorem s__law_own : SrcOk tx tf a__law_own r__law_own := ⟨⟨by kernel_rfl, by kernel_rfl, by kernel_rfl, by decide +kernel, by kernel_rfl, by decide +kernel, by decide +kernel⟩, fun _ _ _ _ _ _ us hl => match us, hl with | [], _ => (by kernel_rfl), src_none (by decide +kernel)⟩
theorem s__law_names : SrcOk tx tf a__law_names r__law_names := ⟨⟨by kernel_rfl, by kernel_rfl, by kernel_rfl, by decide +kernel, by kernel_rfl, by decide +kernel, by decide +kernel⟩, fun _ _ _ _ _ _ us hl => match us, hl with | [_, _], _ => (by kernel_rfl), src_none (by decide +kernel)⟩
theorem s__law_trust : SrcOk tx tf a__law_trust r__law_trust := ⟨⟨by kernel_rfl, by kernel_rfl, by kernel_rfl, by decide +kernel, by kernel_rfl, by decide +kernel, by decide +kernel⟩, fun _ _ _ _ _ _ us hl => match us, hl with | [_, _], _ => (by kernel_rfl), src_none (by decide +kernel)⟩
theorem s__law_circle : SrcOk tx tf a__law_circle r__law_circle := ⟨⟨by kernel_rfl, by kernel_rfl, by kernel_rfl, by decide +kernel, by kernel_rfl, by decide +kernel, by decide +kernel⟩, fun _ _ _ _ _ _ us hl => match us, hl with | [_, _, _], _ => (by kernel_rfl), src_none (by decide +kernel)⟩
theorem s__law_minds : SrcOk tx tf a__law_minds r__law_minds := ⟨⟨by kernel_rfl, by kernel_rfl, by kernel_rfl, by decide +kernel, by kernel_rfl, by decide +kernel, by decide +kernel⟩, fun _ _ _ _ _ _ us hl => match us, hl with | [_, _], _ => (by kernel_rfl), src_none (by decide +kernel)⟩
theorem s__law_made : SrcOk tx tf a__law_made r__law_made := ⟨⟨by kernel_rfl, by kernel_rfl, by kernel_rfl, by decide +kernel, by kernel_rfl, by decide +kernel, by decide +kernel⟩, fun _ _ _ _ _ _ us hl => match us, hl with | [_], _ => (by kernel_rfl), src_none (by decide +kernel)⟩
theorem s__law_text : SrcOk tx tf a__law_text r__law_text := ⟨⟨by kernel_rfl, by kernel_rfl, by kernel_rfl, by decide +kernel, by kernel_rfl, by decide +kernel, by decide +kernel⟩, fun _ _ _ _ _ _ us hl => match us, hl with | [_, _], _ => (by kernel_rfl), src_none (by decide +kernel)⟩
theorem s__law_right : SrcOk tx tf a__law_right r__law_right := ⟨⟨by kernel_rfl, by kernel_rfl, by kernel_rfl, by decide +kernel, by kernel_rfl, by decide +kernel, by decide +kernel⟩, fun _ _ _ _ _ _ us hl => match us, hl with | [_], _ => (by kernel_rfl), src_none (by decide +kernel)⟩
theorem s_law : SrcOk tx tf a_law r_law := ⟨⟨by kernel_rfl, by kernel_rfl, by kernel_rfl, by decide +kernel, by kernel_rfl, by decide +kernel, by decide +kernel⟩, fun _ _ _ _ _ _ us hl => match us, hl with | [_], _ => (by kernel_rfl), src_none (by decide +kernel)⟩
theorem d_wrong_in_all_0 : LamD tx l_wrong_in_all_0 := ⟨NdefX.nscope_by (by decide +kernel), fun _ _ _ _ us hl => match us, hl with | [_, _], _ => (by kernel_rfl), lam_none (by decide +kernel)⟩
theorem d_wrong_in_people_0 : LamD tx l_wrong_in_people_0 := ⟨NdefX.nscope_by (by decide +kernel), fun _ _ _ _ us hl => match us, hl with | [_, _], _ => (by kernel_rfl), lam_none (by decide +kernel)⟩
theorem d_wrong_in_trust_0 : LamD tx l_wrong_in_trust_0 := ⟨NdefX.nscope_by (by decide +kernel), fun _ _ _ _ us hl => match us, hl with | [_], _ => (by kernel_rfl), lam_none (by decide +kernel)⟩
theorem src : Src tx ds tf ts where
  fn := ⟨⟨a_is_whole, by repeat (first | exact List.mem_cons_self | apply List.mem_cons_of_mem), fun _ => rfl, s_is_whole⟩, ⟨a_is_word, by repeat (first | exact List.mem_cons_self | apply List.mem_cons_of_mem), fun _ => rfl, s_is_word⟩, ⟨a_is_name, by repeat (first | exact List.mem_cons_self | apply List.mem_cons_of_mem), fun _ => rfl, s_is_name⟩, ⟨a_is_tuple_of, by repeat (first | exact List.mem_cons_self | apply List.mem_cons_of_mem), fun _ => rfl, s_is_tuple_of⟩, ⟨a_is_pair, by repeat (first | exact List.mem_cons_self | apply List.mem_cons_of_mem), fun _ => rfl, s_is_pair⟩, ⟨a_wrong_in, by repeat (first | exact List.mem_cons_self | apply List.mem_cons_of_mem), fun _ => rfl, s_wrong_in⟩, ⟨a_wrong_in_all, by repeat (first | exact List.mem_cons_self | apply List.mem_cons_of_mem), fun _ => rfl, s_wrong_in_all⟩, ⟨a_are_below, by repeat (first | exact List.mem_cons_self | apply List.mem_cons_of_mem), fun _ => rfl, s_are_below⟩, ⟨a_lowest, by repeat (first | exact List.mem_cons_self | apply List.mem_cons_of_mem), fun _ => rfl, s_lowest⟩, ⟨a_is_fraction, by repeat (first | exact List.mem_cons_self | apply List.mem_cons_of_mem), fun _ => rfl, s_is_fraction⟩, ⟨a_plus, by repeat (first | exact List.mem_cons_self | apply List.mem_cons_of_mem), fun _ => rfl, s_plus⟩, ⟨a_total, by repeat (first | exact List.mem_cons_self | apply List.mem_cons_of_mem), fun _ => rfl, s_total⟩, ⟨a_wrong_in_people, by repeat (first | exact List.mem_cons_self | apply List.mem_cons_of_mem), fun _ => rfl, s_wrong_in_people⟩, ⟨a_is_sum, by repeat (first | exact List.mem_cons_self | apply List.mem_cons_of_mem), fun _ => rfl, s_is_sum⟩, ⟨a_is_row, by repeat (first | exact List.mem_cons_self | apply List.mem_cons_of_mem), fun _ => rfl, s_is_row⟩, ⟨a_wrong_in_trust, by repeat (first | exact List.mem_cons_self | apply List.mem_cons_of_mem), fun _ => rfl, s_wrong_in_trust⟩, ⟨a_wrong_in_minds, by repeat (first | exact List.mem_cons_self | apply List.mem_cons_of_mem), fun _ => rfl, s_wrong_in_minds⟩, ⟨a_check_circle, by repeat (first | exact List.mem_cons_self | apply List.mem_cons_of_mem), fun _ => rfl, s_check_circle⟩, ⟨a_check_minds, by repeat (first | exact List.mem_cons_self | apply List.mem_cons_of_mem), fun _ => rfl, s_check_minds⟩, ⟨a_is_figures, by repeat (first | exact List.mem_cons_self | apply List.mem_cons_of_mem), fun _ => rfl, s_is_figures⟩, ⟨a_is_whole_word, by repeat (first | exact List.mem_cons_self | apply List.mem_cons_of_mem), fun _ => rfl, s_is_whole_word⟩, ⟨a_told_row, by repeat (first | exact List.mem_cons_self | apply List.mem_cons_of_mem), fun _ => rfl, s_told_row⟩, ⟨a_does_follow, by repeat (first | exact List.mem_cons_self | apply List.mem_cons_of_mem), fun _ => rfl, s_does_follow⟩, ⟨a_wrong_in_lines, by repeat (first | exact List.mem_cons_self | apply List.mem_cons_of_mem), fun _ => rfl, s_wrong_in_lines⟩, ⟨a_fraction_of, by repeat (first | exact List.mem_cons_self | apply List.mem_cons_of_mem), fun _ => rfl, s_fraction_of⟩, ⟨a_told_by, by repeat (first | exact List.mem_cons_self | apply List.mem_cons_of_mem), fun _ => rfl, s_told_by⟩, ⟨a_rows_by, by repeat (first | exact List.mem_cons_self | apply List.mem_cons_of_mem), fun _ => rfl, s_rows_by⟩, ⟨a_circle_rows, by repeat (first | exact List.mem_cons_self | apply List.mem_cons_of_mem), fun _ => rfl, s_circle_rows⟩, ⟨a_read_circle, by repeat (first | exact List.mem_cons_self | apply List.mem_cons_of_mem), fun _ => rfl, s_read_circle⟩, ⟨a__law_lamp, by repeat (first | exact List.mem_cons_self | apply List.mem_cons_of_mem), fun _ => rfl, s__law_lamp⟩, ⟨a__law_wick, by repeat (first | exact List.mem_cons_self | apply List.mem_cons_of_mem), fun _ => rfl, s__law_wick⟩, ⟨a__law_of, by repeat (first | exact List.mem_cons_self | apply List.mem_cons_of_mem), fun _ => rfl, s__law_of⟩, ⟨a__law_same, by repeat (first | exact List.mem_cons_self | apply List.mem_cons_of_mem), fun _ => rfl, s__law_same⟩, ⟨a__law_low, by repeat (first | exact List.mem_cons_self | apply List.mem_cons_of_mem), fun _ => rfl, s__law_low⟩, ⟨a__law_own, by repeat (first | exact List.mem_cons_self | apply List.mem_cons_of_mem), fun _ => rfl, s__law_own⟩, ⟨a__law_names, by repeat (first | exact List.mem_cons_self | apply List.mem_cons_of_mem), fun _ => rfl, s__law_names⟩, ⟨a__law_trust, by repeat (first | exact List.mem_cons_self | apply List.mem_cons_of_mem), fun _ => rfl, s__law_trust⟩, ⟨a__law_circle, by repeat (first | exact List.mem_cons_self | apply List.mem_cons_of_mem), fun _ => rfl, s__law_circle⟩, ⟨a__law_minds, by repeat (first | exact List.mem_cons_self | apply List.mem_cons_of_mem), fun _ => rfl, s__law_minds⟩, ⟨a__law_made, by repeat (first | exact List.mem_cons_self | apply List.mem_cons_of_mem), fun _ => rfl, s__law_made⟩, ⟨a__law_text, by repeat (first | exact List.mem_cons_self | apply List.mem_cons_of_mem), fun _ => rfl, s__law_text⟩, ⟨a__law_right, by repeat (first | exact List.mem_cons_self | apply List.mem_cons_of_mem), fun _ => rfl, s__law_right⟩, ⟨a_law, by repeat (first | exact List.mem_cons_self | apply List.mem_cons_of_mem), fun _ => rfl, s_law⟩, trivial⟩
  ini := ⟨⟨by decide +kernel, _, rfl, a_Circle___init__, by repeat (first | exact List.mem_cons_self | apply List.mem_cons_of_mem), fun _ => rfl, s_Circle___init__⟩, trivial⟩
  me := ⟨⟨rfl, a_Circle_people, by repeat (first | exact List.mem_cons_self | apply List.mem_cons_of_mem), fun _ => rfl, s_Circle_people⟩, ⟨rfl, a_Circle_trust, by repeat (first | exact List.mem_cons_self | apply List.mem_cons_of_mem), fun _ => rfl, s_Circle_trust⟩, ⟨rfl, a_Circle_parts, by repeat (first | exact List.mem_cons_self | apply List.mem_cons_of_mem), fun _ => rfl, s_Circle_parts⟩, trivial⟩
  met := ⟨⟨by decide +kernel, fun _ => by first | rfl | contradiction, a_Circle___eq__, by repeat (first | exact List.mem_cons_self | apply List.mem_cons_of_mem), fun _ => rfl, s_Circle___eq__⟩, trivial⟩
  lam := lam_all ⟨d_wrong_in_all_0, d_wrong_in_people_0, d_wrong_in_trust_0, trivial⟩
  kd := ⟨⟨_, by repeat (first | exact List.mem_cons_self | apply List.mem_cons_of_mem), fun _ => rfl⟩, trivial⟩
  kws := ⟨⟨r_circle_rows, by kernel_rfl, rfl, a_circle_rows, by repeat (first | exact List.mem_cons_self | apply List.mem_cons_of_mem), fun _ => rfl, fun _ _ _ _ _ _ us hl => match us, hl with | [_, _], _ => (by kernel_rfl)⟩, ⟨r_read_circle, by kernel_rfl, rfl, a_read_circle, by repeat (first | exact List.mem_cons_self | apply List.mem_cons_of_mem), fun _ => rfl, fun _ _ _ _ _ _ us hl => match us, hl with | [_], _ => (by kernel_rfl)⟩, trivial⟩
end LW
end
section
set_option Elab.async false
set_option linter.all false
set_option maxRecDepth 100000
set_option maxHeartbeats 0
/-! The head's run (printed by wip/gen.py). -/
namespace LW
open PySem PySem.Spec PyProof.Rows L2 MM
abbrev R : PySem.W.OpenRow := PySem.W.OpenLaw.row PySem.Challenge.rw_mindmeans_k83_whole_texts_of_circles
abbrev hk : PySem.W.Hook := hookM 5 ds ts tf (txtB tx)
def ob (z : PySem.W.SharedT) : AlM := obsM 5 ds ts tf (txtB tx) (HandSHeadRun.getT z)
theorem ob_eq (z : PySem.W.SharedT) : ob z = hk.obs z.abs := obsM_eq (HandSHeadRun.getT_eq z)
def loose : List Str := ([(Str.ofString "gcd"), (Str.ofString "LETTERS"), (Str.ofString "MOST_LETTERS"), (Str.ofString "WORDS"), (Str.ofString "is_whole"), (Str.ofString "is_word"), (Str.ofString "is_name"), (Str.ofString "is_tuple_of"), (Str.ofString "is_pair"), (Str.ofString "wrong_in"), (Str.ofString "wrong_in_all"), (Str.ofString "are_below"), (Str.ofString "NOTHING"), (Str.ofString "WHOLE"), (Str.ofString "lowest"), (Str.ofString "is_fraction"), (Str.ofString "plus"), (Str.ofString "total"), (Str.ofString "MOST_PEOPLE"), (Str.ofString "wrong_in_people"), (Str.ofString "is_sum"), (Str.ofString "is_row"), (Str.ofString "wrong_in_trust"), (Str.ofString "wrong_in_minds"), (Str.ofString "MindError")] : List Str) ++ ([(Str.ofString "NotACircle"), (Str.ofString "InvalidPeople"), (Str.ofString "InvalidTrust"), (Str.ofString "InvalidMinds"), (Str.ofString "InvalidText"), (Str.ofString "Circle"), (Str.ofString "check_circle"), (Str.ofString "check_minds"), (Str.ofString "PERSON"), (Str.ofString "TRUST"), (Str.ofString "MANY"), (Str.ofString "FIGURES"), (Str.ofString "MOST_FIGURES"), (Str.ofString "is_figures"), (Str.ofString "is_whole_word"), (Str.ofString "told_row"), (Str.ofString "does_follow"), (Str.ofString "wrong_in_lines"), (Str.ofString "fraction_of"), (Str.ofString "told_by"), (Str.ofString "rows_by"), (Str.ofString "circle_rows"), (Str.ofString "read_circle"), (Str.ofString "_law_lamp"), (Str.ofString "_law_wick")] : List Str) ++ ([(Str.ofString "_law_of"), (Str.ofString "_law_same"), (Str.ofString "_law_low"), (Str.ofString "_law_own"), (Str.ofString "_law_names"), (Str.ofString "_law_trust"), (Str.ofString "_law_circle"), (Str.ofString "_law_minds"), (Str.ofString "_law_made"), (Str.ofString "_law_text"), (Str.ofString "_law_right")] : List Str)
abbrev RunW (w : World) : Prop := HandSHeadRun.RunEqI R (PySem.W.view R.prog [0, 69]) hk ob 4000 loose w
theorem run0 (w : World) : RunW (w.withFollow "special-get-raises" false) := by
  unfold RunW HandSHeadRun.RunEqI
  kernel_rfl
theorem run1 (w : World) : RunW (w.withFollow "special-get-raises" true) := by
  unfold RunW HandSHeadRun.RunEqI
  kernel_rfl
theorem run (w : World) : RunW w := PySem.W.byRow2 "special-get-raises" (P := RunW) run0 run1 w
end LW
end
section
set_option Elab.async false
set_option linter.all false
set_option maxRecDepth 100000
set_option maxHeartbeats 0
/-! What the levels of the text are (printed by wip/gen.py). -/
namespace LW
open PySem PySem.Spec PyProof.Rows L2 MM
theorem fn_at {k : Nat} {x : Str} {d : DefR} (h : tx.fns.lookup x = some d) (ds : List D) (S : Store) : (lev tx (k + 1)).fn x ds S = fnF d.N d.ps d.kp (exs (lev tx k) d.body) ds S := by
  show (match tx.fns.lookup x with
    | some d => fnF d.N d.ps d.kp (exs (lev tx k) d.body) ds S
    | none => _) = _
  rw [h]
theorem ini_at {k : Nat} {x : Str} {q : Bool × DefR} (h0 : tx.fns.lookup x = none) (h : tx.ini.lookup x = some q) (ds : List D) (S : Store) : (lev tx (k + 1)).fn x ds S = mkF x q.1 (fnF q.2.N q.2.ps false (exs (lev tx k) q.2.body)) ds S := by
  show (match tx.fns.lookup x with
    | some d => fnF d.N d.ps d.kp (exs (lev tx k) d.body) ds S
    | none => match tx.ini.lookup x with
      | some q => mkF x q.1 (fnF q.2.N q.2.ps false (exs (lev tx k) q.2.body)) ds S
      | none => .bad) = _
  rw [h0, h]
theorem me_at {k : Nat} {c m : Str} {d : DefR} (h : tx.mes.lookup (c, m) = some d) (o : D) (l : List D) (S : Store) : (lev tx (k + 1)).me c m o l S = fnF d.N d.ps d.kp (exs (lev tx k) d.body) (o :: l) S := by
  show (match tx.mes.lookup (c, m) with
    | some d => fnF d.N d.ps d.kp (exs (lev tx k) d.body) (o :: l) S
    | none => _) = _
  rw [h]
theorem met_at {k : Nat} {c m : Str} {d : DefR} (h0 : tx.mes.lookup (c, m) = none) (h : tx.met.lookup (c, m) = some d) (o : D) (l : List D) (S : Store) : (lev tx (k + 1)).me c m o l S = fnF d.N d.ps d.kp (exs (lev tx k) d.body) (o :: l) S := by
  show (match tx.mes.lookup (c, m) with
    | some d => fnF d.N d.ps d.kp (exs (lev tx k) d.body) (o :: l) S
    | none => match tx.met.lookup (c, m) with
      | some d => fnF d.N d.ps d.kp (exs (lev tx k) d.body) (o :: l) S
      | none => .bad) = _
  rw [h0, h]
theorem clo_at {k : Nat} {i : Nat} {r : LamRec} (h : lamL[i]? = some r) (caps ds : List D) (S : Store) : (lev tx (k + 1)).cl (.clo i caps) ds S = cloF r (ev (lev tx k) r.tm) ds caps S := by
  show (match lamL[i]? with
    | some r => cloF r (ev (lev tx k) r.tm) ds caps S
    | none => .bad) = _
  rw [h]
theorem glo_at {k : Nat} {x : Str} {d : DefR} (h : tx.fns.lookup x = some d) (ds : List D) (S : Store) : (lev tx (k + 1)).cl (.glo x) ds S = (lev tx (k + 1)).fn x ds S := by
  rw [fn_at h]
  show (match tx.fns.lookup x with
    | some d => fnF d.N d.ps d.kp (exs (lev tx k) d.body) ds S
    | none => .bad) = _
  rw [h]
@[simp] theorem es_is_word_0 (g : GE) (r : List MM.Tm) (δ : En) (S : Store) : evs g (t_is_word_0 :: r) δ S = (ev g t_is_word_0 δ S).bind fun x S => (evs g r δ S).bind fun xs S => .ok (x :: xs) S := evs_ns rfl r δ S
@[simp] theorem es_is_fraction_0 (g : GE) (r : List MM.Tm) (δ : En) (S : Store) : evs g (t_is_fraction_0 :: r) δ S = (ev g t_is_fraction_0 δ S).bind fun x S => (evs g r δ S).bind fun xs S => .ok (x :: xs) S := evs_ns rfl r δ S
@[simp] theorem es_is_row_0 (g : GE) (r : List MM.Tm) (δ : En) (S : Store) : evs g (t_is_row_0 :: r) δ S = (ev g t_is_row_0 δ S).bind fun x S => (evs g r δ S).bind fun xs S => .ok (x :: xs) S := evs_ns rfl r δ S
@[simp] theorem es_is_figures_0 (g : GE) (r : List MM.Tm) (δ : En) (S : Store) : evs g (t_is_figures_0 :: r) δ S = (ev g t_is_figures_0 δ S).bind fun x S => (evs g r δ S).bind fun xs S => .ok (x :: xs) S := evs_ns rfl r δ S
@[simp] theorem es_told_row_0 (g : GE) (r : List MM.Tm) (δ : En) (S : Store) : evs g (t_told_row_0 :: r) δ S = (ev g t_told_row_0 δ S).bind fun x S => (evs g r δ S).bind fun xs S => .ok (x :: xs) S := evs_ns rfl r δ S
@[simp] theorem es_told_row_1 (g : GE) (r : List MM.Tm) (δ : En) (S : Store) : evs g (t_told_row_1 :: r) δ S = (ev g t_told_row_1 δ S).bind fun x S => (evs g r δ S).bind fun xs S => .ok (x :: xs) S := evs_ns rfl r δ S
@[simp] theorem es_does_follow_0 (g : GE) (r : List MM.Tm) (δ : En) (S : Store) : evs g (t_does_follow_0 :: r) δ S = (ev g t_does_follow_0 δ S).bind fun x S => (evs g r δ S).bind fun xs S => .ok (x :: xs) S := evs_ns rfl r δ S
@[simp] theorem es_does_follow_1 (g : GE) (r : List MM.Tm) (δ : En) (S : Store) : evs g (t_does_follow_1 :: r) δ S = (ev g t_does_follow_1 δ S).bind fun x S => (evs g r δ S).bind fun xs S => .ok (x :: xs) S := evs_ns rfl r δ S
@[simp] theorem es_wrong_in_lines_0 (g : GE) (r : List MM.Tm) (δ : En) (S : Store) : evs g (t_wrong_in_lines_0 :: r) δ S = (ev g t_wrong_in_lines_0 δ S).bind fun x S => (evs g r δ S).bind fun xs S => .ok (x :: xs) S := evs_ns rfl r δ S
@[simp] theorem es_told_by_0 (g : GE) (r : List MM.Tm) (δ : En) (S : Store) : evs g (t_told_by_0 :: r) δ S = (ev g t_told_by_0 δ S).bind fun x S => (evs g r δ S).bind fun xs S => .ok (x :: xs) S := evs_ns rfl r δ S
@[simp] theorem es_told_by_1 (g : GE) (r : List MM.Tm) (δ : En) (S : Store) : evs g (t_told_by_1 :: r) δ S = (ev g t_told_by_1 δ S).bind fun x S => (evs g r δ S).bind fun xs S => .ok (x :: xs) S := evs_ns rfl r δ S
@[simp] theorem es_told_by_2 (g : GE) (r : List MM.Tm) (δ : En) (S : Store) : evs g (t_told_by_2 :: r) δ S = (ev g t_told_by_2 δ S).bind fun x S => (evs g r δ S).bind fun xs S => .ok (x :: xs) S := evs_ns rfl r δ S
@[simp] theorem es_told_by_3 (g : GE) (r : List MM.Tm) (δ : En) (S : Store) : evs g (t_told_by_3 :: r) δ S = (ev g t_told_by_3 δ S).bind fun x S => (evs g r δ S).bind fun xs S => .ok (x :: xs) S := evs_ns rfl r δ S
@[simp] theorem es_told_by_4 (g : GE) (r : List MM.Tm) (δ : En) (S : Store) : evs g (t_told_by_4 :: r) δ S = (ev g t_told_by_4 δ S).bind fun x S => (evs g r δ S).bind fun xs S => .ok (x :: xs) S := evs_ns rfl r δ S
@[simp] theorem es_told_by_5 (g : GE) (r : List MM.Tm) (δ : En) (S : Store) : evs g (t_told_by_5 :: r) δ S = (ev g t_told_by_5 δ S).bind fun x S => (evs g r δ S).bind fun xs S => .ok (x :: xs) S := evs_ns rfl r δ S
@[simp] theorem es_told_by_6 (g : GE) (r : List MM.Tm) (δ : En) (S : Store) : evs g (t_told_by_6 :: r) δ S = (ev g t_told_by_6 δ S).bind fun x S => (evs g r δ S).bind fun xs S => .ok (x :: xs) S := evs_ns rfl r δ S
@[simp] theorem es_rows_by_0 (g : GE) (r : List MM.Tm) (δ : En) (S : Store) : evs g (t_rows_by_0 :: r) δ S = (ev g t_rows_by_0 δ S).bind fun x S => (evs g r δ S).bind fun xs S => .ok (x :: xs) S := evs_ns rfl r δ S
@[simp] theorem es_rows_by_1 (g : GE) (r : List MM.Tm) (δ : En) (S : Store) : evs g (t_rows_by_1 :: r) δ S = (ev g t_rows_by_1 δ S).bind fun x S => (evs g r δ S).bind fun xs S => .ok (x :: xs) S := evs_ns rfl r δ S
@[simp] theorem es__law_same_0 (g : GE) (r : List MM.Tm) (δ : En) (S : Store) : evs g (t__law_same_0 :: r) δ S = (ev g t__law_same_0 δ S).bind fun x S => (evs g r δ S).bind fun xs S => .ok (x :: xs) S := evs_ns rfl r δ S
@[simp] theorem es__law_names_0 (g : GE) (r : List MM.Tm) (δ : En) (S : Store) : evs g (t__law_names_0 :: r) δ S = (ev g t__law_names_0 δ S).bind fun x S => (evs g r δ S).bind fun xs S => .ok (x :: xs) S := evs_ns rfl r δ S
@[simp] theorem es__law_names_1 (g : GE) (r : List MM.Tm) (δ : En) (S : Store) : evs g (t__law_names_1 :: r) δ S = (ev g t__law_names_1 δ S).bind fun x S => (evs g r δ S).bind fun xs S => .ok (x :: xs) S := evs_ns rfl r δ S
@[simp] theorem es__law_trust_0 (g : GE) (r : List MM.Tm) (δ : En) (S : Store) : evs g (t__law_trust_0 :: r) δ S = (ev g t__law_trust_0 δ S).bind fun x S => (evs g r δ S).bind fun xs S => .ok (x :: xs) S := evs_ns rfl r δ S
@[simp] theorem es__law_trust_1 (g : GE) (r : List MM.Tm) (δ : En) (S : Store) : evs g (t__law_trust_1 :: r) δ S = (ev g t__law_trust_1 δ S).bind fun x S => (evs g r δ S).bind fun xs S => .ok (x :: xs) S := evs_ns rfl r δ S
@[simp] theorem es__law_circle_0 (g : GE) (r : List MM.Tm) (δ : En) (S : Store) : evs g (t__law_circle_0 :: r) δ S = (ev g t__law_circle_0 δ S).bind fun x S => (evs g r δ S).bind fun xs S => .ok (x :: xs) S := evs_ns rfl r δ S
@[simp] theorem es__law_minds_0 (g : GE) (r : List MM.Tm) (δ : En) (S : Store) : evs g (t__law_minds_0 :: r) δ S = (ev g t__law_minds_0 δ S).bind fun x S => (evs g r δ S).bind fun xs S => .ok (x :: xs) S := evs_ns rfl r δ S
@[simp] theorem es__law_text_0 (g : GE) (r : List MM.Tm) (δ : En) (S : Store) : evs g (t__law_text_0 :: r) δ S = (ev g t__law_text_0 δ S).bind fun x S => (evs g r δ S).bind fun xs S => .ok (x :: xs) S := evs_ns rfl r δ S
@[simp] theorem es__law_text_1 (g : GE) (r : List MM.Tm) (δ : En) (S : Store) : evs g (t__law_text_1 :: r) δ S = (ev g t__law_text_1 δ S).bind fun x S => (evs g r δ S).bind fun xs S => .ok (x :: xs) S := evs_ns rfl r δ S
@[simp] theorem es_law_0 (g : GE) (r : List MM.Tm) (δ : En) (S : Store) : evs g (t_law_0 :: r) δ S = (ev g t_law_0 δ S).bind fun x S => (evs g r δ S).bind fun xs S => .ok (x :: xs) S := evs_ns rfl r δ S
theorem fn_is_whole {k : Nat} (ds : List D) (S : Store) : (lev tx (k + 1)).fn (Str.ofString "is_whole") ds S = fnF r_is_whole.N r_is_whole.ps r_is_whole.kp (exs (lev tx k) r_is_whole.body) ds S := fn_at (d := r_is_whole) (by kernel_rfl) ds S
theorem fn_is_word {k : Nat} (ds : List D) (S : Store) : (lev tx (k + 1)).fn (Str.ofString "is_word") ds S = fnF r_is_word.N r_is_word.ps r_is_word.kp (exs (lev tx k) r_is_word.body) ds S := fn_at (d := r_is_word) (by kernel_rfl) ds S
theorem fn_is_name {k : Nat} (ds : List D) (S : Store) : (lev tx (k + 1)).fn (Str.ofString "is_name") ds S = fnF r_is_name.N r_is_name.ps r_is_name.kp (exs (lev tx k) r_is_name.body) ds S := fn_at (d := r_is_name) (by kernel_rfl) ds S
theorem fn_is_tuple_of {k : Nat} (ds : List D) (S : Store) : (lev tx (k + 1)).fn (Str.ofString "is_tuple_of") ds S = fnF r_is_tuple_of.N r_is_tuple_of.ps r_is_tuple_of.kp (exs (lev tx k) r_is_tuple_of.body) ds S := fn_at (d := r_is_tuple_of) (by kernel_rfl) ds S
theorem fn_is_pair {k : Nat} (ds : List D) (S : Store) : (lev tx (k + 1)).fn (Str.ofString "is_pair") ds S = fnF r_is_pair.N r_is_pair.ps r_is_pair.kp (exs (lev tx k) r_is_pair.body) ds S := fn_at (d := r_is_pair) (by kernel_rfl) ds S
theorem fn_wrong_in {k : Nat} (ds : List D) (S : Store) : (lev tx (k + 1)).fn (Str.ofString "wrong_in") ds S = fnF r_wrong_in.N r_wrong_in.ps r_wrong_in.kp (exs (lev tx k) r_wrong_in.body) ds S := fn_at (d := r_wrong_in) (by kernel_rfl) ds S
theorem fn_wrong_in_all {k : Nat} (ds : List D) (S : Store) : (lev tx (k + 1)).fn (Str.ofString "wrong_in_all") ds S = fnF r_wrong_in_all.N r_wrong_in_all.ps r_wrong_in_all.kp (exs (lev tx k) r_wrong_in_all.body) ds S := fn_at (d := r_wrong_in_all) (by kernel_rfl) ds S
theorem fn_are_below {k : Nat} (ds : List D) (S : Store) : (lev tx (k + 1)).fn (Str.ofString "are_below") ds S = fnF r_are_below.N r_are_below.ps r_are_below.kp (exs (lev tx k) r_are_below.body) ds S := fn_at (d := r_are_below) (by kernel_rfl) ds S
theorem fn_lowest {k : Nat} (ds : List D) (S : Store) : (lev tx (k + 1)).fn (Str.ofString "lowest") ds S = fnF r_lowest.N r_lowest.ps r_lowest.kp (exs (lev tx k) r_lowest.body) ds S := fn_at (d := r_lowest) (by kernel_rfl) ds S
theorem fn_is_fraction {k : Nat} (ds : List D) (S : Store) : (lev tx (k + 1)).fn (Str.ofString "is_fraction") ds S = fnF r_is_fraction.N r_is_fraction.ps r_is_fraction.kp (exs (lev tx k) r_is_fraction.body) ds S := fn_at (d := r_is_fraction) (by kernel_rfl) ds S
theorem fn_plus {k : Nat} (ds : List D) (S : Store) : (lev tx (k + 1)).fn (Str.ofString "plus") ds S = fnF r_plus.N r_plus.ps r_plus.kp (exs (lev tx k) r_plus.body) ds S := fn_at (d := r_plus) (by kernel_rfl) ds S
theorem fn_total {k : Nat} (ds : List D) (S : Store) : (lev tx (k + 1)).fn (Str.ofString "total") ds S = fnF r_total.N r_total.ps r_total.kp (exs (lev tx k) r_total.body) ds S := fn_at (d := r_total) (by kernel_rfl) ds S
theorem fn_wrong_in_people {k : Nat} (ds : List D) (S : Store) : (lev tx (k + 1)).fn (Str.ofString "wrong_in_people") ds S = fnF r_wrong_in_people.N r_wrong_in_people.ps r_wrong_in_people.kp (exs (lev tx k) r_wrong_in_people.body) ds S := fn_at (d := r_wrong_in_people) (by kernel_rfl) ds S
theorem fn_is_sum {k : Nat} (ds : List D) (S : Store) : (lev tx (k + 1)).fn (Str.ofString "is_sum") ds S = fnF r_is_sum.N r_is_sum.ps r_is_sum.kp (exs (lev tx k) r_is_sum.body) ds S := fn_at (d := r_is_sum) (by kernel_rfl) ds S
theorem fn_is_row {k : Nat} (ds : List D) (S : Store) : (lev tx (k + 1)).fn (Str.ofString "is_row") ds S = fnF r_is_row.N r_is_row.ps r_is_row.kp (exs (lev tx k) r_is_row.body) ds S := fn_at (d := r_is_row) (by kernel_rfl) ds S
theorem fn_wrong_in_trust {k : Nat} (ds : List D) (S : Store) : (lev tx (k + 1)).fn (Str.ofString "wrong_in_trust") ds S = fnF r_wrong_in_trust.N r_wrong_in_trust.ps r_wrong_in_trust.kp (exs (lev tx k) r_wrong_in_trust.body) ds S := fn_at (d := r_wrong_in_trust) (by kernel_rfl) ds S
theorem fn_wrong_in_minds {k : Nat} (ds : List D) (S : Store) : (lev tx (k + 1)).fn (Str.ofString "wrong_in_minds") ds S = fnF r_wrong_in_minds.N r_wrong_in_minds.ps r_wrong_in_minds.kp (exs (lev tx k) r_wrong_in_minds.body) ds S := fn_at (d := r_wrong_in_minds) (by kernel_rfl) ds S
theorem fn_check_circle {k : Nat} (ds : List D) (S : Store) : (lev tx (k + 1)).fn (Str.ofString "check_circle") ds S = fnF r_check_circle.N r_check_circle.ps r_check_circle.kp (exs (lev tx k) r_check_circle.body) ds S := fn_at (d := r_check_circle) (by kernel_rfl) ds S
theorem fn_check_minds {k : Nat} (ds : List D) (S : Store) : (lev tx (k + 1)).fn (Str.ofString "check_minds") ds S = fnF r_check_minds.N r_check_minds.ps r_check_minds.kp (exs (lev tx k) r_check_minds.body) ds S := fn_at (d := r_check_minds) (by kernel_rfl) ds S
theorem fn_is_figures {k : Nat} (ds : List D) (S : Store) : (lev tx (k + 1)).fn (Str.ofString "is_figures") ds S = fnF r_is_figures.N r_is_figures.ps r_is_figures.kp (exs (lev tx k) r_is_figures.body) ds S := fn_at (d := r_is_figures) (by kernel_rfl) ds S
theorem fn_is_whole_word {k : Nat} (ds : List D) (S : Store) : (lev tx (k + 1)).fn (Str.ofString "is_whole_word") ds S = fnF r_is_whole_word.N r_is_whole_word.ps r_is_whole_word.kp (exs (lev tx k) r_is_whole_word.body) ds S := fn_at (d := r_is_whole_word) (by kernel_rfl) ds S
theorem fn_told_row {k : Nat} (ds : List D) (S : Store) : (lev tx (k + 1)).fn (Str.ofString "told_row") ds S = fnF r_told_row.N r_told_row.ps r_told_row.kp (exs (lev tx k) r_told_row.body) ds S := fn_at (d := r_told_row) (by kernel_rfl) ds S
theorem fn_does_follow {k : Nat} (ds : List D) (S : Store) : (lev tx (k + 1)).fn (Str.ofString "does_follow") ds S = fnF r_does_follow.N r_does_follow.ps r_does_follow.kp (exs (lev tx k) r_does_follow.body) ds S := fn_at (d := r_does_follow) (by kernel_rfl) ds S
theorem fn_wrong_in_lines {k : Nat} (ds : List D) (S : Store) : (lev tx (k + 1)).fn (Str.ofString "wrong_in_lines") ds S = fnF r_wrong_in_lines.N r_wrong_in_lines.ps r_wrong_in_lines.kp (exs (lev tx k) r_wrong_in_lines.body) ds S := fn_at (d := r_wrong_in_lines) (by kernel_rfl) ds S
theorem fn_fraction_of {k : Nat} (ds : List D) (S : Store) : (lev tx (k + 1)).fn (Str.ofString "fraction_of") ds S = fnF r_fraction_of.N r_fraction_of.ps r_fraction_of.kp (exs (lev tx k) r_fraction_of.body) ds S := fn_at (d := r_fraction_of) (by kernel_rfl) ds S
theorem fn_told_by {k : Nat} (ds : List D) (S : Store) : (lev tx (k + 1)).fn (Str.ofString "told_by") ds S = fnF r_told_by.N r_told_by.ps r_told_by.kp (exs (lev tx k) r_told_by.body) ds S := fn_at (d := r_told_by) (by kernel_rfl) ds S
theorem fn_rows_by {k : Nat} (ds : List D) (S : Store) : (lev tx (k + 1)).fn (Str.ofString "rows_by") ds S = fnF r_rows_by.N r_rows_by.ps r_rows_by.kp (exs (lev tx k) r_rows_by.body) ds S := fn_at (d := r_rows_by) (by kernel_rfl) ds S
theorem fn_circle_rows {k : Nat} (ds : List D) (S : Store) : (lev tx (k + 1)).fn (Str.ofString "circle_rows") ds S = fnF r_circle_rows.N r_circle_rows.ps r_circle_rows.kp (exs (lev tx k) r_circle_rows.body) ds S := fn_at (d := r_circle_rows) (by kernel_rfl) ds S
theorem fn_read_circle {k : Nat} (ds : List D) (S : Store) : (lev tx (k + 1)).fn (Str.ofString "read_circle") ds S = fnF r_read_circle.N r_read_circle.ps r_read_circle.kp (exs (lev tx k) r_read_circle.body) ds S := fn_at (d := r_read_circle) (by kernel_rfl) ds S
theorem fn__law_lamp {k : Nat} (ds : List D) (S : Store) : (lev tx (k + 1)).fn (Str.ofString "_law_lamp") ds S = fnF r__law_lamp.N r__law_lamp.ps r__law_lamp.kp (exs (lev tx k) r__law_lamp.body) ds S := fn_at (d := r__law_lamp) (by kernel_rfl) ds S
theorem fn__law_wick {k : Nat} (ds : List D) (S : Store) : (lev tx (k + 1)).fn (Str.ofString "_law_wick") ds S = fnF r__law_wick.N r__law_wick.ps r__law_wick.kp (exs (lev tx k) r__law_wick.body) ds S := fn_at (d := r__law_wick) (by kernel_rfl) ds S
theorem fn__law_of {k : Nat} (ds : List D) (S : Store) : (lev tx (k + 1)).fn (Str.ofString "_law_of") ds S = fnF r__law_of.N r__law_of.ps r__law_of.kp (exs (lev tx k) r__law_of.body) ds S := fn_at (d := r__law_of) (by kernel_rfl) ds S
theorem fn__law_same {k : Nat} (ds : List D) (S : Store) : (lev tx (k + 1)).fn (Str.ofString "_law_same") ds S = fnF r__law_same.N r__law_same.ps r__law_same.kp (exs (lev tx k) r__law_same.body) ds S := fn_at (d := r__law_same) (by kernel_rfl) ds S
theorem fn__law_low {k : Nat} (ds : List D) (S : Store) : (lev tx (k + 1)).fn (Str.ofString "_law_low") ds S = fnF r__law_low.N r__law_low.ps r__law_low.kp (exs (lev tx k) r__law_low.body) ds S := fn_at (d := r__law_low) (by kernel_rfl) ds S
theorem fn__law_own {k : Nat} (ds : List D) (S : Store) : (lev tx (k + 1)).fn (Str.ofString "_law_own") ds S = fnF r__law_own.N r__law_own.ps r__law_own.kp (exs (lev tx k) r__law_own.body) ds S := fn_at (d := r__law_own) (by kernel_rfl) ds S
theorem fn__law_names {k : Nat} (ds : List D) (S : Store) : (lev tx (k + 1)).fn (Str.ofString "_law_names") ds S = fnF r__law_names.N r__law_names.ps r__law_names.kp (exs (lev tx k) r__law_names.body) ds S := fn_at (d := r__law_names) (by kernel_rfl) ds S
theorem fn__law_trust {k : Nat} (ds : List D) (S : Store) : (lev tx (k + 1)).fn (Str.ofString "_law_trust") ds S = fnF r__law_trust.N r__law_trust.ps r__law_trust.kp (exs (lev tx k) r__law_trust.body) ds S := fn_at (d := r__law_trust) (by kernel_rfl) ds S
theorem fn__law_circle {k : Nat} (ds : List D) (S : Store) : (lev tx (k + 1)).fn (Str.ofString "_law_circle") ds S = fnF r__law_circle.N r__law_circle.ps r__law_circle.kp (exs (lev tx k) r__law_circle.body) ds S := fn_at (d := r__law_circle) (by kernel_rfl) ds S
theorem fn__law_minds {k : Nat} (ds : List D) (S : Store) : (lev tx (k + 1)).fn (Str.ofString "_law_minds") ds S = fnF r__law_minds.N r__law_minds.ps r__law_minds.kp (exs (lev tx k) r__law_minds.body) ds S := fn_at (d := r__law_minds) (by kernel_rfl) ds S
theorem fn__law_made {k : Nat} (ds : List D) (S : Store) : (lev tx (k + 1)).fn (Str.ofString "_law_made") ds S = fnF r__law_made.N r__law_made.ps r__law_made.kp (exs (lev tx k) r__law_made.body) ds S := fn_at (d := r__law_made) (by kernel_rfl) ds S
theorem fn__law_text {k : Nat} (ds : List D) (S : Store) : (lev tx (k + 1)).fn (Str.ofString "_law_text") ds S = fnF r__law_text.N r__law_text.ps r__law_text.kp (exs (lev tx k) r__law_text.body) ds S := fn_at (d := r__law_text) (by kernel_rfl) ds S
theorem fn__law_right {k : Nat} (ds : List D) (S : Store) : (lev tx (k + 1)).fn (Str.ofString "_law_right") ds S = fnF r__law_right.N r__law_right.ps r__law_right.kp (exs (lev tx k) r__law_right.body) ds S := fn_at (d := r__law_right) (by kernel_rfl) ds S
theorem fn_law {k : Nat} (ds : List D) (S : Store) : (lev tx (k + 1)).fn (Str.ofString "law") ds S = fnF r_law.N r_law.ps r_law.kp (exs (lev tx k) r_law.body) ds S := fn_at (d := r_law) (by kernel_rfl) ds S
theorem ini_Circle {k : Nat} (ds : List D) (S : Store) : (lev tx (k + 1)).fn (Str.ofString "Circle") ds S = mkF (Str.ofString "Circle") false (fnF r_Circle___init__.N r_Circle___init__.ps false (exs (lev tx k) r_Circle___init__.body)) ds S := ini_at (q := (false, r_Circle___init__)) (by kernel_rfl) (by kernel_rfl) ds S
theorem me_Circle_people {k : Nat} (o : D) (l : List D) (S : Store) : (lev tx (k + 1)).me (Str.ofString "Circle") (Str.ofString "people") o l S = fnF r_Circle_people.N r_Circle_people.ps r_Circle_people.kp (exs (lev tx k) r_Circle_people.body) (o :: l) S := me_at (d := r_Circle_people) (by kernel_rfl) o l S
theorem me_Circle_trust {k : Nat} (o : D) (l : List D) (S : Store) : (lev tx (k + 1)).me (Str.ofString "Circle") (Str.ofString "trust") o l S = fnF r_Circle_trust.N r_Circle_trust.ps r_Circle_trust.kp (exs (lev tx k) r_Circle_trust.body) (o :: l) S := me_at (d := r_Circle_trust) (by kernel_rfl) o l S
theorem me_Circle_parts {k : Nat} (o : D) (l : List D) (S : Store) : (lev tx (k + 1)).me (Str.ofString "Circle") (Str.ofString "parts") o l S = fnF r_Circle_parts.N r_Circle_parts.ps r_Circle_parts.kp (exs (lev tx k) r_Circle_parts.body) (o :: l) S := me_at (d := r_Circle_parts) (by kernel_rfl) o l S
theorem met_Circle___eq__ {k : Nat} (o : D) (l : List D) (S : Store) : (lev tx (k + 1)).me (Str.ofString "Circle") (Str.ofString "__eq__") o l S = fnF r_Circle___eq__.N r_Circle___eq__.ps r_Circle___eq__.kp (exs (lev tx k) r_Circle___eq__.body) (o :: l) S := met_at (d := r_Circle___eq__) (by kernel_rfl) (by kernel_rfl) o l S
theorem clo_wrong_in_all_0 {k : Nat} (caps ds : List D) (S : Store) : (lev tx (k + 1)).cl (.clo 0 caps) ds S = cloF l_wrong_in_all_0 (ev (lev tx k) l_wrong_in_all_0.tm) ds caps S := clo_at (r := l_wrong_in_all_0) rfl caps ds S
theorem clo_wrong_in_people_0 {k : Nat} (caps ds : List D) (S : Store) : (lev tx (k + 1)).cl (.clo 1 caps) ds S = cloF l_wrong_in_people_0 (ev (lev tx k) l_wrong_in_people_0.tm) ds caps S := clo_at (r := l_wrong_in_people_0) rfl caps ds S
theorem clo_wrong_in_trust_0 {k : Nat} (caps ds : List D) (S : Store) : (lev tx (k + 1)).cl (.clo 2 caps) ds S = cloF l_wrong_in_trust_0 (ev (lev tx k) l_wrong_in_trust_0.tm) ds caps S := clo_at (r := l_wrong_in_trust_0) rfl caps ds S
@[simp] theorem con_Circle (k : Nat) : (lev tx k).con (Str.ofString "Circle") = some (.glo (Str.ofString "Circle")) := by rw [lev_con]; kernel_rfl
@[simp] theorem con_FIGURES (k : Nat) : (lev tx k).con (Str.ofString "FIGURES") = some (.str (Str.ofString "0123456789")) := by rw [lev_con]; kernel_rfl
@[simp] theorem con_LETTERS (k : Nat) : (lev tx k).con (Str.ofString "LETTERS") = some (.str (Str.ofString "abcdefghijklmnopqrstuvwxyz")) := by rw [lev_con]; kernel_rfl
@[simp] theorem con_MOST_FIGURES (k : Nat) : (lev tx k).con (Str.ofString "MOST_FIGURES") = some (.int (400)) := by rw [lev_con]; kernel_rfl
@[simp] theorem con_MOST_LETTERS (k : Nat) : (lev tx k).con (Str.ofString "MOST_LETTERS") = some (.int (8)) := by rw [lev_con]; kernel_rfl
@[simp] theorem con_MOST_PEOPLE (k : Nat) : (lev tx k).con (Str.ofString "MOST_PEOPLE") = some (.int (5)) := by rw [lev_con]; kernel_rfl
@[simp] theorem con_NOTHING (k : Nat) : (lev tx k).con (Str.ofString "NOTHING") = some (.tup [.int (0), .int (1)]) := by rw [lev_con]; kernel_rfl
@[simp] theorem con_PERSON (k : Nat) : (lev tx k).con (Str.ofString "PERSON") = some (.str (Str.ofString "person")) := by rw [lev_con]; kernel_rfl
@[simp] theorem con_TRUST (k : Nat) : (lev tx k).con (Str.ofString "TRUST") = some (.str (Str.ofString "trust")) := by rw [lev_con]; kernel_rfl
@[simp] theorem con_WHOLE (k : Nat) : (lev tx k).con (Str.ofString "WHOLE") = some (.tup [.int (1), .int (1)]) := by rw [lev_con]; kernel_rfl
@[simp] theorem con_WORDS (k : Nat) : (lev tx k).con (Str.ofString "WORDS") = some (.tup [.str (Str.ofString "agree"), .str (Str.ofString "all"), .str (Str.ofString "back"), .str (Str.ofString "beat"), .str (Str.ofString "book"), .str (Str.ofString "case"), .str (Str.ofString "circle"), .str (Str.ofString "end"), .str (Str.ofString "firm"), .str (Str.ofString "group"), .str (Str.ofString "hear"), .str (Str.ofString "in"), .str (Str.ofString "last"), .str (Str.ofString "mean"), .str (Str.ofString "meet"), .str (Str.ofString "middle"), .str (Str.ofString "mind"), .str (Str.ofString "near"), .str (Str.ofString "none"), .str (Str.ofString "of"), .str (Str.ofString "out"), .str (Str.ofString "people"), .str (Str.ofString "quit"), .str (Str.ofString "rest"), .str (Str.ofString "rhythm"), .str (Str.ofString "row"), .str (Str.ofString "say"), .str (Str.ofString "spread"), .str (Str.ofString "swing"), .str (Str.ofString "take"), .str (Str.ofString "trust"), .str (Str.ofString "undo"), .str (Str.ofString "web"), .str (Str.ofString "weight"), .str (Str.ofString "yes")]) := by rw [lev_con]; kernel_rfl
@[simp] theorem con_is_fraction (k : Nat) : (lev tx k).con (Str.ofString "is_fraction") = some (.glo (Str.ofString "is_fraction")) := by rw [lev_con]; kernel_rfl
@[simp] theorem gk_is_fraction (k : Nat) : (lev tx k).gk (Str.ofString "is_fraction") = true := by rw [lev_gk]; kernel_rfl
theorem glo_is_fraction {k : Nat} (ds : List D) (S : Store) : (lev tx (k + 1)).cl (.glo (Str.ofString "is_fraction")) ds S = (lev tx (k + 1)).fn (Str.ofString "is_fraction") ds S := glo_at (d := r_is_fraction) (by kernel_rfl) ds S
@[simp] theorem kd_MANY (k : Nat) : (lev tx k).kd (Str.ofString "MANY") = some [((Str.ofString "person"), .int (4)), ((Str.ofString "trust"), .int (5))] := by rw [lev_kd]; kernel_rfl
@[simp] theorem fs_Circle_all_told (k : Nat) : (lev tx k).fs (Str.ofString "Circle") (Str.ofString "all_told") = true := by rw [lev_fs]; decide +kernel
@[simp] theorem fs_Circle_people (k : Nat) : (lev tx k).fs (Str.ofString "Circle") (Str.ofString "people") = false := by rw [lev_fs]; decide +kernel
@[simp] theorem pp_Circle_people (k : Nat) : (lev tx k).pp (Str.ofString "Circle") (Str.ofString "people") = true := by rw [lev_pp]; decide +kernel
@[simp] theorem fs_Circle_trust (k : Nat) : (lev tx k).fs (Str.ofString "Circle") (Str.ofString "trust") = false := by rw [lev_fs]; decide +kernel
@[simp] theorem pp_Circle_trust (k : Nat) : (lev tx k).pp (Str.ofString "Circle") (Str.ofString "trust") = true := by rw [lev_pp]; decide +kernel
@[simp] theorem fs_Circle_parts (k : Nat) : (lev tx k).fs (Str.ofString "Circle") (Str.ofString "parts") = false := by rw [lev_fs]; decide +kernel
@[simp] theorem pp_Circle_parts (k : Nat) : (lev tx k).pp (Str.ofString "Circle") (Str.ofString "parts") = true := by rw [lev_pp]; decide +kernel
@[simp] theorem cls_Circle (k : Nat) : (lev tx k).cls.contains (Str.ofString "Circle") = true := by rw [lev_cls]; decide +kernel
@[simp] theorem sub_Circle_Circle (k : Nat) : (lev tx k).sub (Str.ofString "Circle") (Str.ofString "Circle") = true := by rw [lev_sub]; decide +kernel
@[simp] theorem oe_Circle (k : Nat) : (lev tx k).oe (Str.ofString "Circle") = true := by rw [lev_oe]; decide +kernel
end LW
end
section
set_option Elab.async false
set_option linter.all false
set_option maxRecDepth 100000
set_option maxHeartbeats 1000000
/-! What the small defs give. -/
namespace LW
open PySem MM SX
theorem is_whole_int (k : Nat) (i : Int) (S : Store) : (lev tx (k + 1)).fn (Str.ofString "is_whole") [.int i] S = .ok (.bl true) S := by
  rw [fn_is_whole]
  simp [r_is_whole, b_is_whole_0, fnF, exs, ex, ev, evF, seqF, asnG, asnGs, opBlt, bGcd, bLen, bAll, bAny, bSum, bIsI, bAbs, bMax, bMin, bInt, bStr, bTuple, bList, bDivmod, bSorted, optR, opCmp, ltD, opBin, opAdd, opIx, opSl, startE, retF, retR, leave, leaveOk, D.hasClo, D.hasCloL, lenD, seqD, asL, isInst, tyName, clsName, iterK, itPlain, itEnum, itZip, itRange, itRange2, iterD, gdR, D.isNon, Tm.isCnon, partD, clKind, getSlots, insOf, opFld, line, wipeE, wipeC, endL, opMth, mtOk, mSplit, mJoin, mAppend, mExtend, mGet, strJoin, fmtR, fmtD, blsD, intsD, strsD, permBy]
theorem lowest_ok (k : Nat) {n : Nat} {a b : Int} (S : Store) (hb : 0 < b) (hs : Bits n b) (hn : n < 9000) : (lev tx (k + 1)).fn (Str.ofString "lowest") [.int a, .int b] S = .ok (dF (low a b)) S := by
  rw [fn_lowest]
  have hd := divOk_of (by have := gcd_pos (a := a) hb; omega) (gcd_bits (a := a) hb hs) hn
  simp [r_lowest, b_lowest_0, b_lowest_1, fnF, exs, ex, ev, evF, seqF, asnG, asnGs, opBlt, bGcd, bLen, bAll, bAny, bSum, bIsI, bAbs, bMax, bMin, bInt, bStr, bTuple, bList, bDivmod, bSorted, optR, opCmp, ltD, opBin, opAdd, opIx, opSl, startE, retF, retR, leave, leaveOk, D.hasClo, D.hasCloL, lenD, seqD, asL, isInst, tyName, clsName, iterK, itPlain, itEnum, itZip, itRange, itRange2, iterD, gdR, D.isNon, Tm.isCnon, partD, clKind, getSlots, insOf, opFld, line, wipeE, wipeC, endL, opMth, mtOk, mSplit, mJoin, mAppend, mExtend, mGet, strJoin, fmtR, fmtD, blsD, intsD, strsD, permBy, hb, hd, dF, low]
theorem is_tuple_of_ok (k : Nat) (l : List D) (i : Int) (S : Store) (hc : D.hasCloL l = false) (hi : (l.length : Int) = i) : (lev tx (k + 1)).fn (Str.ofString "is_tuple_of") [.tup l, .int i] S = .ok (.bl true) S := by
  rw [fn_is_tuple_of]
  have he : eqD S (.int l.length) (.int i) = some true := by
    rw [eqD_pln rfl rfl, hi]
    simp
  simp [r_is_tuple_of, b_is_tuple_of_0, fnF, exs, ex, ev, evF, seqF, asnG, asnGs, opBlt, bGcd, bLen, bAll, bAny, bSum, bIsI, bAbs, bMax, bMin, bInt, bStr, bTuple, bList, bDivmod, bSorted, optR, opCmp, ltD, opBin, opAdd, opIx, opSl, startE, retF, retR, leave, leaveOk, D.hasClo, D.hasCloL, lenD, seqD, asL, isInst, tyName, clsName, iterK, itPlain, itEnum, itZip, itRange, itRange2, iterD, gdR, D.isNon, Tm.isCnon, partD, clKind, getSlots, insOf, opFld, line, wipeE, wipeC, endL, opMth, mtOk, mSplit, mJoin, mAppend, mExtend, mGet, strJoin, fmtR, fmtD, blsD, intsD, strsD, permBy, he]
theorem is_pair_ok (k : Nat) (a b : D) (S : Store) (ha : a.hasClo = false) (hb : b.hasClo = false) : (lev tx (k + 2)).fn (Str.ofString "is_pair") [.tup [a, b]] S = .ok (.bl true) S := by
  rw [fn_is_pair]
  simp [r_is_pair, b_is_pair_0, fnF, exs, ex, ev, evF, seqF, asnG, asnGs, opBlt, bGcd, bLen, bAll, bAny, bSum, bIsI, bAbs, bMax, bMin, bInt, bStr, bTuple, bList, bDivmod, bSorted, optR, opCmp, ltD, opBin, opAdd, opIx, opSl, startE, retF, retR, leave, leaveOk, D.hasClo, D.hasCloL, lenD, seqD, asL, isInst, tyName, clsName, iterK, itPlain, itEnum, itZip, itRange, itRange2, iterD, gdR, D.isNon, Tm.isCnon, partD, clKind, getSlots, insOf, opFld, line, wipeE, wipeC, endL, opMth, mtOk, mSplit, mJoin, mAppend, mExtend, mGet, strJoin, fmtR, fmtD, blsD, intsD, strsD, permBy]
  rw [is_tuple_of_ok k [a, b] 2 S (by simp [D.hasCloL, ha, hb]) rfl]
  simp [fnF, exs, ex, ev, evF, seqF, asnG, asnGs, opBlt, bGcd, bLen, bAll, bAny, bSum, bIsI, bAbs, bMax, bMin, bInt, bStr, bTuple, bList, bDivmod, bSorted, optR, opCmp, ltD, opBin, opAdd, opIx, opSl, startE, retF, retR, leave, leaveOk, D.hasClo, D.hasCloL, lenD, seqD, asL, isInst, tyName, clsName, iterK, itPlain, itEnum, itZip, itRange, itRange2, iterD, gdR, D.isNon, Tm.isCnon, partD, clKind, getSlots, insOf, opFld, line, wipeE, wipeC, endL, opMth, mtOk, mSplit, mJoin, mAppend, mExtend, mGet, strJoin, fmtR, fmtD, blsD, intsD, strsD, permBy]
theorem is_fraction_ok (k : Nat) {f : Fr} (S : Store) (hf : IsFr f) : (lev tx (k + 3)).fn (Str.ofString "is_fraction") [dF f] S = .ok (.bl true) S := by
  rw [fn_is_fraction]
  have h1 : ev (lev tx (k + 2)) t_is_fraction_0 [some (dF f), none] S = .ok (.lst [.bl true, .bl true]) S := by
    refine ev_lca (enc := D.int) (f := fun _ => .bl true) [f.1, f.2] (x := dF f) (by simp [fnF, exs, ex, ev, evF, seqF, asnG, asnGs, opBlt, bGcd, bLen, bAll, bAny, bSum, bIsI, bAbs, bMax, bMin, bInt, bStr, bTuple, bList, bDivmod, bSorted, optR, opCmp, ltD, opBin, opAdd, opIx, opSl, startE, retF, retR, leave, leaveOk, D.hasClo, D.hasCloL, lenD, seqD, asL, isInst, tyName, clsName, iterK, itPlain, itEnum, itZip, itRange, itRange2, iterD, gdR, D.isNon, Tm.isCnon, partD, clKind, getSlots, insOf, opFld, line, wipeE, wipeC, endL, opMth, mtOk, mSplit, mJoin, mAppend, mExtend, mGet, strJoin, fmtR, fmtD, blsD, intsD, strsD, permBy]) (by simp [dF, iterD]) rfl (fun a _ => ⟨rfl, ?_, rfl⟩) (by simp [line])
    simp [fnF, exs, ex, ev, evF, seqF, asnG, asnGs, opBlt, bGcd, bLen, bAll, bAny, bSum, bIsI, bAbs, bMax, bMin, bInt, bStr, bTuple, bList, bDivmod, bSorted, optR, opCmp, ltD, opBin, opAdd, opIx, opSl, startE, retF, retR, leave, leaveOk, D.hasClo, D.hasCloL, lenD, seqD, asL, isInst, tyName, clsName, iterK, itPlain, itEnum, itZip, itRange, itRange2, iterD, gdR, D.isNon, Tm.isCnon, partD, clKind, getSlots, insOf, opFld, line, wipeE, wipeC, endL, opMth, mtOk, mSplit, mJoin, mAppend, mExtend, mGet, strJoin, fmtR, fmtD, blsD, intsD, strsD, permBy, is_whole_int]
  have hg : eqD S (.int ((Nat.gcd f.1.natAbs f.2.natAbs : Nat) : Int)) (.int 1) = some true := by
    rw [eqD_pln rfl rfl, hf.cop]
    simp
  have hp := hf.pos
  have h2 := is_pair_ok k (.int f.1) (.int f.2) S rfl rfl
  rw [show D.tup [.int f.1, .int f.2] = dF f from rfl] at h2
  simp [r_is_fraction, b_is_fraction_0, q_is_fraction_0_a, b_is_fraction_0_a_0, b_is_fraction_1, fnF, exs, ex, ev, evF, seqF, asnG, asnGs, opBlt, bGcd, bLen, bAll, bAny, bSum, bIsI, bAbs, bMax, bMin, bInt, bStr, bTuple, bList, bDivmod, bSorted, optR, opCmp, ltD, opBin, opAdd, opIx, opSl, startE, retF, retR, leave, leaveOk, D.hasClo, D.hasCloL, lenD, seqD, asL, isInst, tyName, clsName, iterK, itPlain, itEnum, itZip, itRange, itRange2, iterD, gdR, D.isNon, Tm.isCnon, partD, clKind, getSlots, insOf, opFld, line, wipeE, wipeC, endL, opMth, mtOk, mSplit, mJoin, mAppend, mExtend, mGet, strJoin, fmtR, fmtD, blsD, intsD, strsD, permBy, h1, h2]
  simp [dF, fnF, exs, ex, ev, evF, seqF, asnG, asnGs, opBlt, bGcd, bLen, bAll, bAny, bSum, bIsI, bAbs, bMax, bMin, bInt, bStr, bTuple, bList, bDivmod, bSorted, optR, opCmp, ltD, opBin, opAdd, opIx, opSl, startE, retF, retR, leave, leaveOk, D.hasClo, D.hasCloL, lenD, seqD, asL, isInst, tyName, clsName, iterK, itPlain, itEnum, itZip, itRange, itRange2, iterD, gdR, D.isNon, Tm.isCnon, partD, clKind, getSlots, insOf, opFld, line, wipeE, wipeC, endL, opMth, mtOk, mSplit, mJoin, mAppend, mExtend, mGet, strJoin, fmtR, fmtD, blsD, intsD, strsD, permBy, hg, hp]
end LW
end
section
set_option Elab.async false
set_option linter.all false
set_option maxRecDepth 100000
set_option maxHeartbeats 1000000
/-! Sums of fractions, rows of trust. -/
namespace LW
open PySem MM SX
theorem plus_ok (k : Nat) {n m : Nat} {f g : Fr} (S : Store) (hf : IsFr f) (hg : IsFr g) (bf : BF n f) (bg : BF m g) (hn : n + m < 9000) : (lev tx (k + 2)).fn (Str.ofString "plus") [dF f, dF g] S = .ok (dF (plus f g)) S := by
  rw [fn_plus]
  have m1 := mulOk_of bf.a bg.b (by omega)
  have m2 := mulOk_of bg.a bf.b (by omega)
  have m3 := mulOk_of bf.b bg.b (by omega)
  have hp : 0 < f.2 * g.2 := Int.mul_pos hf.pos hg.pos
  have hl := lowest_ok k (a := f.1 * g.2 + g.1 * f.2) S hp (bf.b.mul bg.b) hn
  simp [r_plus, b_plus_0, fnF, exs, ex, ev, evF, seqF, asnG, asnGs, opBlt, bGcd, bLen, bAll, bAny, bSum, bIsI, bAbs, bMax, bMin, bInt, bStr, bTuple, bList, bDivmod, bSorted, optR, opCmp, ltD, opBin, opAdd, opIx, opSl, startE, retF, retR, leave, leaveOk, D.hasClo, D.hasCloL, lenD, seqD, asL, isInst, tyName, clsName, iterK, itPlain, itEnum, itZip, itRange, itRange2, iterD, gdR, D.isNon, Tm.isCnon, partD, clKind, getSlots, insOf, opFld, line, wipeE, wipeC, endL, opMth, mtOk, mSplit, mJoin, mAppend, mExtend, mGet, strJoin, fmtR, fmtD, blsD, intsD, strsD, permBy]
  simp [dF, fnF, exs, ex, ev, evF, seqF, asnG, asnGs, opBlt, bGcd, bLen, bAll, bAny, bSum, bIsI, bAbs, bMax, bMin, bInt, bStr, bTuple, bList, bDivmod, bSorted, optR, opCmp, ltD, opBin, opAdd, opIx, opSl, startE, retF, retR, leave, leaveOk, D.hasClo, D.hasCloL, lenD, seqD, asL, isInst, tyName, clsName, iterK, itPlain, itEnum, itZip, itRange, itRange2, iterD, gdR, D.isNon, Tm.isCnon, partD, clKind, getSlots, insOf, opFld, line, wipeE, wipeC, endL, opMth, mtOk, mSplit, mJoin, mAppend, mExtend, mGet, strJoin, fmtR, fmtD, blsD, intsD, strsD, permBy, m1, m2, m3, hl]
  simp [fnF, exs, ex, ev, evF, seqF, asnG, asnGs, opBlt, bGcd, bLen, bAll, bAny, bSum, bIsI, bAbs, bMax, bMin, bInt, bStr, bTuple, bList, bDivmod, bSorted, optR, opCmp, ltD, opBin, opAdd, opIx, opSl, startE, retF, retR, leave, leaveOk, D.hasClo, D.hasCloL, lenD, seqD, asL, isInst, tyName, clsName, iterK, itPlain, itEnum, itZip, itRange, itRange2, iterD, gdR, D.isNon, Tm.isCnon, partD, clKind, getSlots, insOf, opFld, line, wipeE, wipeC, endL, opMth, mtOk, mSplit, mJoin, mAppend, mExtend, mGet, strJoin, fmtR, fmtD, blsD, intsD, strsD, permBy, plus, dF]
@[simp] theorem all_tt {α : Type} (l : List α) : (l.all fun _ => true) = true := List.all_eq_true.mpr fun _ _ => rfl
/-- sums that stay small -/
theorem total_ok (k : Nat) {n : Nat} {l : List Fr} (S : Store) (hl : ∀ f ∈ l, IsFr f ∧ BF n f) (hp : ∀ j, j ≤ l.length → BF n (MM.total (l.take j))) (hn : n + n < 9000) : (lev tx (k + 3)).fn (Str.ofString "total") [dFs l] S = .ok (dF (MM.total l)) S := by
  rw [fn_total]
  have h0 : ex (lev tx (k + 2)) b_total_0 [some (dFs l), none, none] S = .ok (.nx [some (dFs l), some (dF (0, 1)), none]) S := by
    simp [b_total_0, fnF, exs, ex, ev, evF, seqF, asnG, asnGs, opBlt, bGcd, bLen, bAll, bAny, bSum, bIsI, bAbs, bMax, bMin, bInt, bStr, bTuple, bList, bDivmod, bSorted, optR, opCmp, ltD, opBin, opAdd, opIx, opSl, startE, retF, retR, leave, leaveOk, D.hasClo, D.hasCloL, lenD, seqD, asL, isInst, tyName, clsName, iterK, itPlain, itEnum, itZip, itRange, itRange2, iterD, gdR, D.isNon, Tm.isCnon, partD, clKind, getSlots, insOf, opFld, line, wipeE, wipeC, endL, opMth, mtOk, mSplit, mJoin, mAppend, mExtend, mGet, strJoin, fmtR, fmtD, blsD, intsD, strsD, permBy, dF]
  obtain ⟨δ', S', h1, h2⟩ := ex_for1 (g := lev tx (k + 2)) (v := 2) (it := .var 0) (b := q_total_1) (δ := [some (dFs l), some (dF (0, 1)), none]) (S := S) (x := dFs l) (l := l.map dF) (P := fun j δ S' => S' = S ∧ IsFr (MM.total (l.take j)) ∧ ∃ x, δ = [some (dFs l), some (dF (MM.total (l.take j))), x])
    (by simp [fnF, exs, ex, ev, evF, seqF, asnG, asnGs, opBlt, bGcd, bLen, bAll, bAny, bSum, bIsI, bAbs, bMax, bMin, bInt, bStr, bTuple, bList, bDivmod, bSorted, optR, opCmp, ltD, opBin, opAdd, opIx, opSl, startE, retF, retR, leave, leaveOk, D.hasClo, D.hasCloL, lenD, seqD, asL, isInst, tyName, clsName, iterK, itPlain, itEnum, itZip, itRange, itRange2, iterD, gdR, D.isNon, Tm.isCnon, partD, clKind, getSlots, insOf, opFld, line, wipeE, wipeC, endL, opMth, mtOk, mSplit, mJoin, mAppend, mExtend, mGet, strJoin, fmtR, fmtD, blsD, intsD, strsD, permBy]) (by simp [dFs, iterD]) rfl ⟨rfl, (show IsFr (0, 1) from ⟨by decide, by decide⟩), none, rfl⟩ (fun d hd => by
      obtain ⟨f, _, rfl⟩ := List.mem_map.mp hd
      rfl) (fun j d δ S' hj ⟨hS, hfr, x, hδ⟩ => by
      subst hS
      subst hδ
      rw [List.getElem?_map] at hj
      obtain ⟨f, hf, rfl⟩ := Option.map_eq_some_iff.mp hj
      have hlt := (List.getElem?_eq_some_iff.mp hf).1
      have hm := hl f (List.mem_of_getElem? hf)
      have hst : MM.total (l.take (j + 1)) = MM.plus (MM.total (l.take j)) f := by
        unfold MM.total
        rw [List.take_succ, hf, Option.toList, List.foldl_append]
        rfl
      have hc := plus_ok k S' hfr hm.1 (hp j (by omega)) hm.2 hn
      refine ⟨_, S', ?_, rfl, by rw [hst]; exact plus_fr hfr hm.1, some (dF f), rfl⟩
      simp [q_total_1, b_total_1_0, fnF, exs, ex, ev, evF, seqF, asnG, asnGs, opBlt, bGcd, bLen, bAll, bAny, bSum, bIsI, bAbs, bMax, bMin, bInt, bStr, bTuple, bList, bDivmod, bSorted, optR, opCmp, ltD, opBin, opAdd, opIx, opSl, startE, retF, retR, leave, leaveOk, D.hasClo, D.hasCloL, lenD, seqD, asL, isInst, tyName, clsName, iterK, itPlain, itEnum, itZip, itRange, itRange2, iterD, gdR, D.isNon, Tm.isCnon, partD, clKind, getSlots, insOf, opFld, line, wipeE, wipeC, endL, opMth, mtOk, mSplit, mJoin, mAppend, mExtend, mGet, strJoin, fmtR, fmtD, blsD, intsD, strsD, permBy, hc, hst])
  obtain ⟨hS, _, x, hδ⟩ := h2
  subst hS
  subst hδ
  rw [List.length_map, List.take_length] at h1
  have h3 : ex (lev tx (k + 2)) b_total_1 [some (dFs l), some (dF (0, 1)), none] S' = .ok (.nx [some (dFs l), some (dF (MM.total l)), x]) S' := h1
  simp [r_total, fnF, exs, seqF, startE, h0, h3]
  simp [b_total_2, fnF, exs, ex, ev, evF, seqF, asnG, asnGs, opBlt, bGcd, bLen, bAll, bAny, bSum, bIsI, bAbs, bMax, bMin, bInt, bStr, bTuple, bList, bDivmod, bSorted, optR, opCmp, ltD, opBin, opAdd, opIx, opSl, startE, retF, retR, leave, leaveOk, D.hasClo, D.hasCloL, lenD, seqD, asL, isInst, tyName, clsName, iterK, itPlain, itEnum, itZip, itRange, itRange2, iterD, gdR, D.isNon, Tm.isCnon, partD, clKind, getSlots, insOf, opFld, line, wipeE, wipeC, endL, opMth, mtOk, mSplit, mJoin, mAppend, mExtend, mGet, strJoin, fmtR, fmtD, blsD, intsD, strsD, permBy]
theorem is_sum_ok (k : Nat) {f : Fr} (S : Store) (hf : IsFr f) (h0 : 0 ≤ f.1) : (lev tx (k + 4)).fn (Str.ofString "is_sum") [dF f] S = .ok (.bl true) S := by
  rw [fn_is_sum]
  have h1 := is_fraction_ok k S hf
  simp [r_is_sum, b_is_sum_0, fnF, exs, ex, ev, evF, seqF, asnG, asnGs, opBlt, bGcd, bLen, bAll, bAny, bSum, bIsI, bAbs, bMax, bMin, bInt, bStr, bTuple, bList, bDivmod, bSorted, optR, opCmp, ltD, opBin, opAdd, opIx, opSl, startE, retF, retR, leave, leaveOk, D.hasClo, D.hasCloL, lenD, seqD, asL, isInst, tyName, clsName, iterK, itPlain, itEnum, itZip, itRange, itRange2, iterD, gdR, D.isNon, Tm.isCnon, partD, clKind, getSlots, insOf, opFld, line, wipeE, wipeC, endL, opMth, mtOk, mSplit, mJoin, mAppend, mExtend, mGet, strJoin, fmtR, fmtD, blsD, intsD, strsD, permBy, h1]
  simp [dF, fnF, exs, ex, ev, evF, seqF, asnG, asnGs, opBlt, bGcd, bLen, bAll, bAny, bSum, bIsI, bAbs, bMax, bMin, bInt, bStr, bTuple, bList, bDivmod, bSorted, optR, opCmp, ltD, opBin, opAdd, opIx, opSl, startE, retF, retR, leave, leaveOk, D.hasClo, D.hasCloL, lenD, seqD, asL, isInst, tyName, clsName, iterK, itPlain, itEnum, itZip, itRange, itRange2, iterD, gdR, D.isNon, Tm.isCnon, partD, clKind, getSlots, insOf, opFld, line, wipeE, wipeC, endL, opMth, mtOk, mSplit, mJoin, mAppend, mExtend, mGet, strJoin, fmtR, fmtD, blsD, intsD, strsD, permBy, h0]
structure IsRow (n : Nat) (l : List Fr) : Prop where
  len : l.length = n
  fr : ∀ f ∈ l, IsFr f ∧ 0 ≤ f.1 ∧ BF 60 f
  tot : ∀ j, j ≤ l.length → BF 60 (MM.total (l.take j))
  one : MM.total l = (1, 1)
theorem is_row_ok (k : Nat) {p : List (List Nat)} {l : List Fr} (S : Store) (h : IsRow p.length l) (h5 : p.length ≤ 5) : (lev tx (k + 5)).fn (Str.ofString "is_row") [dN p, dFs l] S = .ok (.bl true) S := by
  rw [fn_is_row]
  have h1 : (lev tx (k + 4)).fn (Str.ofString "is_tuple_of") [dFs l, .int (p.length : Int)] S = .ok (.bl true) S := is_tuple_of_ok (k + 3) (l.map dF) _ S (hasCloL_map dF_clo l) (by rw [List.length_map, h.len])
  have h2 : ev (lev tx (k + 4)) t_is_row_0 [some (dN p), some (dFs l), none] S = .ok (.lst (l.map fun _ => .bl true)) S := by
    refine ev_lca (enc := dF) (f := fun _ => .bl true) l (x := dFs l) (by simp [fnF, exs, ex, ev, evF, seqF, asnG, asnGs, opBlt, bGcd, bLen, bAll, bAny, bSum, bIsI, bAbs, bMax, bMin, bInt, bStr, bTuple, bList, bDivmod, bSorted, optR, opCmp, ltD, opBin, opAdd, opIx, opSl, startE, retF, retR, leave, leaveOk, D.hasClo, D.hasCloL, lenD, seqD, asL, isInst, tyName, clsName, iterK, itPlain, itEnum, itZip, itRange, itRange2, iterD, gdR, D.isNon, Tm.isCnon, partD, clKind, getSlots, insOf, opFld, line, wipeE, wipeC, endL, opMth, mtOk, mSplit, mJoin, mAppend, mExtend, mGet, strJoin, fmtR, fmtD, blsD, intsD, strsD, permBy]) (by simp [dFs, iterD]) rfl (fun a ha => ⟨rfl, ?_, rfl⟩) (by rw [h.len]; show p.length ≤ 16777216; omega)
    have hc := is_sum_ok k S (h.fr a ha).1 (h.fr a ha).2.1
    simp [fnF, exs, ex, ev, evF, seqF, asnG, asnGs, opBlt, bGcd, bLen, bAll, bAny, bSum, bIsI, bAbs, bMax, bMin, bInt, bStr, bTuple, bList, bDivmod, bSorted, optR, opCmp, ltD, opBin, opAdd, opIx, opSl, startE, retF, retR, leave, leaveOk, D.hasClo, D.hasCloL, lenD, seqD, asL, isInst, tyName, clsName, iterK, itPlain, itEnum, itZip, itRange, itRange2, iterD, gdR, D.isNon, Tm.isCnon, partD, clKind, getSlots, insOf, opFld, line, wipeE, wipeC, endL, opMth, mtOk, mSplit, mJoin, mAppend, mExtend, mGet, strJoin, fmtR, fmtD, blsD, intsD, strsD, permBy, hc]
  have h3 : blsD (l.map fun _ => D.bl true) = some (l.map fun _ => true) := bls_map (fun _ => true) l
  have h4 := total_ok (k + 1) S (fun f hf => ⟨(h.fr f hf).1, (h.fr f hf).2.2⟩) h.tot (by decide)
  have h6 : lenD S (dN p) = some p.length := by simp [dN, lenD]
  have h7 : eqD S (dF (MM.total l)) (.tup [.int 1, .int 1]) = some true := by
    rw [h.one]
    exact eqD_pln rfl rfl
  simp [r_is_row, b_is_row_0, fnF, exs, seqF, startE, ex, ev, opBlt, bLen, h6, h1, h2, h4, optR, bAll, asL, h3, opCmp, h7, retF, retR, leave, leaveOk, D.hasClo]
/-! ### names -/
def letters : List Nat := "abcdefghijklmnopqrstuvwxyz".toList.map Char.toNat
def wordsN : List (List Nat) := ["agree", "all", "back", "beat", "book", "case", "circle", "end", "firm", "group", "hear", "in", "last", "mean", "meet", "middle", "mind", "near", "none", "of", "out", "people", "quit", "rest", "rhythm", "row", "say", "spread", "swing", "take", "trust", "undo", "web", "weight", "yes"].map fun w => w.toList.map Char.toNat
theorem con_WORDSN (k : Nat) : (lev tx k).con (Str.ofString "WORDS") = some (dN wordsN) := by rw [lev_con]; kernel_rfl
theorem lettersS : Str.ofString "abcdefghijklmnopqrstuvwxyz" = S letters := by kernel_rfl
theorem words_asc : ∀ c ∈ wordsN, Asc c := by
  have : wordsN.all (fun c => c.all fun x => decide (x < 0x110000)) = true := by kernel_rfl
  intro c hc x hx
  exact of_decide_eq_true (List.all_eq_true.mp (List.all_eq_true.mp this c hc) x hx)
structure IsWord (c : List Nat) : Prop where
  ne : c ≠ []
  le : c.length ≤ 8
  let_ : ∀ x ∈ c, x ∈ letters
theorem letters_lt : ∀ x ∈ letters, x < 256 := by
  have : letters.all (fun x => decide (x < 256)) = true := by kernel_rfl
  intro x hx
  exact of_decide_eq_true (List.all_eq_true.mp this x hx)
theorem IsWord.asc {c : List Nat} (h : IsWord c) : Asc c := fun x hx => by
  have := letters_lt x (h.let_ x hx)
  omega
theorem S_iter (c : List Nat) : iterD [] (dS c) = some (c.map fun x => dS [x]) := rfl
theorem isIn_one (x : Nat) (a : List Nat) : isIn (S [x]) (S a) = decide (x ∈ a) := in_one a x
theorem is_word_ok (k : Nat) {c : List Nat} (s : Store) (h : IsWord c) : (lev tx (k + 1)).fn (Str.ofString "is_word") [dS c] s = .ok (.bl true) s := by
  rw [fn_is_word]
  have h1 : ev (lev tx k) t_is_word_0 [some (dS c), none] s = .ok (.lst (c.map fun _ => .bl true)) s := by
    refine ev_lca (enc := fun x => dS [x]) (f := fun _ => .bl true) c (x := dS c) (by simp [fnF, exs, ex, ev, evF, seqF, asnG, asnGs, opBlt, bGcd, bLen, bAll, bAny, bSum, bIsI, bAbs, bMax, bMin, bInt, bStr, bTuple, bList, bDivmod, bSorted, optR, opCmp, ltD, opBin, opAdd, opIx, opSl, startE, retF, retR, leave, leaveOk, D.hasClo, D.hasCloL, lenD, seqD, asL, isInst, tyName, clsName, iterK, itPlain, itEnum, itZip, itRange, itRange2, iterD, gdR, D.isNon, Tm.isCnon, partD, clKind, getSlots, insOf, opFld, line, wipeE, wipeC, endL, opMth, mtOk, mSplit, mJoin, mAppend, mExtend, mGet, strJoin, fmtR, fmtD, blsD, intsD, strsD, permBy]) (by simp [dS, iterD]) rfl (fun a ha => ⟨rfl, ?_, rfl⟩) (by have := h.le; show c.length ≤ 16777216; omega)
    have hi : inD s (dS [a]) (.str (S letters)) = some true := by
      show some (isIn (S [a]) (S letters)) = some true
      rw [isIn_one, decide_eq_true (h.let_ a ha)]
    simp [fnF, exs, ex, ev, evF, seqF, asnG, asnGs, opBlt, bGcd, bLen, bAll, bAny, bSum, bIsI, bAbs, bMax, bMin, bInt, bStr, bTuple, bList, bDivmod, bSorted, optR, opCmp, ltD, opBin, opAdd, opIx, opSl, startE, retF, retR, leave, leaveOk, D.hasClo, D.hasCloL, lenD, seqD, asL, isInst, tyName, clsName, iterK, itPlain, itEnum, itZip, itRange, itRange2, iterD, gdR, D.isNon, Tm.isCnon, partD, clKind, getSlots, insOf, opFld, line, wipeE, wipeC, endL, opMth, mtOk, mSplit, mJoin, mAppend, mExtend, mGet, strJoin, fmtR, fmtD, blsD, intsD, strsD, permBy, lettersS, hi]
  have h3 : blsD (c.map fun _ => D.bl true) = some (c.map fun _ => true) := bls_map (fun _ => true) c
  have h4 : eqD s (dS c) (.str (Str.ofString "")) = some false := by
    rw [show D.str (Str.ofString "") = dS [] from rfl, eqD_pln (dS_pln h.asc 60) (dS_pln (fun _ hx => absurd hx List.not_mem_nil) 60), decide_eq_false (fun z => h.ne (dS_inj.mp z))]
  have h5 : isInst (lev tx k) s (dS c) (.ty "str") = some true := by
    simp [isInst, dS, tyName]
  simp [r_is_word, b_is_word_0, fnF, exs, seqF, startE, ex, ev, opBlt, bIsI, h5, h1, optR, bAll, asL, h3, opCmp, h4, retF, retR, leave, leaveOk, D.hasClo]
structure IsName (c : List Nat) : Prop where
  w : IsWord c
  no : c ∉ wordsN
theorem mem_dN {c : List Nat} {l : List (List Nat)} : dS c ∈ l.map dS ↔ c ∈ l := by
  constructor
  · intro h
    obtain ⟨d, hd, e⟩ := List.mem_map.mp h
    rw [← dS_inj.mp e]
    exact hd
  · exact fun h => List.mem_map.mpr ⟨c, h, rfl⟩
theorem len_S {c : List Nat} (s : Store) (h : c.length ≤ 16777216) : lenD s (dS c) = some c.length := by
  unfold dS lenD
  dsimp only
  rw [S_len]
  exact if_pos h
theorem is_name_ok (k : Nat) {c : List Nat} (s : Store) (h : IsName c) : (lev tx (k + 2)).fn (Str.ofString "is_name") [dS c] s = .ok (.bl true) s := by
  rw [fn_is_name]
  have h1 := is_word_ok k s h.w
  have hl := h.w.le
  have h2 := len_S (c := c) s (by omega)
  have h3 : inD s (dS c) (dN wordsN) = some false := by
    unfold dN
    rw [inD_tup (fun _ => .inr trivial) (dS_pln h.w.asc 60) (plns_map fun a ha => dS_pln (words_asc a ha) 59), decide_eq_false (fun z => h.no (mem_dN.mp z))]
  have h4 : ltD (.int 8) (.int (c.length : Int)) = some false := by
    unfold ltD
    dsimp only
    rw [decide_eq_false (by omega)]
  simp [r_is_name, b_is_name_0, fnF, exs, seqF, startE, ex, ev, h1, opBlt, bLen, h2, optR, opCmp, h3, h4, con_WORDSN, -con_WORDS, retF, retR, leave, leaveOk, D.hasClo]
end LW
end
section
set_option Elab.async false
set_option linter.all false
set_option maxRecDepth 100000
set_option maxHeartbeats 1000000
/-! What is wrong in people, in trust, in minds; circles. -/
namespace LW
open PySem MM SX
theorem lt_lists {a b : List Nat} : ltD (dS a) (dS b) = some (decide (a < b)) := rfl
theorem take_last {α : Type} {l : List α} {j : Nat} {a : α} (h : l[j]? = some a) : l.take (j + 1) = l.take j ++ [a] := by rw [List.take_succ, h]; rfl
/-- each one behind the last of those ahead -/
theorem are_below_ok (k : Nat) {l : List (List Nat)} {j : Nat} {c : List Nat} (s : Store) (hj : l[j]? = some c) (hs : l.Pairwise (· < ·)) (ha : ∀ x ∈ l, Asc x) : (lev tx (k + 1)).fn (Str.ofString "are_below") [.tup ((l.take j).map dS), dS c] s = .ok (.bl true) s := by
  rw [fn_are_below]
  have hp : ∀ l : List (List Nat), (∀ x ∈ l, Asc x) → (D.tup (l.map dS)).pln 60 = true := fun l h => dN_pln h 59
  have he : eqD s (.tup ((l.take j).map dS)) (.tup []) = some (decide (D.tup ((l.take j).map dS) = .tup [])) := eqD_pln (hp _ fun x hx => ha x (List.mem_of_mem_take hx)) (hp [] fun _ hx => absurd hx List.not_mem_nil)
  cases j with
  | zero =>
    have he : eqD s (.tup []) (.tup []) = some true := he
    simp [r_are_below, b_are_below_0, fnF, exs, seqF, startE, ex, ev, opCmp, he, retF, retR, leave, leaveOk, D.hasClo]
  | succ i =>
    obtain ⟨hlt, hc⟩ := List.getElem?_eq_some_iff.mp hj
    have hi : l[i]? = some l[i] := List.getElem?_eq_getElem (by omega)
    rw [take_last hi, List.map_append] at he ⊢
    have he : eqD s (.tup ((l.take i).map dS ++ [dS l[i]])) (.tup []) = some false := by
      refine he.trans ?_
      rw [decide_eq_false]
      intro z
      have := D.tup.inj z
      simp at this
    have hl : l[i] < c := by
      rw [← hc]
      exact List.pairwise_iff_getElem.mp hs i (i + 1) (by omega) hlt (by omega)
    have h1 : L2.atI ((l.take i).map dS ++ [dS l[i]]) (-1) = some (dS l[i]) := atI_last
    have h2 : ltD (dS l[i]) (dS c) = some true := by rw [lt_lists, decide_eq_true hl]
    simp [r_are_below, b_are_below_0, fnF, exs, seqF, startE, ex, ev, opCmp, he, opIx, h1, h2, -List.map_take, retF, retR, leave, leaveOk, D.hasClo]
/-- a look that finds nothing wrong -/
theorem wrong_in_ok (k : Nat) {vs : List D} {least most : Int} {f : D} (S : Store) (hf : clKind (lev tx k) f = true) (hc : D.hasCloL vs = false) (h1 : least ≤ (vs.length : Int)) (h2 : (vs.length : Int) ≤ most)
    (h : ∀ j d, vs[j]? = some d → (lev tx k).cl f [.tup (vs.take j), d] S = .ok (.bl true) S) : (lev tx (k + 1)).fn (Str.ofString "wrong_in") [.tup vs, .int least, .int most, f] S = .ok (.lst []) S := by
  rw [fn_wrong_in]
  have e0 : ex (lev tx k) b_wrong_in_0 [some (.tup vs), some (.int least), some (.int most), some f, none, none] S = .ok (.nx [some (.tup vs), some (.int least), some (.int most), some f, none, none]) S := by
    have : ¬ ((vs.length : Int) < least) := by omega
    simp [b_wrong_in_0, fnF, exs, ex, ev, evF, seqF, asnG, asnGs, opBlt, bGcd, bLen, bAll, bAny, bSum, bIsI, bAbs, bMax, bMin, bInt, bStr, bTuple, bList, bDivmod, bSorted, optR, opCmp, ltD, opBin, opAdd, opIx, opSl, startE, retF, retR, leave, leaveOk, D.hasClo, D.hasCloL, lenD, seqD, asL, isInst, tyName, clsName, iterK, itPlain, itEnum, itZip, itRange, itRange2, iterD, gdR, D.isNon, Tm.isCnon, partD, clKind, getSlots, insOf, opFld, line, wipeE, wipeC, endL, opMth, mtOk, mSplit, mJoin, mAppend, mExtend, mGet, strJoin, fmtR, fmtD, blsD, intsD, strsD, permBy, this]
  have hcl : ∀ d ∈ vs, d.hasClo = false := by
    intro d hd
    cases hh : d.hasClo with
    | false => rfl
    | true =>
      have : ∀ l : List D, d ∈ l → D.hasCloL l = true := by
        intro l
        induction l with
        | nil => intro z; cases z
        | cons a l ih =>
          intro z
          unfold D.hasCloL
          rcases List.mem_cons.mp z with rfl | z
          · rw [hh]; rfl
          · rw [ih z, Bool.or_true]
      rw [this vs hd] at hc
      cases hc
  obtain ⟨δ', S', e1, hS, x, y, hδ⟩ := ex_for2 (g := lev tx k) (c := false) (v := 4) (w := 5) (ik := .enumerate) (it := [.var 0]) (b := q_wrong_in_1) (δ := [some (.tup vs), some (.int least), some (.int most), some f, none, none]) (S := S) (ex1 := fun a : D × Nat => .int ((a.2 : Nat) : Int)) (ex2 := fun a => a.1) (ys := [.tup vs])
    (P := fun j δ S' => S' = S ∧ ∃ x y, δ = [some (.tup vs), some (.int least), some (.int most), some f, x, y]) (vs.zipIdx 0) (by simp [ev]) (by
      unfold iterK
      dsimp only
      unfold itEnum
      dsimp only
      have := enum_map (fun d : D => d) vs 0
      rw [List.map_id'] at this
      rw [this]) ⟨rfl, none, none, rfl⟩ (fun a ha => ⟨rfl, hcl _ (by
        have := List.mem_zipIdx ha
        rw [this.2.2]
        exact List.getElem_mem _)⟩) (fun j a δ S' hj ⟨hS, x, y, hδ⟩ => by
      subst hS
      subst hδ
      rw [List.getElem?_zipIdx] at hj
      obtain ⟨d, hd, rfl⟩ := Option.map_eq_some_iff.mp hj
      refine ⟨_, S', ?_, rfl, some (.int ((0 + j : Nat) : Int)), some d, rfl⟩
      have hlt := (List.getElem?_eq_some_iff.mp hd).1
      have he : eqD S' (.int (((0 + j : Nat)) : Int)) (.int most) = some false := by
        rw [eqD_pln rfl rfl, decide_eq_false]
        intro z
        have := D.int.inj z
        omega
      have ht : cutD vs none (some (((0 + j : Nat)) : Int)) = vs.take j := by rw [cut_to, Nat.zero_add]
      have hcd := h j d hd
      simp only [Nat.zero_add] at *
      simp [q_wrong_in_1, b_wrong_in_1_0, exs, seqF, ex, ev, opCmp, he, hf, opSl, partD, Tm.isCnon, ht, hcd])
  subst hS
  subst hδ
  have e2 : ex (lev tx k) b_wrong_in_1 [some (.tup vs), some (.int least), some (.int most), some f, none, none] S' = _ := e1
  simp [r_wrong_in, fnF, exs, seqF, startE, e0, e2]
  simp [b_wrong_in_2, fnF, exs, ex, ev, evF, seqF, asnG, asnGs, opBlt, bGcd, bLen, bAll, bAny, bSum, bIsI, bAbs, bMax, bMin, bInt, bStr, bTuple, bList, bDivmod, bSorted, optR, opCmp, ltD, opBin, opAdd, opIx, opSl, startE, retF, retR, leave, leaveOk, D.hasClo, D.hasCloL, lenD, seqD, asL, isInst, tyName, clsName, iterK, itPlain, itEnum, itZip, itRange, itRange2, iterD, gdR, D.isNon, Tm.isCnon, partD, clKind, getSlots, insOf, opFld, line, wipeE, wipeC, endL, opMth, mtOk, mSplit, mJoin, mAppend, mExtend, mGet, strJoin, fmtR, fmtD, blsD, intsD, strsD, permBy]
theorem clo_leave {S : Store} {b : Bool} : leave S.length false (.ok (.bl b) S) = .ok (.bl b) S := by
  unfold leave leaveOk
  simp [D.hasClo]
theorem wrong_in_people_ok (k : Nat) {p : List (List Nat)} (S : Store) (h1 : 1 ≤ p.length) (h5 : p.length ≤ 5) (hn : ∀ c ∈ p, IsName c) (hs : p.Pairwise (· < ·)) : (lev tx (k + 5)).fn (Str.ofString "wrong_in_people") [dN p] S = .ok (.lst []) S := by
  rw [fn_wrong_in_people]
  have e := wrong_in_ok (k + 3) (vs := p.map dS) (least := 1) (most := 5) (f := .clo 1 []) S rfl (hasCloL_map dS_clo p) (by rw [List.length_map]; omega) (by rw [List.length_map]; omega) (fun j d hj => by
    rw [List.getElem?_map] at hj
    obtain ⟨c, hc, rfl⟩ := Option.map_eq_some_iff.mp hj
    rw [clo_wrong_in_people_0, ← List.map_take]
    have a1 := is_name_ok k S (hn c (List.mem_of_getElem? hc))
    have a2 := are_below_ok (k + 1) S hc hs (fun x hx => (hn x hx).w.asc)
    simp [cloF, l_wrong_in_people_0, ev, a1, a2, clo_leave, -List.map_take])
  rw [show D.tup (p.map dS) = dN p from rfl] at e
  simp [r_wrong_in_people, b_wrong_in_people_0, fnF, exs, ex, ev, evF, seqF, asnG, asnGs, opBlt, bGcd, bLen, bAll, bAny, bSum, bIsI, bAbs, bMax, bMin, bInt, bStr, bTuple, bList, bDivmod, bSorted, optR, opCmp, ltD, opBin, opAdd, opIx, opSl, startE, retF, retR, leave, leaveOk, D.hasClo, D.hasCloL, lenD, seqD, asL, isInst, tyName, clsName, iterK, itPlain, itEnum, itZip, itRange, itRange2, iterD, gdR, D.isNon, Tm.isCnon, partD, clKind, getSlots, insOf, opFld, line, wipeE, wipeC, endL, opMth, mtOk, mSplit, mJoin, mAppend, mExtend, mGet, strJoin, fmtR, fmtD, blsD, intsD, strsD, permBy, e]
theorem wrong_in_all_ok (k : Nat) {vs : List D} {n : Int} {f : D} (S : Store) (hf : clKind (lev tx k) f = true) (hc : D.hasCloL vs = false) (hn : (vs.length : Int) = n)
    (h : ∀ d ∈ vs, (lev tx k).cl f [d] S = .ok (.bl true) S) : (lev tx (k + 3)).fn (Str.ofString "wrong_in_all") [.tup vs, .int n, f] S = .ok (.lst []) S := by
  rw [fn_wrong_in_all]
  have e0 := is_tuple_of_ok (k + 1) vs n S hc hn
  have e := wrong_in_ok (k + 1) (vs := vs) (least := n) (most := n) (f := .clo 0 [f]) S rfl hc (by omega) (by omega) (fun j d hj => by
    rw [clo_wrong_in_all_0]
    have a1 := h d (List.mem_of_getElem? hj)
    simp [cloF, l_wrong_in_all_0, ev, hf, a1, clo_leave])
  simp [r_wrong_in_all, b_wrong_in_all_0, fnF, exs, ex, ev, evF, seqF, asnG, asnGs, opBlt, bGcd, bLen, bAll, bAny, bSum, bIsI, bAbs, bMax, bMin, bInt, bStr, bTuple, bList, bDivmod, bSorted, optR, opCmp, ltD, opBin, opAdd, opIx, opSl, startE, retF, retR, leave, leaveOk, D.hasClo, D.hasCloL, lenD, seqD, asL, isInst, tyName, clsName, iterK, itPlain, itEnum, itZip, itRange, itRange2, iterD, gdR, D.isNon, Tm.isCnon, partD, clKind, getSlots, insOf, opFld, line, wipeE, wipeC, endL, opMth, mtOk, mSplit, mJoin, mAppend, mExtend, mGet, strJoin, fmtR, fmtD, blsD, intsD, strsD, permBy, e0, e]
structure IsTrust (p : List (List Nat)) (t : List (List Fr)) : Prop where
  len : t.length = p.length
  row : ∀ r ∈ t, IsRow p.length r
theorem wrong_in_trust_ok (k : Nat) {p : List (List Nat)} {t : List (List Fr)} (S : Store) (h5 : p.length ≤ 5) (h : IsTrust p t) : (lev tx (k + 10)).fn (Str.ofString "wrong_in_trust") [dN p, dT t] S = .ok (.lst []) S := by
  rw [fn_wrong_in_trust]
  have e := wrong_in_all_ok (k + 6) (vs := t.map dFs) (n := (p.length : Int)) (f := .clo 2 [dN p]) S rfl (hasCloL_map dFs_clo t) (by rw [List.length_map, h.len]) (fun d hd => by
    obtain ⟨r, hr, rfl⟩ := List.mem_map.mp hd
    rw [clo_wrong_in_trust_0]
    have a1 := is_row_ok k S (h.row r hr) h5
    simp [cloF, l_wrong_in_trust_0, ev, a1, clo_leave])
  rw [show D.tup (t.map dFs) = dT t from rfl] at e
  have h6 : lenD S (dN p) = some p.length := by simp [dN, lenD]
  simp [r_wrong_in_trust, b_wrong_in_trust_0, fnF, exs, seqF, startE, ex, ev, opBlt, bLen, h6, optR, getSlots, e, retF, retR, leave, leaveOk, D.hasClo, D.hasCloL]
theorem wrong_in_minds_ok (k : Nat) {n : Nat} {m : List Fr} (S : Store) (hn : m.length = n) (h : ∀ f ∈ m, IsFr f) : (lev tx (k + 7)).fn (Str.ofString "wrong_in_minds") [dFs m, .int (n : Int)] S = .ok (.lst []) S := by
  rw [fn_wrong_in_minds]
  have e := wrong_in_all_ok (k + 3) (vs := m.map dF) (n := (n : Int)) (f := .glo (Str.ofString "is_fraction")) S (gk_is_fraction _) (hasCloL_map dF_clo m) (by rw [List.length_map, hn]) (fun d hd => by
    obtain ⟨r, hr, rfl⟩ := List.mem_map.mp hd
    rw [glo_is_fraction]
    exact is_fraction_ok k S (h r hr))
  rw [show D.tup (m.map dF) = dFs m from rfl] at e
  simp [r_wrong_in_minds, b_wrong_in_minds_0, q_wrong_in_minds_0_a, b_wrong_in_minds_0_a_0, fnF, exs, ex, ev, evF, seqF, asnG, asnGs, opBlt, bGcd, bLen, bAll, bAny, bSum, bIsI, bAbs, bMax, bMin, bInt, bStr, bTuple, bList, bDivmod, bSorted, optR, opCmp, ltD, opBin, opAdd, opIx, opSl, startE, retF, retR, leave, leaveOk, D.hasClo, D.hasCloL, lenD, seqD, asL, isInst, tyName, clsName, iterK, itPlain, itEnum, itZip, itRange, itRange2, iterD, gdR, D.isNon, Tm.isCnon, partD, clKind, getSlots, insOf, opFld, line, wipeE, wipeC, endL, opMth, mtOk, mSplit, mJoin, mAppend, mExtend, mGet, strJoin, fmtR, fmtD, blsD, intsD, strsD, permBy, e]
end LW
end
section
set_option Elab.async false
set_option linter.all false
set_option maxRecDepth 100000
set_option maxHeartbeats 1000000
/-! Circles as values. -/
namespace LW
open PySem MM SX
/-- all references are below the store's end -/
abbrev Sok (S : Store) : Prop := S.all (MO.under S.length) = true
structure IsCirc (p : List (List Nat)) (t : List (List Fr)) : Prop where
  one : 1 ≤ p.length
  five : p.length ≤ 5
  nam : ∀ c ∈ p, IsName c
  asc : p.Pairwise (· < ·)
  tr : IsTrust p t
theorem circle_ok (k : Nat) {p : List (List Nat)} {t : List (List Fr)} (S : Store) (hS : Sok S) (h : IsCirc p t) : (lev tx (k + 11)).fn (Str.ofString "Circle") [dN p, dT t] S = .ok (dC p t) S := by
  rw [ini_Circle]
  have a1 := wrong_in_people_ok (k + 5) (S ++ [.ins (Str.ofString "Circle") [] []]) h.one h.five h.nam h.asc
  have a2 := wrong_in_trust_ok k (S ++ [.ins (Str.ofString "Circle") [] []]) h.five h.tr
  have e : (S ++ [MO.ins (Str.ofString "Circle") [] []])[S.length]? = some (.ins (Str.ofString "Circle") [] []) := by simp
  have hb : fnF r_Circle___init__.N r_Circle___init__.ps false (exs (lev tx (k + 10)) r_Circle___init__.body) [.ref S.length, dN p, dT t] (S ++ [.ins (Str.ofString "Circle") [] []]) = .ok .non (S ++ [.ins (Str.ofString "Circle") [Str.ofString "all_told"] [dP p t]]) := by
    simp [r_Circle___init__, b_Circle___init___0, b_Circle___init___1, b_Circle___init___2, q_Circle___init___0, q_Circle___init___1, fnF, exs, seqF, startE, ex, ev, a1, a2, iterK, itPlain, iterD, gdR, forLoop, opFldPut, D.hasClo, D.hasCloL, putFD, retR, leave, leaveOk, dP, line]
  have hl : ¬ (S.length + 1 = S.length) := by omega
  have hu : ∀ m ∈ S, MO.under S.length m = true := List.all_eq_true.mp hS
  simp [mkF, D.hasCloL, hb, leave, leaveOk, D.hasClo, frz, D.under, D.underL, dC]
  exact hu
theorem people_of (k : Nat) {p : List (List Nat)} {t : List (List Fr)} (S : Store) : opFld (lev tx (k + 1)) (dC p t) (Str.ofString "people") S = .ok (dN p) S := by
  have : (lev tx (k + 1)).me (Str.ofString "Circle") (Str.ofString "people") (dC p t) [] S = .ok (dN p) S := by
    rw [me_Circle_people]
    simp [r_Circle_people, b_Circle_people_0, fnF, exs, ex, ev, evF, seqF, asnG, asnGs, opBlt, bGcd, bLen, bAll, bAny, bSum, bIsI, bAbs, bMax, bMin, bInt, bStr, bTuple, bList, bDivmod, bSorted, optR, opCmp, ltD, opBin, opAdd, opIx, opSl, startE, retF, retR, leave, leaveOk, D.hasClo, D.hasCloL, lenD, seqD, asL, isInst, tyName, clsName, iterK, itPlain, itEnum, itZip, itRange, itRange2, iterD, gdR, D.isNon, Tm.isCnon, partD, clKind, getSlots, insOf, opFld, line, wipeE, wipeC, endL, opMth, mtOk, mSplit, mJoin, mAppend, mExtend, mGet, strJoin, fmtR, fmtD, blsD, intsD, strsD, permBy, dC, dP]
  unfold opFld
  rw [show insOf S (dC p t) = some (Str.ofString "Circle", [Str.ofString "all_told"], [dP p t]) from rfl]
  simp [this]
theorem trust_of (k : Nat) {p : List (List Nat)} {t : List (List Fr)} (S : Store) : opFld (lev tx (k + 1)) (dC p t) (Str.ofString "trust") S = .ok (dT t) S := by
  have : (lev tx (k + 1)).me (Str.ofString "Circle") (Str.ofString "trust") (dC p t) [] S = .ok (dT t) S := by
    rw [me_Circle_trust]
    simp [r_Circle_trust, b_Circle_trust_0, fnF, exs, ex, ev, evF, seqF, asnG, asnGs, opBlt, bGcd, bLen, bAll, bAny, bSum, bIsI, bAbs, bMax, bMin, bInt, bStr, bTuple, bList, bDivmod, bSorted, optR, opCmp, ltD, opBin, opAdd, opIx, opSl, startE, retF, retR, leave, leaveOk, D.hasClo, D.hasCloL, lenD, seqD, asL, isInst, tyName, clsName, iterK, itPlain, itEnum, itZip, itRange, itRange2, iterD, gdR, D.isNon, Tm.isCnon, partD, clKind, getSlots, insOf, opFld, line, wipeE, wipeC, endL, opMth, mtOk, mSplit, mJoin, mAppend, mExtend, mGet, strJoin, fmtR, fmtD, blsD, intsD, strsD, permBy, dC, dP]
  unfold opFld
  rw [show insOf S (dC p t) = some (Str.ofString "Circle", [Str.ofString "all_told"], [dP p t]) from rfl]
  simp [this]
theorem parts_of (k : Nat) {p : List (List Nat)} {t : List (List Fr)} (S : Store) : opFld (lev tx (k + 1)) (dC p t) (Str.ofString "parts") S = .ok (dP p t) S := by
  have : (lev tx (k + 1)).me (Str.ofString "Circle") (Str.ofString "parts") (dC p t) [] S = .ok (dP p t) S := by
    rw [me_Circle_parts]
    simp [r_Circle_parts, b_Circle_parts_0, fnF, exs, ex, ev, evF, seqF, asnG, asnGs, opBlt, bGcd, bLen, bAll, bAny, bSum, bIsI, bAbs, bMax, bMin, bInt, bStr, bTuple, bList, bDivmod, bSorted, optR, opCmp, ltD, opBin, opAdd, opIx, opSl, startE, retF, retR, leave, leaveOk, D.hasClo, D.hasCloL, lenD, seqD, asL, isInst, tyName, clsName, iterK, itPlain, itEnum, itZip, itRange, itRange2, iterD, gdR, D.isNon, Tm.isCnon, partD, clKind, getSlots, insOf, opFld, line, wipeE, wipeC, endL, opMth, mtOk, mSplit, mJoin, mAppend, mExtend, mGet, strJoin, fmtR, fmtD, blsD, intsD, strsD, permBy, dC]
  unfold opFld
  rw [show insOf S (dC p t) = some (Str.ofString "Circle", [Str.ofString "all_told"], [dP p t]) from rfl]
  simp [this]
theorem dP_pln {p : List (List Nat)} {t : List (List Fr)} (h : ∀ c ∈ p, Asc c) (k : Nat) : (dP p t).pln (k + 4) = true := by
  unfold dP D.pln D.plns
  rw [dN_pln h (k + 2)]
  unfold D.plns
  rw [dT_pln t k]
  rfl
theorem is_circle (g : GE) (S : Store) (p : List (List Nat)) (t : List (List Fr)) (h1 : g.cls.contains (Str.ofString "Circle") = true) (h2 : g.sub (Str.ofString "Circle") (Str.ofString "Circle") = true) : isInst g S (dC p t) (.glo (Str.ofString "Circle")) = some true := by
  unfold isInst
  dsimp only
  rw [if_pos h1, show tyName S (dC p t) = none from rfl, show clsName S (dC p t) = some (Str.ofString "Circle") from rfl]
  dsimp only
  rw [if_pos h1, h2]
/-- == of circles: that of the parts -/
theorem oeq_ok (k : Nat) {p q : List (List Nat)} {t u : List (List Fr)} (S : Store) (hp : ∀ c ∈ p, Asc c) (hq : ∀ c ∈ q, Asc c) (ng : Bool) : opOeq (lev tx (k + 2)) ng (dC p t) (dC q u) S = .ok (.bl (ng != decide (dP p t = dP q u))) S := by
  have : (lev tx (k + 2)).me (Str.ofString "Circle") (Str.ofString "__eq__") (dC p t) [dC q u] S = .ok (.bl (decide (dP p t = dP q u))) S := by
    rw [met_Circle___eq__]
    have h1 := is_circle (lev tx (k + 1)) S q u (cls_Circle _) (sub_Circle_Circle _)
    have h2 : eqD S (dP p t) (dP q u) = some (decide (dP p t = dP q u)) := eqD_pln (dP_pln hp 56) (dP_pln hq 56)
    have h3 := parts_of k (p := p) (t := t) S
    have h4 := parts_of k (p := q) (t := u) S
    simp [r_Circle___eq__, b_Circle___eq___0, fnF, exs, seqF, startE, ex, ev, opBlt, bIsI, h1, optR, h3, h4, opCmp, h2, retF, retR, leave, leaveOk, D.hasClo]
  unfold opOeq
  rw [show clsName S (dC p t) = some (Str.ofString "Circle") from rfl]
  dsimp only
  have hb : oeB (lev tx (k + 2)) S ng (Str.ofString "Circle") (dC q u) = true := by
    unfold oeB
    rw [oe_Circle]
    cases ng with
    | true =>
      show decide (some (Str.ofString "Circle") = some (Str.ofString "Circle")) = true
      exact decide_eq_true rfl
    | false =>
      show (false || ((some (Str.ofString "Circle")).map (lev tx (k + 2)).cls.contains).getD false) = true
      rw [Option.map_some, cls_Circle]
      rfl
  rw [if_pos hb]
  simp [this]
theorem check_circle_ok (k : Nat) {p : List (List Nat)} {t : List (List Fr)} (S : Store) : (lev tx (k + 1)).fn (Str.ofString "check_circle") [dC p t] S = .ok .non S := by
  rw [fn_check_circle]
  have h1 := is_circle (lev tx k) S p t (cls_Circle _) (sub_Circle_Circle _)
  simp [r_check_circle, b_check_circle_0, fnF, exs, seqF, startE, ex, ev, opBlt, bIsI, h1, optR, retF, retR, leave, leaveOk, D.hasClo]
theorem check_minds_ok (k : Nat) {p : List (List Nat)} {t : List (List Fr)} {m : List Fr} (S : Store) (hn : m.length = p.length) (h : ∀ f ∈ m, IsFr f) : (lev tx (k + 8)).fn (Str.ofString "check_minds") [dC p t, dFs m] S = .ok .non S := by
  rw [fn_check_minds]
  have h1 := check_circle_ok (k + 6) (p := p) (t := t) S
  have h2 := people_of (k + 6) (p := p) (t := t) S
  have h3 : lenD S (dN p) = some p.length := by simp [dN, lenD]
  have h4 := wrong_in_minds_ok k S hn h
  simp [r_check_minds, b_check_minds_0, b_check_minds_1, q_check_minds_1, fnF, exs, seqF, startE, ex, ev, h1, h2, opBlt, bLen, h3, optR, h4, iterK, itPlain, iterD, gdR, forLoop, retF, retR, leave, leaveOk, D.hasClo]
theorem made_ok (k : Nat) {p : List (List Nat)} {t : List (List Fr)} (S : Store) (hS : Sok S) (h : IsCirc p t) : (lev tx (k + 12)).fn (Str.ofString "_law_made") [dP p t] S = .ok (dC p t) S := by
  rw [fn__law_made]
  have h1 := circle_ok k S hS h
  have h2 : opIx S (dP p t) (.int 0) = .ok (dN p) S := by simp [opIx, dP]
  have h3 : opIx S (dP p t) (.int 1) = .ok (dT t) S := by simp [opIx, dP]
  simp [r__law_made, b__law_made_0, fnF, exs, seqF, startE, ex, ev, h1, h2, h3, retF, retR, leave, leaveOk]
end LW
end
section
set_option Elab.async false
set_option linter.all false
set_option maxRecDepth 100000
set_option maxHeartbeats 1000000
/-! Lines of texts. -/
namespace LW
open PySem MM SX
def figs : List Nat := [48, 49, 50, 51, 52, 53, 54, 55, 56, 57]
theorem figsS : Str.ofString "0123456789" = S figs := by kernel_rfl
theorem zeroS : Str.ofString "0" = S [48] := by kernel_rfl
theorem minusS : Str.ofString "-" = S [45] := by kernel_rfl
theorem spaceS : Str.ofString " " = S [32] := by kernel_rfl
theorem emptyS : Str.ofString "" = S [] := by kernel_rfl
theorem eq_dS {s : Store} {a b : List Nat} (ha : Asc a) (hb : Asc b) : eqD s (dS a) (dS b) = some (decide (a = b)) := by
  rw [eqD_pln (dS_pln ha 60) (dS_pln hb 60)]
  exact congrArg some (decide_eq_decide.mpr dS_inj)
theorem asc_nil : Asc [] := fun _ h => absurd h List.not_mem_nil
theorem asc_one {x : Nat} (h : x < 1000) : Asc [x] := fun y hy => by
  rw [List.mem_singleton.mp hy]
  omega
theorem in_figs {x : Nat} : (decide (x ∈ figs)) = (decide (48 ≤ x) && decide (x ≤ 57)) := by
  rw [Bool.eq_iff_iff, Bool.and_eq_true, decide_eq_true_eq, decide_eq_true_eq, decide_eq_true_eq]
  constructor
  · intro h
    simp [figs] at h
    omega
  · intro h
    simp [figs]
    omega
theorem fig_all (k : Nat) (c : List Nat) (s : Store) (hl : c.length ≤ 16777216) : ev (lev tx k) t_is_figures_0 [some (dS c), none] s = .ok (.lst (c.map fun x => .bl (decide (x ∈ figs)))) s := by
  refine ev_lca (enc := fun x => dS [x]) (f := fun x => .bl (decide (x ∈ figs))) c (x := dS c) (by simp [fnF, exs, ex, ev, evF, seqF, asnG, asnGs, opBlt, bGcd, bLen, bAll, bAny, bSum, bIsI, bAbs, bMax, bMin, bInt, bStr, bTuple, bList, bDivmod, bSorted, optR, opCmp, ltD, opBin, opAdd, opIx, opSl, startE, retF, retR, leave, leaveOk, D.hasClo, D.hasCloL, lenD, seqD, asL, isInst, tyName, clsName, iterK, itPlain, itEnum, itZip, itRange, itRange2, iterD, gdR, D.isNon, Tm.isCnon, partD, clKind, getSlots, insOf, opFld, line, wipeE, wipeC, endL, opMth, mtOk, mSplit, mJoin, mAppend, mExtend, mGet, strJoin, fmtR, fmtD, blsD, intsD, strsD, permBy]) (by simp [dS, iterD]) rfl (fun a ha => ⟨rfl, ?_, rfl⟩) hl
  have hi : inD s (dS [a]) (.str (S figs)) = some (decide (a ∈ figs)) := by
    show some (isIn (S [a]) (S figs)) = _
    rw [isIn_one]
  simp [fnF, exs, ex, ev, evF, seqF, asnG, asnGs, opBlt, bGcd, bLen, bAll, bAny, bSum, bIsI, bAbs, bMax, bMin, bInt, bStr, bTuple, bList, bDivmod, bSorted, optR, opCmp, ltD, opBin, opAdd, opIx, opSl, startE, retF, retR, leave, leaveOk, D.hasClo, D.hasCloL, lenD, seqD, asL, isInst, tyName, clsName, iterK, itPlain, itEnum, itZip, itRange, itRange2, iterD, gdR, D.isNon, Tm.isCnon, partD, clKind, getSlots, insOf, opFld, line, wipeE, wipeC, endL, opMth, mtOk, mSplit, mJoin, mAppend, mExtend, mGet, strJoin, fmtR, fmtD, blsD, intsD, strsD, permBy, figsS, hi]
theorem is_figures_ok (k : Nat) {n : Nat} (s : Store) (h : (TL.numL n).length ≤ 400) : (lev tx (k + 1)).fn (Str.ofString "is_figures") [dS (TL.numL n)] s = .ok (.bl true) s := by
  rw [fn_is_figures]
  have hd := TL.numL_digits n
  have ha : Asc (TL.numL n) := fun x hx => by have := hd x hx; omega
  have h1 : eqD s (dS (TL.numL n)) (.str (Str.ofString "")) = some false := by
    rw [emptyS]
    refine (eq_dS ha asc_nil).trans ?_
    rw [decide_eq_false (TL.numL_ne n)]
  have h2 := len_S (c := TL.numL n) s (by omega)
  have h3 : ltD (.int 400) (.int ((TL.numL n).length : Int)) = some false := by
    unfold ltD
    dsimp only
    rw [decide_eq_false (by omega)]
  have h4 := fig_all k (TL.numL n) s (by omega)
  have h5 : blsD ((TL.numL n).map fun x => .bl (decide (x ∈ figs))) = some ((TL.numL n).map fun x => decide (x ∈ figs)) := bls_map _ _
  have h6 : (((TL.numL n).map fun x => decide (x ∈ figs)).all id) = true := by
    rw [List.all_map, List.all_eq_true]
    intro x hx
    show decide (x ∈ figs) = true
    rw [in_figs]
    have := hd x hx
    rw [decide_eq_true this.1, decide_eq_true this.2]
    rfl
  have h7 : eqD s (dS (TL.numL n)) (.str (Str.ofString "0")) = some (decide (TL.numL n = [48])) := by
    rw [zeroS]
    exact eq_dS ha (asc_one (by decide))
  by_cases hz : TL.numL n = [48]
  · have h7 : eqD s (dS (TL.numL n)) (.str (Str.ofString "0")) = some true := by rw [h7, decide_eq_true hz]
    simp [r_is_figures, b_is_figures_0, q_is_figures_0_a, b_is_figures_0_a_0, b_is_figures_1, fnF, exs, seqF, startE, ex, ev, opCmp, h1, opBlt, bLen, h2, optR, h3, h4, bAll, asL, h5, h6, h7, retF, retR, leave, leaveOk, D.hasClo, -List.all_map, -List.map_map]
  · have h7 : eqD s (dS (TL.numL n)) (.str (Str.ofString "0")) = some false := by rw [h7, decide_eq_false hz]
    have hn : 0 < n := by
      by_cases z : n = 0
      · subst z
        exact absurd (TL.numL_lt (by decide : 0 < 10)) hz
      · omega
    obtain ⟨c, r, e, hc⟩ := numL_head hn
    have h8 : opIx s (dS (TL.numL n)) (.int 0) = .ok (dS [c]) s := by
      have hl : (S (TL.numL n)).length ≤ line := by rw [S_len]; show _ ≤ 16777216; omega
      unfold dS opIx
      dsimp only
      rw [if_pos hl, e, atI_0]
    have hcc : c < 1000 := by
      have := hd c (by rw [e]; exact List.mem_cons_self)
      omega
    have h9 : eqD s (dS [c]) (.str (Str.ofString "0")) = some false := by
      rw [zeroS]
      refine (eq_dS (asc_one hcc) (asc_one (by decide))).trans ?_
      rw [decide_eq_false (by simp [hc])]
    simp [r_is_figures, b_is_figures_0, q_is_figures_0_a, b_is_figures_0_a_0, b_is_figures_1, fnF, exs, seqF, startE, ex, ev, opCmp, h1, opBlt, bLen, h2, optR, h3, h4, bAll, asL, h5, h6, h7, h8, h9, retF, retR, leave, leaveOk, D.hasClo, -List.all_map, -List.map_map]
theorem is_figures_no (k : Nat) {c : List Nat} (s : Store) (hl : c.length < 400) (ha : Asc c) : (lev tx (k + 1)).fn (Str.ofString "is_figures") [dS (45 :: c)] s = .ok (.bl false) s := by
  rw [fn_is_figures]
  have ha : Asc (45 :: c) := fun x hx => by
    rcases List.mem_cons.mp hx with rfl | h
    · decide
    · exact ha x h
  have hlen : (45 :: c).length = c.length + 1 := rfl
  have h1 : eqD s (dS (45 :: c)) (.str (Str.ofString "")) = some false := by
    rw [emptyS]
    refine (eq_dS ha asc_nil).trans ?_
    rw [decide_eq_false (List.cons_ne_nil _ _)]
  have h2 := len_S (c := 45 :: c) s (by omega)
  have h3 : ltD (.int 400) (.int ((45 :: c).length : Int)) = some false := by
    unfold ltD
    dsimp only
    rw [decide_eq_false (by omega)]
  have h4 := fig_all k (45 :: c) s (by omega)
  have h5 : blsD ((45 :: c).map fun x => .bl (decide (x ∈ figs))) = some ((45 :: c).map fun x => decide (x ∈ figs)) := bls_map _ _
  have h6 : (((45 :: c).map fun x => decide (x ∈ figs)).all id) = false := by
    rw [List.map_cons, List.all_cons]
    rfl
  generalize 45 :: c = w at *
  simp [r_is_figures, b_is_figures_0, q_is_figures_0_a, b_is_figures_0_a_0, b_is_figures_1, fnF, exs, seqF, startE, ex, ev, opCmp, h1, opBlt, bLen, h2, optR, h3, h4, bAll, asL, h5, h6, retF, retR, leave, leaveOk, D.hasClo, -List.all_map, -List.map_map]
theorem opSl_to (s : Store) {c : List Nat} (hl : c.length ≤ 16777216) (i : Nat) : opSl s (dS c) none (some (i : Int)) = .ok (dS (c.take i)) s := by
  unfold dS opSl
  dsimp only
  rw [if_pos (by rw [S_len]; exact hl), cutS_to]
theorem opSl_from (s : Store) {c : List Nat} (hl : c.length ≤ 16777216) (i : Nat) : opSl s (dS c) (some (i : Int)) none = .ok (dS (c.drop i)) s := by
  unfold dS opSl
  dsimp only
  rw [if_pos (by rw [S_len]; exact hl), cutS_from]
theorem is_whole_word_ok (k : Nat) {i : Int} (s : Store) (h : (numI i).length ≤ 300) : (lev tx (k + 2)).fn (Str.ofString "is_whole_word") [dS (numI i)] s = .ok (.bl true) s := by
  rw [fn_is_whole_word]
  by_cases hi : i < 0
  · rw [numI_neg hi] at h ⊢
    rw [List.length_cons] at h
    have hd := TL.numL_digits i.natAbs
    have ha : Asc (TL.numL i.natAbs) := fun x hx => by have := hd x hx; omega
    have h1 := is_figures_no k s (by omega) ha
    have h2 := is_figures_ok k (n := i.natAbs) s (by omega)
    have h3 : opSl s (dS (45 :: TL.numL i.natAbs)) none (some 1) = .ok (dS [45]) s := opSl_to s (by rw [List.length_cons]; omega) 1
    have h4 : opSl s (dS (45 :: TL.numL i.natAbs)) (some 1) none = .ok (dS (TL.numL i.natAbs)) s := opSl_from s (by rw [List.length_cons]; omega) 1
    have h5 : eqD s (dS [45]) (.str (Str.ofString "-")) = some true := by
      rw [minusS]
      refine (eq_dS (asc_one (by decide)) (asc_one (by decide))).trans ?_
      rw [decide_eq_true rfl]
    have h6 : eqD s (dS (TL.numL i.natAbs)) (.str (Str.ofString "0")) = some false := by
      rw [zeroS]
      refine (eq_dS ha (asc_one (by decide))).trans ?_
      rw [decide_eq_false]
      intro z
      obtain ⟨c, r, e, hc⟩ := numL_head (n := i.natAbs) (by omega)
      rw [e] at z
      exact hc (List.cons.inj z).1
    simp [r_is_whole_word, b_is_whole_word_0, fnF, exs, seqF, startE, ex, ev, h1, partD, Tm.isCnon, h3, h4, opCmp, h5, h6, h2, retF, retR, leave, leaveOk, D.hasClo]
  · rw [numI_pos (by omega)] at h ⊢
    have h2 := is_figures_ok k (n := i.natAbs) s (by omega)
    simp [r_is_whole_word, b_is_whole_word_0, fnF, exs, seqF, startE, ex, ev, h2, retF, retR, leave, leaveOk, D.hasClo]
end LW
end
section
set_option Elab.async false
set_option linter.all false
set_option maxRecDepth 100000
set_option maxHeartbeats 1000000
/-! Lines, told. -/
namespace LW
open PySem MM SX
def cP : List Nat := "person".toList.map Char.toNat
def cT : List Nat := "trust".toList.map Char.toNat
theorem personS : Str.ofString "person" = S cP := by kernel_rfl
theorem trustS : Str.ofString "trust" = S cT := by kernel_rfl
theorem cP_asc : Asc cP := by
  have : cP.all (fun x => decide (x < 0x110000)) = true := by kernel_rfl
  exact fun x hx => of_decide_eq_true (List.all_eq_true.mp this x hx)
theorem cT_asc : Asc cT := by
  have : cT.all (fun x => decide (x < 0x110000)) = true := by kernel_rfl
  exact fun x hx => of_decide_eq_true (List.all_eq_true.mp this x hx)
theorem cPT : ¬ cP = cT := by decide
theorem cTP : ¬ cT = cP := by decide
def pl (n : List Nat) (f : Fr) : List (List Nat) := [cP, n, numI f.1, numI f.2]
def tl (a b : List Nat) (f : Fr) : List (List Nat) := [cT, a, b, numI f.1, numI f.2]
/-- the sign between words -/
abbrev sp : List Nat := [32]
def line_ (w : List (List Nat)) : List Nat := TL.joinL sp w
structure Txf (f : Fr) : Prop where
  x : Bits 200 f.1
  y : Bits 200 f.2
theorem Txf.a {f : Fr} (h : Txf f) : (numI f.1).length ≤ 300 := Nat.le_trans (numI_len (by decide) (bits_pow h.x)) (by decide)
theorem Txf.b {f : Fr} (h : Txf f) : (numI f.2).length ≤ 300 := Nat.le_trans (numI_len (by decide) (bits_pow h.y)) (by decide)
theorem word_no {c : List Nat} (h : IsWord c) : 32 ∉ c := fun z => by
  have : ¬ (32 ∈ letters) := by decide
  exact this (h.let_ 32 z)
theorem num_no (i : Int) : 32 ∉ numI i := fun z => by
  rcases numI_signs i 32 z with h | h
  · omega
  · omega
/-- words that stand in lines -/
structure Wd (w : List (List Nat)) : Prop where
  ne : w ≠ []
  no : ∀ c ∈ w, 32 ∉ c
  asc : ∀ c ∈ w, Asc c
  len : (line_ w).length ≤ 10000
theorem pl_wd {n : List Nat} {f : Fr} (h : IsWord n) (hf : Txf f) : Wd (pl n f) := by
  refine ⟨List.cons_ne_nil _ _, ?_, ?_, ?_⟩
  · intro c hc
    simp only [pl, List.mem_cons, List.not_mem_nil, or_false] at hc
    rcases hc with rfl | rfl | rfl | rfl
    · decide
    · exact word_no h
    · exact num_no _
    · exact num_no _
  · intro c hc
    simp only [pl, List.mem_cons, List.not_mem_nil, or_false] at hc
    rcases hc with rfl | rfl | rfl | rfl
    · exact cP_asc
    · exact h.asc
    · exact numI_asc _
    · exact numI_asc _
  · have := h.le
    have := hf.a
    have := hf.b
    have e : cP.length = 6 := rfl
    simp [line_, pl, TL.joinL]
    omega
theorem tl_wd {a b : List Nat} {f : Fr} (h : IsWord a) (h' : IsWord b) (hf : Txf f) : Wd (tl a b f) := by
  refine ⟨List.cons_ne_nil _ _, ?_, ?_, ?_⟩
  · intro c hc
    simp only [tl, List.mem_cons, List.not_mem_nil, or_false] at hc
    rcases hc with rfl | rfl | rfl | rfl | rfl
    · decide
    · exact word_no h
    · exact word_no h'
    · exact num_no _
    · exact num_no _
  · intro c hc
    simp only [tl, List.mem_cons, List.not_mem_nil, or_false] at hc
    rcases hc with rfl | rfl | rfl | rfl | rfl
    · exact cT_asc
    · exact h.asc
    · exact h'.asc
    · exact numI_asc _
    · exact numI_asc _
  · have := h.le
    have := h'.le
    have := hf.a
    have := hf.b
    have e : cT.length = 5 := rfl
    simp [line_, tl, TL.joinL]
    omega
theorem split_ok (s : Store) {w : List (List Nat)} (h : Wd w) : mSplit s (dS (line_ w)) [.str (Str.ofString " ")] = .ok (.lst (w.map dS)) s := by
  rw [spaceS]
  unfold dS mSplit
  dsimp only
  have hl := h.len
  rw [S_len, S_len, if_neg (by decide), if_pos (show (line_ w).length + 2 ≤ 16777216 by omega), split_S (List.cons_ne_nil _ _) (by decide)]
  unfold line_
  rw [spl_join h.ne h.no, List.map_map]
  rfl
theorem many_p : List.lookup (S cP) [(Str.ofString "person", D.int 4), (Str.ofString "trust", D.int 5)] = some (.int 4) := by kernel_rfl
theorem many_t : List.lookup (S cT) [(Str.ofString "person", D.int 4), (Str.ofString "trust", D.int 5)] = some (.int 5) := by kernel_rfl
theorem told_start (k : Nat) {w : List (List Nat)} (s : Store) (h : Wd w) : ex (lev tx k) b_told_row_0 [some (dS (line_ w)), none, none] s = .ok (.nx [some (dS (line_ w)), some (dN w), none]) s := by
  have h1 := split_ok s h
  have h2 : isInst (lev tx k) s (dS (line_ w)) (.ty "str") = some true := by simp [isInst, dS, tyName]
  have h3 : mtOk s .split (dS (line_ w)) = true := rfl
  simp [b_told_row_0, ex, ev, opBlt, bIsI, h2, optR, h3, opMth, h1, bTuple, seqD, asL, asnG, dN]
theorem words_ok (k : Nat) (t : MM.Tm) {w : D} {l : List (List Nat)} {s : Store} {x : Option D} {y : D} (ht : t = t_told_row_1) (hl : l.length ≤ 100) (he : evs (lev tx (k + 1)) [.sl (.var 1) (.cint 1) (.neg (.cint 2))] [some y, some w, x] s = .ok [.tup (l.map dS)] s) (hy : y.hasClo = false) (hw : w.hasClo = false) (h : ∀ c ∈ l, IsWord c) :
    ev (lev tx (k + 1)) t [some y, some w, x] s = .ok (.lst (l.map fun _ => .bl true)) s := by
  subst ht
  refine ev_lca (enc := dS) (f := fun _ => .bl true) l he rfl rfl (fun a ha => ⟨rfl, ?_, rfl⟩) (by show l.length ≤ 16777216; omega)
  have hc := is_word_ok k s (h a ha)
  simp [wipeE, wipeC, ev, hc]
theorem nums_ok (k : Nat) {w : D} {l : List Int} {s : Store} {x : Option D} {y : D} (hl : l.length ≤ 100) (he : evs (lev tx (k + 2)) [.sl (.var 1) (.neg (.cint 2)) .cnon] [some y, some w, x] s = .ok [.tup (l.map fun i => dS (numI i))] s) (h : ∀ i ∈ l, (numI i).length ≤ 300) :
    ev (lev tx (k + 2)) t_told_row_0 [some y, some w, x] s = .ok (.lst (l.map fun _ => .bl true)) s := by
  refine ev_lca (enc := fun i => dS (numI i)) (f := fun _ => .bl true) l he rfl rfl (fun a ha => ⟨rfl, ?_, rfl⟩) (by show l.length ≤ 16777216; omega)
  have hc := is_whole_word_ok k s (h a ha)
  simp [wipeE, wipeC, ev, hc]
theorem told_pl (k : Nat) {n : List Nat} {f : Fr} (s : Store) (h : IsWord n) (hf : Txf f) : (lev tx (k + 3)).fn (Str.ofString "told_row") [dS (line_ (pl n f))] s = .ok (dN (pl n f)) s := by
  rw [fn_told_row]
  have h0 := told_start (k + 2) s (pl_wd h hf)
  have h1 : ev (lev tx (k + 2)) t_told_row_1 [some (dS (line_ (pl n f))), some (dN (pl n f)), none] s = .ok (.lst [.bl true]) s := words_ok (k + 1) _ (l := [n]) rfl (by simp) (by simp [ev, dN, pl, partD, Tm.isCnon, opSl]) rfl (dN_clo _) (by simpa using h)
  have h2 : ev (lev tx (k + 2)) t_told_row_0 [some (dS (line_ (pl n f))), some (dN (pl n f)), none] s = .ok (.lst [.bl true, .bl true]) s := nums_ok k (l := [f.1, f.2]) (by simp) (by simp [ev, dN, pl, partD, Tm.isCnon, opSl]) (by simpa using ⟨hf.a, hf.b⟩)
  have h3 : opIx s (dN (pl n f)) (.int 0) = .ok (.str (S cP)) s := by simp [opIx, dN, pl, dS]
  have h4 : lenD s (dN (pl n f)) = some 4 := by simp [lenD, dN, pl]
  have h5 : eqD s (.int 4) (.int 4) = some true := eqD_pln rfl rfl
  have hm := many_p
  simp [r_told_row, fnF, exs, seqF, startE, h0]
  simp [b_told_row_1, b_told_row_2, b_told_row_3, ex, exs, ev, h3, hm, opBlt, bLen, h4, optR, opCmp, h5, h1, h2, bAll, asL, blsD, retF, retR, leave, leaveOk]
theorem told_tl (k : Nat) {a b : List Nat} {f : Fr} (s : Store) (h : IsWord a) (h' : IsWord b) (hf : Txf f) : (lev tx (k + 3)).fn (Str.ofString "told_row") [dS (line_ (tl a b f))] s = .ok (dN (tl a b f)) s := by
  rw [fn_told_row]
  have h0 := told_start (k + 2) s (tl_wd h h' hf)
  have h1 : ev (lev tx (k + 2)) t_told_row_1 [some (dS (line_ (tl a b f))), some (dN (tl a b f)), none] s = .ok (.lst [.bl true, .bl true]) s := words_ok (k + 1) _ (l := [a, b]) rfl (by simp) (by simp [ev, dN, tl, partD, Tm.isCnon, opSl]) rfl (dN_clo _) (by simpa using ⟨h, h'⟩)
  have h2 : ev (lev tx (k + 2)) t_told_row_0 [some (dS (line_ (tl a b f))), some (dN (tl a b f)), none] s = .ok (.lst [.bl true, .bl true]) s := nums_ok k (l := [f.1, f.2]) (by simp) (by simp [ev, dN, tl, partD, Tm.isCnon, opSl]) (by simpa using ⟨hf.a, hf.b⟩)
  have h3 : opIx s (dN (tl a b f)) (.int 0) = .ok (.str (S cT)) s := by simp [opIx, dN, tl, dS]
  have h4 : lenD s (dN (tl a b f)) = some 5 := by simp [lenD, dN, tl]
  have h5 : eqD s (.int 5) (.int 5) = some true := eqD_pln rfl rfl
  have hm := many_t
  simp [r_told_row, fnF, exs, seqF, startE, h0]
  simp [b_told_row_1, b_told_row_2, b_told_row_3, ex, exs, ev, h3, hm, opBlt, bLen, h4, optR, opCmp, h5, h1, h2, bAll, asL, blsD, retF, retR, leave, leaveOk]
theorem bInt_ok (s : Store) {i : Int} (h : (numI i).length ≤ 300) : bInt s [dS (numI i)] = .ok (.int i) s := by
  unfold dS bInt
  dsimp only
  rw [int_back (by omega)]
  dsimp only
  rw [S_len, if_pos (by omega)]
theorem fraction_pl (k : Nat) {n : List Nat} {f : Fr} (s : Store) (hf : Txf f) : (lev tx (k + 1)).fn (Str.ofString "fraction_of") [dN (pl n f)] s = .ok (dF f) s := by
  rw [fn_fraction_of]
  have h1 := bInt_ok s hf.a
  have h2 := bInt_ok s hf.b
  simp [r_fraction_of, b_fraction_of_0, fnF, exs, seqF, startE, ex, ev, dN, pl, opIx, opBlt, h1, h2, line, retF, retR, leave, leaveOk, D.hasClo, D.hasCloL, dF]
theorem fraction_tl (k : Nat) {a b : List Nat} {f : Fr} (s : Store) (hf : Txf f) : (lev tx (k + 1)).fn (Str.ofString "fraction_of") [dN (tl a b f)] s = .ok (dF f) s := by
  rw [fn_fraction_of]
  have h1 := bInt_ok s hf.a
  have h2 := bInt_ok s hf.b
  simp [r_fraction_of, b_fraction_of_0, fnF, exs, seqF, startE, ex, ev, dN, tl, opIx, opBlt, h1, h2, line, retF, retR, leave, leaveOk, D.hasClo, D.hasCloL, dF]
end LW
end
section
set_option Elab.async false
set_option linter.all false
set_option maxRecDepth 100000
set_option maxHeartbeats 1000000
/-! Lines behind one another. -/
namespace LW
open PySem MM SX
def fol (p : List (List Nat)) (m : List Fr) : List (List (List Nat)) := (p.zip m).map fun a => pl a.1 a.2
def trl (x : Tri) : List (List Nat) := tl x.1 x.2.1 x.2.2
def isP (w : List (List Nat)) : Bool := decide (w.head? = some cP)
/-- a line's words -/
inductive Lw : List (List Nat) → Prop where
  | p {n f} : IsWord n → Txf f → Lw (pl n f)
  | t {a b f} : IsWord a → IsWord b → Txf f → Lw (tl a b f)
theorem Lw.wd {w : List (List Nat)} (h : Lw w) : Wd w := by
  cases h with
  | p h1 h2 => exact pl_wd h1 h2
  | t h1 h2 h3 => exact tl_wd h1 h2 h3
theorem ix_0 (s : Store) {w : List (List Nat)} {c : List Nat} {r : List (List Nat)} (h : w = c :: r) : opIx s (dN w) (.int 0) = .ok (dS c) s := by
  subst h
  simp [opIx, dN]
theorem ix_1 (s : Store) {w : List (List Nat)} {c d : List Nat} {r : List (List Nat)} (h : w = c :: d :: r) : opIx s (dN w) (.int 1) = .ok (dS d) s := by
  subst h
  simp [opIx, dN]
theorem eq_pp (s : Store) : eqD s (dS cP) (.str (Str.ofString "person")) = some true := by
  rw [personS]
  refine (eq_dS cP_asc cP_asc).trans ?_
  rw [decide_eq_true rfl]
theorem eq_tp (s : Store) : eqD s (dS cT) (.str (Str.ofString "person")) = some false := by
  rw [personS]
  refine (eq_dS cT_asc cP_asc).trans ?_
  rw [decide_eq_false cTP]
theorem eq_pt (s : Store) : eqD s (dS cP) (.str (Str.ofString "trust")) = some false := by
  rw [trustS]
  refine (eq_dS cP_asc cT_asc).trans ?_
  rw [decide_eq_false cPT]
theorem eq_tt (s : Store) : eqD s (dS cT) (.str (Str.ofString "trust")) = some true := by
  rw [trustS]
  refine (eq_dS cT_asc cT_asc).trans ?_
  rw [decide_eq_true rfl]
@[simp] theorem any_ff {α : Type} (l : List α) : (l.any fun _ => false) = false := List.any_eq_false.mpr fun _ _ => Bool.false_ne_true
theorem follow_pl (k : Nat) {ws : List (List (List Nat))} {n : List Nat} {f : Fr} (s : Store) (hl : ws.length ≤ 1000) (h : ∀ w ∈ ws, ∃ n f, w = pl n f) : (lev tx (k + 1)).fn (Str.ofString "does_follow") [.lst (ws.map dN), dN (pl n f)] s = .ok (.bl true) s := by
  rw [fn_does_follow]
  have hc := hasCloL_map dN_clo ws
  have h1 : ev (lev tx k) t_does_follow_0 [some (.lst (ws.map dN)), some (dN (pl n f)), none, none] s = .ok (.lst (ws.map fun _ => .bl false)) s := by
    refine ev_lca (enc := dN) (f := fun _ => .bl false) ws (x := .lst (ws.map dN)) (by simp [ev]) rfl rfl (fun w hw => ⟨dN_clo _, ?_, rfl⟩) (by show ws.length ≤ 16777216; omega)
    obtain ⟨n', f', rfl⟩ := h w hw
    have i0 := ix_0 s (w := pl n' f') rfl
    simp [wipeE, wipeC, D.hasClo, hc, ev, i0, opCmp, eq_pt, optR]
  have h2 : blsD (ws.map fun _ => D.bl false) = some (ws.map fun _ => false) := bls_map (fun _ => false) ws
  have i0 := ix_0 s (w := pl n f) rfl
  simp [r_does_follow, b_does_follow_0, q_does_follow_0_a, b_does_follow_0_a_0, fnF, exs, seqF, startE, ex, ev, i0, opCmp, eq_pp, optR, h1, opBlt, bAny, asL, h2, retF, retR, leave, leaveOk, D.hasClo]
theorem fol_p {p : List (List Nat)} {m : List Fr} {w : List (List Nat)} (h : w ∈ fol p m) : ∃ n f, w = pl n f := by
  obtain ⟨a, _, rfl⟩ := List.mem_map.mp h
  exact ⟨_, _, rfl⟩
theorem zip_fst {α β : Type} : ∀ {l : List α} {m : List β}, m.length = l.length → (l.zip m).map (·.1) = l
  | [], _, _ => rfl
  | _ :: _, [], h => by simp at h
  | a :: l, b :: m, h => by
    rw [List.zip_cons_cons, List.map_cons, zip_fst (by simpa using h)]
theorem zip_snd {α β : Type} : ∀ {l : List α} {m : List β}, m.length = l.length → (l.zip m).map (·.2) = m
  | [], [], _ => rfl
  | [], _ :: _, h => by simp at h
  | _ :: _, [], h => by simp at h
  | a :: l, b :: m, h => by
    rw [List.zip_cons_cons, List.map_cons, zip_snd (by simpa using h)]
theorem isP_p (n : List Nat) (f : Fr) : isP (pl n f) = true := decide_eq_true rfl
theorem isP_t (x : Tri) : isP (trl x) = false := decide_eq_false fun h => cTP (Option.some.inj h)
theorem filter_p {p : List (List Nat)} {m : List Fr} (ts : List Tri) : (fol p m ++ ts.map trl).filter isP = fol p m := by
  rw [List.filter_append, List.filter_eq_self.mpr (fun w hw => by obtain ⟨n, f, rfl⟩ := fol_p hw; exact isP_p n f), List.filter_eq_nil_iff.mpr (fun w hw => by obtain ⟨x, _, rfl⟩ := List.mem_map.mp hw; rw [isP_t]; exact Bool.false_ne_true), List.append_nil]
theorem folk_ok (k : Nat) (t : MM.Tm) {p : List (List Nat)} {m : List Fr} {ts : List Tri} (s : Store) {y z : Option D} {x : D} (hm : m.length = p.length) (hl : (fol p m ++ ts.map trl).length ≤ 1000) (hx : x.hasClo = false) :
    ev (lev tx k) t_does_follow_1 [some (.lst ((fol p m ++ ts.map trl).map dN)), some x, none, none] s = .ok (.lst (p.map dS)) s := by
  have hc := hasCloL_map dN_clo (fol p m ++ ts.map trl)
  have e := ev_lc1 (g := lev tx k) (m := false) (v := 2) (it := .var 0) (c := .cmp .Eq (.ix (.var 2) (.cint 0)) (.glb (Str.ofString "PERSON"))) (e := .ix (.var 2) (.cint 1)) (own := [2]) (δ := [some (.lst ((fol p m ++ ts.map trl).map dN)), some x, none, none]) (S := s) (x := .lst ((fol p m ++ ts.map trl).map dN)) (enc := dN) (f := fun w => dS (w.getD 1 [])) (p := isP) (fol p m ++ ts.map trl) (by simp [ev]) rfl rfl (fun w hw => by
    refine ⟨dN_clo _, ?_, fun hp => ⟨?_, dS_clo _⟩⟩
    · rcases List.mem_append.mp hw with hw | hw
      · obtain ⟨n, f, rfl⟩ := fol_p hw
        have i0 := ix_0 s (w := pl n f) rfl
        rw [isP_p]
        generalize (fol p m ++ ts.map trl).map dN = u at *
        simp [wipeE, wipeC, D.hasClo, hc, hx, ev, i0, opCmp, eq_pp, optR]
      · obtain ⟨a, _, rfl⟩ := List.mem_map.mp hw
        have i0 := ix_0 s (w := trl a) rfl
        rw [isP_t]
        generalize (fol p m ++ ts.map trl).map dN = u at *
        simp [wipeE, wipeC, D.hasClo, hc, hx, ev, i0, opCmp, eq_tp, optR]
    · rcases List.mem_append.mp hw with hw | hw
      · obtain ⟨n, f, rfl⟩ := fol_p hw
        have i1 := ix_1 s (w := pl n f) rfl
        have e : (pl n f).getD 1 [] = n := rfl
        rw [e]
        generalize (fol p m ++ ts.map trl).map dN = u at *
        simp [wipeE, wipeC, D.hasClo, hc, hx, ev, i1]
      · obtain ⟨a, _, rfl⟩ := List.mem_map.mp hw
        rw [isP_t] at hp
        cases hp) (by show _ ≤ 16777216; omega)
  refine (show _ = _ from e).trans ?_
  rw [filter_p]
  unfold endL fol
  rw [if_neg Bool.false_ne_true, List.map_map]
  congr 2
  have := congrArg (List.map dS) (zip_fst hm)
  rw [List.map_map] at this
  exact this
theorem last_lns {p : List (List Nat)} {m : List Fr} {ts : List Tri} (hm : m.length = p.length) (h1 : 1 ≤ p.length) : ∃ ws w, fol p m ++ ts.map trl = ws ++ [w] ∧ ((∃ n f, w = pl n f) ∨ ∃ y, ts.getLast? = some y ∧ w = trl y) := by
  rcases List.eq_nil_or_concat ts with rfl | ⟨us, y, rfl⟩
  · rcases List.eq_nil_or_concat (fol p m) with h | ⟨ws, w, h⟩
    · have : (fol p m).length = 0 := by rw [h]; rfl
      unfold fol at this
      rw [List.length_map, List.length_zip] at this
      omega
    · refine ⟨ws, w, by rw [h]; simp, .inl (fol_p (p := p) (m := m) (by rw [h]; simp))⟩
  · refine ⟨fol p m ++ us.map trl, trl y, by simp, .inr ⟨y, by simp, rfl⟩⟩
theorem follow_tl (k : Nat) {p : List (List Nat)} {m : List Fr} {ts : List Tri} {x : Tri} (s : Store) (hm : m.length = p.length) (h1 : 1 ≤ p.length) (hp : ∀ c ∈ p, Asc c) (hl : (fol p m ++ ts.map trl).length ≤ 1000)
    (ha : x.1 ∈ p) (hb : x.2.1 ∈ p) (hf : Txf x.2.2) (h0 : 0 < x.2.2.1) (hlt : ∀ y, ts.getLast? = some y → Tlt y x) : (lev tx (k + 1)).fn (Str.ofString "does_follow") [.lst ((fol p m ++ ts.map trl).map dN), dN (trl x)] s = .ok (.bl true) s := by
  rw [fn_does_follow]
  have e1 := folk_ok k t_does_follow_1 s (ts := ts) (x := dN (trl x)) (y := none) (z := none) hm hl (dN_clo _)
  have i0 := ix_0 s (w := trl x) rfl
  have i1 := ix_1 s (w := trl x) rfl
  have i2 : opIx s (dN (trl x)) (.int 2) = .ok (dS x.2.1) s := by simp [opIx, dN, trl, tl]
  have i3 : opIx s (dN (trl x)) (.int 3) = .ok (dS (numI x.2.2.1)) s := by simp [opIx, dN, trl, tl]
  have pn : D.plns 59 (p.map dS) = true := plns_map fun a ha => dS_pln (hp a ha) 59
  have n1 : inD s (dS x.1) (.lst (p.map dS)) = some true := by rw [inD_lst (dS_pln (hp _ ha) 60) pn, decide_eq_true (mem_dN.mpr ha)]
  have n2 : inD s (dS x.2.1) (.lst (p.map dS)) = some true := by rw [inD_lst (dS_pln (hp _ hb) 60) pn, decide_eq_true (mem_dN.mpr hb)]
  have bi := bInt_ok s hf.a
  have lt : ltD (.int 0) (.int x.2.2.1) = some true := by
    unfold ltD
    dsimp only
    rw [decide_eq_true h0]
  obtain ⟨ws, w, ew, hw⟩ := last_lns (ts := ts) hm h1
  have il : opIx s (.lst ((fol p m ++ ts.map trl).map dN)) (.int (-1)) = .ok (dN w) s := by
    rw [ew, List.map_append]
    have : L2.atI (ws.map dN ++ [w].map dN) (-1) = some (dN w) := atI_last
    unfold opIx
    dsimp only
    rw [show asL s (.lst (ws.map dN ++ [w].map dN)) = some (ws.map dN ++ [w].map dN) from rfl]
    dsimp only
    rw [this]
  have iw : opSl s (dN (trl x)) (some 1) (some 3) = .ok (.tup [dS x.1, dS x.2.1]) s := by simp [opSl, dN, trl, tl]
  have e0 : ex (lev tx k) b_does_follow_0 [some (.lst ((fol p m ++ ts.map trl).map dN)), some (dN (trl x)), none, none] s = .ok (.nx [some (.lst ((fol p m ++ ts.map trl).map dN)), some (dN (trl x)), none, none]) s := by
    generalize (fol p m ++ ts.map trl).map dN = u at *
    simp [b_does_follow_0, exs, ex, ev, i0, opCmp, eq_tp, optR]
  rcases hw with ⟨n, f, rfl⟩ | ⟨y, hy, rfl⟩
  · have j0 := ix_0 s (w := pl n f) rfl
    generalize (fol p m ++ ts.map trl).map dN = u at *
    simp [r_does_follow, fnF, exs, seqF, startE, e0]
    simp [b_does_follow_1, b_does_follow_2, b_does_follow_3, exs, seqF, ex, ev, e1, asnG, i1, i2, i3, opCmp, n1, n2, opBlt, bi, lt, il, j0, eq_pp, optR, retF, retR, leave, leaveOk, D.hasClo]
  · have j0 := ix_0 s (w := trl y) rfl
    have jw : opSl s (dN (trl y)) (some 1) (some 3) = .ok (.tup [dS y.1, dS y.2.1]) s := by simp [opSl, dN, trl, tl]
    have hlt := pair_lt (s := s) (hlt y hy)
    generalize (fol p m ++ ts.map trl).map dN = u at *
    simp [r_does_follow, fnF, exs, seqF, startE, e0]
    simp [b_does_follow_1, b_does_follow_2, b_does_follow_3, exs, seqF, ex, ev, e1, asnG, i1, i2, i3, opCmp, n1, n2, opBlt, bi, lt, il, j0, eq_tp, optR, partD, Tm.isCnon, jw, iw, pair_ltD, hlt, retF, retR, leave, leaveOk, D.hasClo]
end LW
end
section
set_option Elab.async false
set_option linter.all false
set_option maxRecDepth 100000
set_option maxHeartbeats 1000000
/-! Texts, read. -/
namespace LW
open PySem MM SX
structure Gd (p : List (List Nat)) (t : List (List Fr)) (m : List Fr) : Prop where
  c : IsCirc p t
  ml : m.length = p.length
  mf : ∀ f ∈ m, IsFr f ∧ Txf f
  tf : ∀ r ∈ t, ∀ f ∈ r, Txf f
def lns (p : List (List Nat)) (t : List (List Fr)) (m : List Fr) : List (List (List Nat)) := fol p m ++ (trs p t).map trl
variable {p : List (List Nat)} {t : List (List Fr)} {m : List Fr}
theorem Gd.tri (h : Gd p t m) {x : Tri} (hx : x ∈ trs p t) : IsWord x.1 ∧ IsWord x.2.1 ∧ Txf x.2.2 ∧ 0 < x.2.2.1 := by
  obtain ⟨h1, h2, h3, r, hr, hf⟩ := trs_mem hx
  have := (h.c.tr.row r hr).fr _ hf
  exact ⟨(h.c.nam _ h1).w, (h.c.nam _ h2).w, h.tf r hr _ hf, fr_pos this.1 this.2.1 h3⟩
theorem Gd.fol (h : Gd p t m) {w : List (List Nat)} (hw : w ∈ fol p m) : ∃ n f, w = pl n f ∧ IsWord n ∧ Txf f := by
  obtain ⟨a, ha, rfl⟩ := List.mem_map.mp hw
  have := List.of_mem_zip ha
  exact ⟨a.1, a.2, rfl, (h.c.nam _ this.1).w, (h.mf _ this.2).2⟩
theorem Gd.lw (h : Gd p t m) {w : List (List Nat)} (hw : w ∈ lns p t m) : Lw w := by
  rcases List.mem_append.mp hw with hw | hw
  · obtain ⟨n, f, rfl, h1, h2⟩ := h.fol hw
    exact .p h1 h2
  · obtain ⟨x, hx, rfl⟩ := List.mem_map.mp hw
    obtain ⟨h1, h2, h3, _⟩ := h.tri hx
    exact .t h1 h2 h3
theorem Gd.fl (h : Gd p t m) : (LW.fol p m).length = p.length := by
  unfold LW.fol
  rw [List.length_map, List.length_zip, h.ml, Nat.min_self]
theorem Gd.len (h : Gd p t m) : (lns p t m).length ≤ 30 := by
  have := trs_len (t := t) h.c.five
  have := h.fl
  have := h.c.five
  unfold lns
  rw [List.length_append, List.length_map]
  omega
theorem told_row_ok (k : Nat) {w : List (List Nat)} (s : Store) (h : Lw w) : (lev tx (k + 3)).fn (Str.ofString "told_row") [dS (line_ w)] s = .ok (dN w) s := by
  cases h with
  | p h1 h2 => exact told_pl k s h1 h2
  | t h1 h2 h3 => exact told_tl k s h1 h2 h3
theorem fraction_ok (k : Nat) {w : List (List Nat)} (s : Store) (h : Lw w) : ∃ f, (lev tx (k + 1)).fn (Str.ofString "fraction_of") [dN w] s = .ok (dF f) s := by
  cases h with
  | p h1 h2 => exact ⟨_, fraction_pl k s h2⟩
  | t h1 h2 h3 => exact ⟨_, fraction_tl k s h3⟩
theorem join_asc : ∀ {w : List (List Nat)}, (∀ c ∈ w, Asc c) → Asc (TL.joinL sp w)
  | [], _ => asc_nil
  | [c], h => h c (List.mem_singleton.mpr rfl)
  | c :: d :: r, h => fun x hx => by
    have hx : x ∈ c ++ (sp ++ TL.joinL sp (d :: r)) := hx
    rcases List.mem_append.mp hx with hx | hx
    · exact h c List.mem_cons_self x hx
    · rcases List.mem_append.mp hx with hx | hx
      · rw [List.mem_singleton.mp hx]
        decide
      · exact join_asc (fun e he => h e (List.mem_cons_of_mem _ he)) x hx
theorem line_asc {w : List (List Nat)} (h : Lw w) : Asc (line_ w) := join_asc h.wd.asc
/-- the value of a text -/
abbrev dX (p : List (List Nat)) (t : List (List Fr)) (m : List Fr) : D := .tup ((lns p t m).map fun w => dS (line_ w))
theorem dX_clo : (dX p t m).hasClo = false := by unfold D.hasClo; exact hasCloL_map (fun w => dS_clo _) _
theorem dX_pln (h : Gd p t m) (k : Nat) : (dX p t m).pln (k + 1) = true := by
  unfold D.pln
  exact plns_map fun w hw => dS_pln (line_asc (h.lw hw)) k
theorem lns_ne (h : Gd p t m) : lns p t m ≠ [] := fun z => by
  have h1 := h.fl
  have h2 := h.c.one
  have h3 := congrArg List.length z
  unfold lns at h3
  rw [List.length_append, List.length_nil] at h3
  omega
theorem follow_at (k : Nat) (h : Gd p t m) (s : Store) {j : Nat} {w : List (List Nat)} (hj : (lns p t m)[j]? = some w) : (lev tx (k + 1)).fn (Str.ofString "does_follow") [.lst (((lns p t m).take j).map dN), dN w] s = .ok (.bl true) s := by
  have hlen := h.len
  by_cases hlt : j < (fol p m).length
  · have e : (lns p t m).take j = (fol p m).take j := by
      unfold lns
      rw [List.take_append_of_le_length (by omega)]
    unfold lns at hj
    rw [List.getElem?_append_left hlt] at hj
    obtain ⟨n, f, rfl⟩ := fol_p (List.mem_of_getElem? hj)
    rw [e]
    exact follow_pl k s (by rw [List.length_take]; unfold lns at hlen; rw [List.length_append] at hlen; omega) fun w hw => fol_p (List.mem_of_mem_take hw)
  · have e : (lns p t m).take j = fol p m ++ ((trs p t).take (j - (fol p m).length)).map trl := by
      unfold lns
      rw [List.take_append, List.take_of_length_le (by omega), List.map_take]
    unfold lns at hj
    rw [List.getElem?_append_right (by omega), List.getElem?_map] at hj
    obtain ⟨x, hx, rfl⟩ := Option.map_eq_some_iff.mp hj
    have hm := List.mem_of_getElem? hx
    obtain ⟨a1, a2, a3, _⟩ := trs_mem hm
    obtain ⟨b1, b2, b3, b4⟩ := h.tri hm
    have hle : (fol p m ++ ((trs p t).take (j - (fol p m).length)).map trl).length ≤ 1000 := by
      rw [← e, List.length_take]
      omega
    rw [e]
    refine follow_tl k s h.ml h.c.one (fun c hc => (h.c.nam c hc).w.asc) hle a1 a2 b3 b4 fun y hy => ?_
    have hy : ((trs p t).take (j - (fol p m).length)).getLast? = some y := hy
    rw [List.getLast?_eq_getElem?] at hy
    obtain ⟨hl, hy⟩ := List.getElem?_eq_some_iff.mp hy
    rw [List.getElem_take] at hy
    rw [List.length_take] at hl
    obtain ⟨hx1, hx2⟩ := List.getElem?_eq_some_iff.mp hx
    have := List.pairwise_iff_getElem.mp (trs_pw (t := t) h.c.asc) (((trs p t).take (j - (fol p m).length)).length - 1) (j - (fol p m).length) (by rw [List.length_take]; omega) hx1 (by rw [List.length_take]; omega)
    rw [hy, hx2] at this
    exact this
theorem told_list (k : Nat) (tm : MM.Tm) (h : Gd p t m) (s : Store) {δ : En} (h1 : ev (lev tx (k + 3)) (.var 0) δ s = .ok (dX p t m) s) (hv : ∀ w, evs (lev tx (k + 3)) [.var 2] ((wipeC (wipeE δ [2])).set 2 (some (dS (line_ w)))) s = .ok [dS (line_ w)] s) :
    ev (lev tx (k + 3)) (.lc false [2] .plain [.var 0] (.cbl true) (.call (Str.ofString "told_row") [.var 2]) [2]) δ s = .ok (.lst ((lns p t m).map dN)) s := by
  have hl := h.len
  refine ev_lca (enc := fun w => dS (line_ w)) (f := dN) (lns p t m) (x := dX p t m) (by simp [h1]) rfl rfl (fun w hw => ⟨rfl, ?_, dN_clo w⟩) (by show _ ≤ 16777216; omega)
  have e := told_row_ok k s (h.lw hw)
  unfold ev
  rw [hv w, Res.bind_ok, e]
theorem wrong_in_lines_ok (k : Nat) (h : Gd p t m) (s : Store) : (lev tx (k + 4)).fn (Str.ofString "wrong_in_lines") [dX p t m] s = .ok (.lst []) s := by
  rw [fn_wrong_in_lines]
  have e0 : ex (lev tx (k + 3)) b_wrong_in_lines_0 [some (dX p t m), none, none, none, none] s = .ok (.nx [some (dX p t m), none, none, none, none]) s := by
    have h1 : eqD s (dX p t m) (.tup []) = some false := by
      rw [eqD_pln (dX_pln h 59) rfl, decide_eq_false]
      intro z
      exact lns_ne h (List.map_eq_nil_iff.mp (D.tup.inj z))
    have h2 : isInst (lev tx (k + 3)) s (dX p t m) (.ty "tuple") = some true := by simp [isInst, tyName]
    generalize dX p t m = X at *
    simp [b_wrong_in_lines_0, exs, ex, ev, opBlt, bIsI, h2, optR, opCmp, h1, line]
  have e1 : ex (lev tx (k + 3)) b_wrong_in_lines_1 [some (dX p t m), none, none, none, none] s = .ok (.nx [some (dX p t m), some (.lst ((lns p t m).map dN)), none, none, none]) s := by
    have hc := dX_clo (p := p) (t := t) (m := m)
    have := told_list k t_wrong_in_lines_0 h s (δ := [some (dX p t m), none, none, none, none]) (by simp [ev]) (fun w => by
      generalize dX p t m = X at *
      simp [wipeE, wipeC, hc, ev])
    have : ev (lev tx (k + 3)) t_wrong_in_lines_0 [some (dX p t m), none, none, none, none] s = .ok (.lst ((lns p t m).map dN)) s := this
    generalize dX p t m = X at *
    simp [b_wrong_in_lines_1, ex, this, asnG]
  obtain ⟨δ', S', e2, hS, x, y, hδ⟩ := ex_for2 (g := lev tx (k + 3)) (c := false) (v := 3) (w := 4) (ik := .enumerate) (it := [.var 1]) (b := q_wrong_in_lines_2) (δ := [some (dX p t m), some (.lst ((lns p t m).map dN)), none, none, none]) (S := s) (ex1 := fun a : List (List Nat) × Nat => .int ((a.2 : Nat) : Int)) (ex2 := fun a => dN a.1) (ys := [.lst ((lns p t m).map dN)])
    (P := fun j δ S' => S' = s ∧ ∃ x y, δ = [some (dX p t m), some (.lst ((lns p t m).map dN)), none, x, y]) ((lns p t m).zipIdx 0) (by simp [ev]) (by
      unfold iterK
      dsimp only
      unfold itEnum
      dsimp only
      rw [show asL s (.lst ((lns p t m).map dN)) = some ((lns p t m).map dN) from rfl]
      dsimp only
      rw [enum_map]
      rfl) ⟨rfl, none, none, rfl⟩ (fun a ha => ⟨rfl, dN_clo _⟩) (fun j a δ S' hj ⟨hS, x, y, hδ⟩ => by
      subst hS
      subst hδ
      rw [List.getElem?_zipIdx] at hj
      obtain ⟨w, hw, rfl⟩ := Option.map_eq_some_iff.mp hj
      refine ⟨_, S', ?_, rfl, some (.int ((0 + j : Nat) : Int)), some (dN w), rfl⟩
      have hL := h.lw (List.mem_of_getElem? hw)
      have he : eqD S' (dN w) (.tup []) = some false := by
        rw [eqD_pln (dN_pln hL.wd.asc 59) rfl, decide_eq_false]
        intro z
        exact hL.wd.ne (List.map_eq_nil_iff.mp (D.tup.inj z))
      have ht : opSl S' (.lst ((lns p t m).map dN)) none (some (((0 + j : Nat)) : Int)) = .ok (.lst (((lns p t m).take j).map dN)) S' := by
        unfold opSl
        dsimp only
        rw [show asL S' (.lst ((lns p t m).map dN)) = some ((lns p t m).map dN) from rfl]
        dsimp only
        rw [cut_to, Nat.zero_add, List.map_take]
      have hf := follow_at (k + 2) h S' hw
      simp only [Nat.zero_add] at *
      generalize (lns p t m).map dN = u at *
      generalize ((lns p t m).take j).map dN = u' at *
      generalize dX p t m = X at *
      simp [q_wrong_in_lines_2, b_wrong_in_lines_2_0, exs, seqF, ex, ev, opCmp, he, partD, Tm.isCnon, ht, hf, line])
  subst hS
  subst hδ
  have e3 : ex (lev tx (k + 3)) b_wrong_in_lines_2 [some (dX p t m), some (.lst ((lns p t m).map dN)), none, none, none] S' = _ := e2
  simp only [r_wrong_in_lines, fnF, startE, List.length_cons, List.length_nil, exs, seqF]
  simp only [List.map_cons, List.map_nil, List.replicate, List.cons_append, List.nil_append, e0, e1, e3, Res.bind_ok]
  simp [e0, e1, e3, seqF, b_wrong_in_lines_3, ex, ev, retF, retR, leave, leaveOk, D.hasClo, D.hasCloL, line]
end LW
end
section
set_option Elab.async false
set_option linter.all false
set_option maxRecDepth 100000
set_option maxHeartbeats 1000000
/-! Texts, read: what they tell. -/
namespace LW
open PySem MM SX
variable {p : List (List Nat)} {t : List (List Fr)} {m : List Fr}
abbrev nn : Option D := none
theorem lns_clo : (D.lst ((lns p t m).map dN)).hasClo = false := by unfold D.hasClo; exact hasCloL_map dN_clo _
theorem fol_clo : (D.lst ((fol p m).map dN)).hasClo = false := by unfold D.hasClo; exact hasCloL_map dN_clo _
theorem told_0 (k : Nat) (h : Gd p t m) (s : Store) : ex (lev tx (k + 3)) b_told_by_0 [some (dX p t m), nn, nn, nn, nn, nn, nn, nn, nn, nn] s = .ok (.nx [some (dX p t m), some (.lst ((lns p t m).map dN)), nn, nn, nn, nn, nn, nn, nn, nn]) s := by
  have hc := dX_clo (p := p) (t := t) (m := m)
  have := told_list k t_told_by_0 h s (δ := [some (dX p t m), nn, nn, nn, nn, nn, nn, nn, nn, nn]) (by simp [ev]) (fun w => by
    generalize dX p t m = X at *
    simp [wipeE, wipeC, hc, ev])
  have : ev (lev tx (k + 3)) t_told_by_0 [some (dX p t m), nn, nn, nn, nn, nn, nn, nn, nn, nn] s = .ok (.lst ((lns p t m).map dN)) s := this
  generalize dX p t m = X at *
  simp [b_told_by_0, ex, this, asnG]
theorem told_1 (k : Nat) (h : Gd p t m) (s : Store) {X : D} (hX : X.hasClo = false) : ex (lev tx k) b_told_by_1 [some X, some (.lst ((lns p t m).map dN)), nn, nn, nn, nn, nn, nn, nn, nn] s = .ok (.nx [some X, some (.lst ((lns p t m).map dN)), nn, some (.lst ((fol p m).map dN)), nn, nn, nn, nn, nn, nn]) s := by
  have hl := h.len
  have e := ev_lc1 (g := lev tx k) (m := false) (v := 4) (it := .var 1) (c := .cmp .Eq (.ix (.var 4) (.cint 0)) (.glb (Str.ofString "PERSON"))) (e := .var 4) (own := [4]) (δ := [some X, some (.lst ((lns p t m).map dN)), nn, nn, nn, nn, nn, nn, nn, nn]) (S := s) (x := .lst ((lns p t m).map dN)) (enc := dN) (f := dN) (p := isP) (lns p t m) (by simp [ev]) rfl rfl (fun w hw => by
    have hc := lns_clo (p := p) (t := t) (m := m)
    refine ⟨dN_clo _, ?_, fun hp => ⟨?_, dN_clo _⟩⟩
    · rcases List.mem_append.mp hw with hw | hw
      · obtain ⟨n, f, rfl⟩ := fol_p hw
        have i0 := ix_0 s (w := pl n f) rfl
        rw [isP_p]
        generalize D.lst ((lns p t m).map dN) = u at *
        simp [wipeE, wipeC, hc, hX, ev, i0, opCmp, eq_pp, optR]
      · obtain ⟨a, _, rfl⟩ := List.mem_map.mp hw
        have i0 := ix_0 s (w := trl a) rfl
        rw [isP_t]
        generalize D.lst ((lns p t m).map dN) = u at *
        simp [wipeE, wipeC, hc, hX, ev, i0, opCmp, eq_tp, optR]
    · generalize D.lst ((lns p t m).map dN) = u at *
      simp [wipeE, wipeC, hc, hX, ev]) (by show _ ≤ 16777216; omega)
  have e : ev (lev tx k) t_told_by_1 [some X, some (.lst ((lns p t m).map dN)), nn, nn, nn, nn, nn, nn, nn, nn] s = .ok (.lst ((fol p m).map dN)) s := by
    refine (show _ = _ from e).trans ?_
    unfold lns
    rw [filter_p]
    rfl
  generalize D.lst ((lns p t m).map dN) = u at *
  simp [b_told_by_1, ex, e, asnG]
theorem told_2 (k : Nat) (h : Gd p t m) (s : Store) {X Y : D} (hX : X.hasClo = false) (hY : Y.hasClo = false) : ex (lev tx k) b_told_by_2 [some X, some Y, nn, some (.lst ((fol p m).map dN)), nn, nn, nn, nn, nn, nn] s = .ok (.nx [some X, some Y, nn, some (.lst ((fol p m).map dN)), nn, some (dN p), nn, nn, nn, nn]) s := by
  have hl := h.len
  have hc := fol_clo (p := p) (m := m)
  have e := ev_lca (g := lev tx k) (m := false) (v := 4) (it := .var 3) (e := .ix (.var 4) (.cint 1)) (own := [4]) (δ := [some X, some Y, nn, some (.lst ((fol p m).map dN)), nn, nn, nn, nn, nn, nn]) (S := s) (x := .lst ((fol p m).map dN)) (enc := dN) (f := fun w => dS (w.getD 1 [])) (fol p m) (by simp [ev]) rfl rfl (fun w hw => by
    refine ⟨dN_clo _, ?_, dS_clo _⟩
    obtain ⟨n, f, rfl⟩ := fol_p hw
    have i1 := ix_1 s (w := pl n f) rfl
    rw [show (pl n f).getD 1 [] = n from rfl]
    generalize D.lst ((fol p m).map dN) = u at *
    simp [wipeE, wipeC, hc, hX, hY, ev, i1]) (by rw [h.fl]; have := h.c.five; show _ ≤ 16777216; omega)
  have e : ev (lev tx k) t_told_by_2 [some X, some Y, nn, some (.lst ((fol p m).map dN)), nn, nn, nn, nn, nn, nn] s = .ok (.lst (p.map dS)) s := by
    refine (show _ = _ from e).trans ?_
    unfold endL fol
    rw [if_neg Bool.false_ne_true, List.map_map]
    congr 2
    have := congrArg (List.map dS) (zip_fst h.ml)
    rw [List.map_map] at this
    exact this
  generalize D.lst ((fol p m).map dN) = u at *
  have hn : D.hasCloL (p.map dS) = false := hasCloL_map dS_clo p
  simp [b_told_by_2, ex, ev, e, asnG, opBlt, bTuple, seqD, asL, optR, D.hasClo, hn, wipeC, hX, hY, hc, dN]
abbrev dM (ts : List Tri) : D := .dct (ts.map tkey) (ts.map fun x => dF x.2.2)
theorem dM_clo (ts : List Tri) : (dM ts).hasClo = false := by unfold D.hasClo; exact hasCloL_map (fun x => dF_clo _) ts
theorem told_3 (k : Nat) (h : Gd p t m) (s : Store) {X F : D} (hX : X.hasClo = false) (hF : F.hasClo = false) : ex (lev tx (k + 1)) b_told_by_3 [some X, some (.lst ((lns p t m).map dN)), nn, some F, nn, some (dN p), nn, nn, nn, nn] s = .ok (.nx [some X, some (.lst ((lns p t m).map dN)), nn, some F, nn, some (dN p), some (dM (trs p t)), nn, nn, nn]) s := by
  have hl := h.len
  have hc := lns_clo (p := p) (t := t) (m := m)
  have e : ev (lev tx (k + 1)) t_told_by_3 [some X, some (.lst ((lns p t m).map dN)), nn, some F, nn, some (dN p), nn, nn, nn, nn] s = .ok (dM (trs p t)) s := by
    unfold t_told_by_3 ev
    have hi : evs (lev tx (k + 1)) [.var 1] [some X, some (.lst ((lns p t m).map dN)), nn, some F, nn, some (dN p), nn, nn, nn, nn] s = .ok [.lst ((lns p t m).map dN)] s := by simp [ev]
    rw [hi, Res.bind_ok]
    unfold iterK
    dsimp only
    unfold itPlain
    dsimp only
    rw [show iterD s (.lst ((lns p t m).map dN)) = some ((lns p t m).map dN) from rfl]
    dsimp only
    rw [Res.bind_ok]
    dsimp only
    rw [show gdR s (.lst ((lns p t m).map dN)) = tt from rfl]
    have hw : wipeC (wipeE [some X, some (.lst ((lns p t m).map dN)), nn, some F, nn, some (dN p), nn, nn, nn, nn] [4]) = [some X, some (.lst ((lns p t m).map dN)), nn, some F, nn, some (dN p), nn, nn, nn, nn] := by
      generalize D.lst ((lns p t m).map dN) = u at *
      simp [wipeE, wipeC, hc, hX, hF]
    rw [hw]
    unfold lns
    rw [List.map_append, dc_skips, List.map_map]
    · have hd := dc_puts (κ := List L2.Key) (S := s) (enc := fun x : Tri => dN (trl x)) (key := tkey) (val := fun x => dF x.2.2) (step := stepD toKeys [4] [some X, some (.lst ((fol p m ++ (trs p t).map trl).map dN)), nn, some F, nn, some (dN p), nn, nn, nn, nn] (ev (lev tx (k + 1)) (.cmp .Eq (.ix (.var 4) (.cint 0)) (.glb (Str.ofString "TRUST")))) (fun δ S => (ev (lev tx (k + 1)) (.var 4) δ S).bind fun x S => (if Tm.isCnon (.cint 1) then .ok none S else (ev (lev tx (k + 1)) (.cint 1) δ S).bind partD).bind fun l S => (if Tm.isCnon (.cint 3) then .ok none S else (ev (lev tx (k + 1)) (.cint 3) δ S).bind partD).bind fun h S => opSlp S x l h) (ev (lev tx (k + 1)) (.call (Str.ofString "fraction_of") [.var 4]))) (trs p t) [] [] (fun x hx => ?_) (by simpa using keys_nodup (t := t) h.c.asc) (by have := trs_len (t := t) h.c.five; show 0 + (trs p t).length ≤ 16777216; omega)
      · rw [List.nil_append, List.nil_append, List.map_append, List.map_map] at hd
        refine (congrArg (fun z : Res (List (List L2.Key) × List D) => z.bind fun r S => Res.ok (D.dct r.1 r.2) S) hd).trans ?_
        rfl
      · obtain ⟨h1, h2, h3, h4⟩ := h.tri hx
        have i0 := ix_0 s (w := trl x) rfl
        have f1 := fraction_tl k (a := x.1) (b := x.2.1) s h3
        have i2 : opSlp s (dN (trl x)) (some 1) (some 3) = .ok (.tup [dS x.1, dS x.2.1]) s := by
          unfold dN trl tl opSlp
          dsimp only [List.map_cons, List.map_nil, List.length_cons, List.length_nil]
          exact if_neg fun z => Nat.one_ne_zero z.1
        have kk : toKeys (.tup [dS x.1, dS x.2.1]) = some (tkey x) := rfl
        have f1 : (lev tx (k + 1)).fn (Str.ofString "fraction_of") [dN (trl x)] s = .ok (dF x.2.2) s := f1
        generalize D.lst (List.map dN (fol p m ++ (trs p t).map trl)) = u at *
        simp [stepD, bindG, ev, i0, opCmp, eq_tt, optR, Tm.isCnon, partD, i2, kk, f1, D.hasClo, D.hasCloL]
    · intro d hd
      obtain ⟨w, hw, rfl⟩ := List.mem_map.mp hd
      obtain ⟨n, f, rfl⟩ := fol_p hw
      have i0 := ix_0 s (w := pl n f) rfl
      generalize D.lst (List.map dN (fol p m ++ (trs p t).map trl)) = u at *
      simp [stepD, bindG, ev, i0, opCmp, eq_pt, optR]
  have hm := dM_clo (trs p t)
  generalize dM (trs p t) = M at *
  generalize D.lst ((lns p t m).map dN) = u at *
  simp [b_told_by_3, ex, e, asnG, hm, wipeC, hX, hc, hF]
end LW
end
section
set_option Elab.async false
set_option linter.all false
set_option maxRecDepth 100000
set_option maxHeartbeats 1000000
/-! Texts, read: the circle and the minds. -/
namespace LW
open PySem MM SX
variable {p : List (List Nat)} {t : List (List Fr)} {m : List Fr}
theorem told_4 (k : Nat) (h : Gd p t m) (s : Store) {X Y F : D} (hX : X.hasClo = false) (hY : Y.hasClo = false) (hF : F.hasClo = false) : ex (lev tx k) b_told_by_4 [some X, some Y, nn, some F, nn, some (dN p), some (dM (trs p t)), nn, nn, nn] s = .ok (.nx [some X, some Y, nn, some F, nn, some (dN p), some (dM (trs p t)), some (dT t), nn, nn]) s := by
  have h5 := h.c.five
  have hM := dM_clo (trs p t)
  have inner : ∀ a : List Nat, ev (lev tx k) t_told_by_4 [some X, some Y, nn, some F, nn, some (dN p), some (dM (trs p t)), nn, nn, some (dS a)] s = .ok (.lst (p.map (told2 (trs p t) a))) s := by
    intro a
    refine ev_lca (g := lev tx k) (m := false) (enc := dS) (f := told2 (trs p t) a) p (x := dN p) (by simp [ev]) rfl rfl (fun b hb => ⟨dS_clo b, ?_, ?_⟩) (by show _ ≤ 16777216; omega)
    · have hk : toKeys (.tup [dS a, dS b]) = some (tkey (a, b, (0, 1))) := rfl
      have hg : mGet s (dM (trs p t)) [.tup [dS a, dS b], .tup [.int 0, .int 1]] = .ok (told2 (trs p t) a b) s := by
        unfold dM mGet
        dsimp only
        rw [hk]
        rfl
      have ho : mtOk s .get (dM (trs p t)) = true := rfl
      generalize told2 (trs p t) a b = r at *
      generalize dM (trs p t) = M at *
      simp [wipeE, wipeC, hX, hY, hF, hM, ev, ho, optR, opMth, hg, line]
    · unfold told2
      cases e : dicGet ((trs p t).map tkey) ((trs p t).map fun x => dF x.2.2) (tkey (a, b, (0, 1))) with
      | none => rfl
      | some d =>
        have : d ∈ (trs p t).map fun x => dF x.2.2 := by
          have aux : ∀ (ks : List (List L2.Key)) (vs : List D) (x : List L2.Key) (d : D), dicGet ks vs x = some d → d ∈ vs := by
            intro ks
            induction ks with
            | nil =>
              intro vs x d z
              unfold dicGet at z
              cases z
            | cons k ks ih =>
              intro vs x d z
              cases vs with
              | nil =>
                unfold dicGet at z
                cases z
              | cons v vs =>
                unfold dicGet at z
                by_cases hk : k = x
                · rw [if_pos hk] at z
                  rw [Option.some.inj z]
                  exact List.mem_cons_self
                · rw [if_neg hk] at z
                  exact List.mem_cons_of_mem _ (ih vs x d z)
          exact aux _ _ _ _ e
        obtain ⟨x, _, rfl⟩ := List.mem_map.mp this
        rfl
  have outer : ev (lev tx k) t_told_by_5 [some X, some Y, nn, some F, nn, some (dN p), some (dM (trs p t)), nn, nn, nn] s = .ok (.lst (p.map fun a => .tup (p.map (told2 (trs p t) a)))) s := by
    refine ev_lca (g := lev tx k) (m := false) (enc := dS) (f := fun a => .tup (p.map (told2 (trs p t) a))) p (x := dN p) (by simp [ev]) rfl rfl (fun a ha => ⟨dS_clo a, ?_, ?_⟩) (by show _ ≤ 16777216; omega)
    · have e := inner a
      have hw : (wipeC (wipeE [some X, some Y, nn, some F, nn, some (dN p), some (dM (trs p t)), nn, nn, nn] [9])).set 9 (some (dS a)) = [some X, some Y, nn, some F, nn, some (dN p), some (dM (trs p t)), nn, nn, some (dS a)] := by
        generalize dM (trs p t) = M at *
        simp [wipeE, wipeC, hX, hY, hF, hM]
      rw [hw]
      simp [ev, e, opBlt, bTuple, seqD, asL, optR]
    · unfold D.hasClo
      obtain ⟨i, hi⟩ := List.mem_iff_getElem?.mp ha
      obtain ⟨hl, _⟩ := List.getElem?_eq_some_iff.mp hi
      have hlt : i < t.length := by rw [h.c.tr.len]; exact hl
      have hti : t[i]? = some t[i] := List.getElem?_eq_getElem hlt
      have hrl := (h.c.tr.row t[i] (List.getElem_mem _)).len
      have e : p.map (told2 (trs p t) a) = t[i].map dF := by
        refine List.ext_getElem (by rw [List.length_map, List.length_map, hrl]) fun j h3 h4 => ?_
        rw [List.length_map] at h3 h4
        rw [List.getElem_map, List.getElem_map]
        exact told2_ok h.c.asc hi hti (List.getElem?_eq_getElem h3) (List.getElem?_eq_getElem h4)
      rw [e]
      exact hasCloL_map dF_clo _
  have hT := told_all (t := t) h.c.asc h.c.tr.len fun r hr => (h.c.tr.row r hr).len
  have hTl : (p.map fun a => D.tup (p.map (told2 (trs p t) a))) = t.map dFs := D.tup.inj hT
  rw [hTl] at outer
  generalize dM (trs p t) = M at *
  simp [b_told_by_4, ex, ev, outer, opBlt, bTuple, seqD, asL, optR, asnG, dT]
theorem told_5 (k : Nat) (h : Gd p t m) (s : Store) {X Y M : D} (hX : X.hasClo = false) (hY : Y.hasClo = false) (hM : M.hasClo = false) : ex (lev tx (k + 1)) b_told_by_5 [some X, some Y, nn, some (.lst ((fol p m).map dN)), nn, some (dN p), some M, some (dT t), nn, nn] s = .ok (.ret (.tup [dN p, dT t, dFs m])) s := by
  have h5 := h.c.five
  have hc := fol_clo (p := p) (m := m)
  have e := ev_lca (g := lev tx (k + 1)) (m := false) (v := 4) (it := .var 3) (e := .call (Str.ofString "fraction_of") [.var 4]) (own := [4]) (δ := [some X, some Y, nn, some (.lst ((fol p m).map dN)), nn, some (dN p), some M, some (dT t), nn, nn]) (S := s) (x := .lst ((fol p m).map dN)) (enc := fun a : List Nat × Fr => dN (pl a.1 a.2)) (f := fun a => dF a.2) (p.zip m) (by simp [ev]) (by unfold fol; rw [List.map_map]; rfl) rfl (fun a ha => by
    refine ⟨dN_clo _, ?_, dF_clo _⟩
    have e := fraction_pl k (n := a.1) s (h.mf a.2 (List.of_mem_zip ha).2).2
    generalize D.lst ((fol p m).map dN) = u at *
    simp [wipeE, wipeC, hc, hX, hY, hM, ev, e]) (by rw [List.length_zip]; show _ ≤ 16777216; omega)
  have e : ev (lev tx (k + 1)) t_told_by_6 [some X, some Y, nn, some (.lst ((fol p m).map dN)), nn, some (dN p), some M, some (dT t), nn, nn] s = .ok (.lst (m.map dF)) s := by
    refine (show _ = _ from e).trans ?_
    unfold endL
    rw [if_neg Bool.false_ne_true]
    congr 2
    have := congrArg (List.map dF) (zip_snd h.ml)
    rw [List.map_map] at this
    exact this
  generalize D.lst ((fol p m).map dN) = u at *
  have hm : D.hasCloL (m.map dF) = false := hasCloL_map dF_clo m
  simp [b_told_by_5, ex, ev, e, opBlt, bTuple, seqD, asL, optR, line, retF, D.hasClo, D.hasCloL, hm, dFs]
theorem told_by_ok (k : Nat) (h : Gd p t m) (s : Store) : (lev tx (k + 4)).fn (Str.ofString "told_by") [dX p t m] s = .ok (.tup [dN p, dT t, dFs m]) s := by
  rw [fn_told_by]
  have hX := dX_clo (p := p) (t := t) (m := m)
  have hL := lns_clo (p := p) (t := t) (m := m)
  have hF := fol_clo (p := p) (m := m)
  have hM := dM_clo (trs p t)
  have e0 := told_0 k h s
  have e1 := told_1 (k + 3) h s hX
  have e2 := told_2 (k + 3) h s hX hL
  have e3 := told_3 (k + 2) h s hX hF
  have e4 := told_4 (k + 3) h s hX hL hF
  have e5 := told_5 (k + 2) h s hX hL hM
  generalize dM (trs p t) = M at *
  generalize D.lst ((lns p t m).map dN) = L at *
  generalize D.lst ((fol p m).map dN) = F at *
  generalize dX p t m = X at *
  simp [r_told_by, fnF, startE, exs, seqF, e0, e1, e2, e3, e4, e5, retR, leave, leaveOk, D.hasClo, D.hasCloL]
theorem read_ok (k : Nat) (h : Gd p t m) (s : Store) (hS : Sok s) : (lev tx (k + 12)).fn (Str.ofString "read_circle") [dX p t m] s = .ok (.tup [dC p t, dFs m]) s := by
  rw [fn_read_circle]
  have e1 := wrong_in_lines_ok (k + 7) h s
  have e2 := told_by_ok (k + 7) h s
  have e3 := circle_ok k s hS h.c
  have e4 := check_minds_ok (k + 3) (t := t) s h.ml fun f hf => (h.mf f hf).1
  generalize dX p t m = X at *
  simp [r_read_circle, b_read_circle_0, q_read_circle_0, b_read_circle_1, b_read_circle_2, b_read_circle_3, b_read_circle_4, fnF, startE, exs, seqF, ex, ev, e1, iterK, itPlain, iterD, gdR, forLoop, e2, D.hasCloL, asnGs, asnG, e3, e4, line, retF, retR, leave, leaveOk, D.hasClo]
end LW
end
section
set_option Elab.async false
set_option linter.all false
set_option maxRecDepth 100000
set_option maxHeartbeats 1000000
/-! Texts, told. -/
namespace LW
open PySem MM SX
variable {p : List (List Nat)} {t : List (List Fr)} {m : List Fr}
theorem fmt_str (s : Store) {c : List Nat} (h : c.length ≤ 16777216) : fmtR (dS c) s = .ok (dS c) s := by
  unfold fmtR fmtD dS
  dsimp only
  rw [if_pos (by rw [S_len]; exact h)]
theorem fmt_int (s : Store) {i : Int} (h : Bits 200 i) : fmtR (.int i) s = .ok (dS (numI i)) s := by
  unfold fmtR fmtD dS
  dsimp only
  have := h.log
  rw [if_pos (by omega)]
  dsimp only
  rw [num_txt]
theorem evF_nil {g : GE} (acc : Str) (δ : En) (S : Store) : evF g [] acc δ S = .ok acc S := by unfold evF; rfl
theorem evF_cons {g : GE} {tm : MM.Tm} {r : List MM.Tm} {a c : List Nat} {δ : En} {s : Store} (h : (ev g tm δ s).bind fmtR = .ok (dS c) s) (hl : a.length + c.length ≤ 16777216) : evF g (tm :: r) (S a) δ s = evF g r (S (a ++ c)) δ s := by
  rw [evF, h]
  unfold dS
  rw [Res.bind_ok]
  dsimp only
  rw [S_cat, S_len, List.length_append, if_pos hl]
theorem fst4 {g : GE} {t1 t2 t3 t4 t5 t6 t7 : MM.Tm} {c1 c2 c3 c4 c5 c6 c7 : List Nat} {δ : En} {s : Store} (h1 : (ev g t1 δ s).bind fmtR = .ok (dS c1) s) (h2 : (ev g t2 δ s).bind fmtR = .ok (dS c2) s) (h3 : (ev g t3 δ s).bind fmtR = .ok (dS c3) s) (h4 : (ev g t4 δ s).bind fmtR = .ok (dS c4) s) (h5 : (ev g t5 δ s).bind fmtR = .ok (dS c5) s) (h6 : (ev g t6 δ s).bind fmtR = .ok (dS c6) s) (h7 : (ev g t7 δ s).bind fmtR = .ok (dS c7) s)
    (hl : c1.length + c2.length + c3.length + c4.length + c5.length + c6.length + c7.length ≤ 16777216) : ev g (.fst [t1, t2, t3, t4, t5, t6, t7]) δ s = .ok (dS (c1 ++ (c2 ++ (c3 ++ (c4 ++ (c5 ++ (c6 ++ c7))))))) s := by
  unfold ev
  rw [show Str.empty = S [] from rfl, evF_cons h1 (by simp; omega), evF_cons h2 (by simp; omega), evF_cons h3 (by simp; omega), evF_cons h4 (by simp; omega), evF_cons h5 (by simp; omega), evF_cons h6 (by simp; omega), evF_cons h7 (by simp; omega), evF_nil, Res.bind_ok]
  simp [dS, List.append_assoc]
theorem fst5 {g : GE} {t1 t2 t3 t4 t5 t6 t7 t8 t9 : MM.Tm} {c1 c2 c3 c4 c5 c6 c7 c8 c9 : List Nat} {δ : En} {s : Store} (h1 : (ev g t1 δ s).bind fmtR = .ok (dS c1) s) (h2 : (ev g t2 δ s).bind fmtR = .ok (dS c2) s) (h3 : (ev g t3 δ s).bind fmtR = .ok (dS c3) s) (h4 : (ev g t4 δ s).bind fmtR = .ok (dS c4) s) (h5 : (ev g t5 δ s).bind fmtR = .ok (dS c5) s) (h6 : (ev g t6 δ s).bind fmtR = .ok (dS c6) s) (h7 : (ev g t7 δ s).bind fmtR = .ok (dS c7) s) (h8 : (ev g t8 δ s).bind fmtR = .ok (dS c8) s) (h9 : (ev g t9 δ s).bind fmtR = .ok (dS c9) s)
    (hl : c1.length + c2.length + c3.length + c4.length + c5.length + c6.length + c7.length + c8.length + c9.length ≤ 16777216) : ev g (.fst [t1, t2, t3, t4, t5, t6, t7, t8, t9]) δ s = .ok (dS (c1 ++ (c2 ++ (c3 ++ (c4 ++ (c5 ++ (c6 ++ (c7 ++ (c8 ++ c9))))))))) s := by
  unfold ev
  rw [show Str.empty = S [] from rfl, evF_cons h1 (by simp; omega), evF_cons h2 (by simp; omega), evF_cons h3 (by simp; omega), evF_cons h4 (by simp; omega), evF_cons h5 (by simp; omega), evF_cons h6 (by simp; omega), evF_cons h7 (by simp; omega), evF_cons h8 (by simp; omega), evF_cons h9 (by simp; omega), evF_nil, Res.bind_ok]
  simp [dS, List.append_assoc]
theorem cP_len : cP.length = 6 := rfl
theorem cT_len : cT.length = 5 := rfl
/-- one row's lines -/
abbrev tr1 (p : List (List Nat)) (a : List Nat × List Fr) : List Tri := ((p.zip a.2).filter fun b => decide (b.2 ≠ (0, 1))).map fun b => (a.1, b.1, b.2)
abbrev tsJ (p : List (List Nat)) (t : List (List Fr)) (j : Nat) : List Tri := ((p.zip t).take j).flatMap (tr1 p)
theorem tsJ_succ {j : Nat} {a : List Nat × List Fr} (h : (p.zip t)[j]? = some a) : tsJ p t (j + 1) = tsJ p t j ++ tr1 p a := by
  unfold tsJ
  rw [take_last h, List.flatMap_append, List.flatMap_singleton]
theorem tsJ_all : tsJ p t (p.zip t).length = trs p t := by
  unfold tsJ
  rw [List.take_length]
  rfl
/-- a line's value -/
abbrev dL (w : List (List Nat)) : D := dS (line_ w)
theorem rows_0 (k : Nat) (h : Gd p t m) (s : Store) : ex (lev tx (k + 1)) b_rows_by_0 [some (dC p t), some (dFs m), nn, nn, nn, nn, nn, nn, nn] s = .ok (.nx [some (dC p t), some (dFs m), some (.ref s.length), nn, nn, nn, nn, nn, nn]) (s ++ [.lst ((fol p m).map dL)]) := by
  have hp := people_of k (p := p) (t := t) s
  have e : ev (lev tx (k + 1)) t_rows_by_0 [some (dC p t), some (dFs m), nn, nn, nn, nn, nn, nn, nn] s = endL true (((p.zip m).filter fun _ => true).map fun a => dL (pl a.1 a.2)) s := by
    refine ev_lc2 (ex := dS) (ey := dF) (f := fun a => dL (pl a.1 a.2)) (p := fun _ => true) p m (by simp [ev, hp, dN, dFs]) (fun a ha => ⟨dS_clo _, dF_clo _, by simp [ev], fun _ => ⟨?_, dS_clo _⟩⟩) (by rw [List.length_zip]; have := h.c.five; show _ ≤ 16777216; omega)
    have hm := List.of_mem_zip ha
    have hw := (h.c.nam _ hm.1).w
    have hf := (h.mf _ hm.2).2
    have l1 := hw.le
    have l2 := hf.a
    have l3 := hf.b
    have l4 := cP_len
    refine fst4 (c1 := cP) (c2 := sp) (c3 := a.1) (c4 := sp) (c5 := numI a.2.1) (c6 := sp) (c7 := numI a.2.2) ?_ ?_ ?_ ?_ ?_ ?_ ?_ (by simp; omega)
    · simp [ev, optR]
      rw [personS]
      exact fmt_str s (by omega)
    · simp [ev]
      rw [spaceS]
      exact fmt_str s (by simp)
    · simp [wipeE, wipeC, ev]
      exact fmt_str s (by omega)
    · simp [ev]
      rw [spaceS]
      exact fmt_str s (by simp)
    · simp [wipeE, wipeC, ev, opIx, dF]
      exact fmt_int s hf.x
    · simp [ev]
      rw [spaceS]
      exact fmt_str s (by simp)
    · simp [wipeE, wipeC, ev, opIx, dF]
      exact fmt_int s hf.y
  rw [List.filter_eq_self.mpr fun _ _ => rfl] at e
  have e2 : ((p.zip m).map fun a => dL (pl a.1 a.2)) = (fol p m).map dL := by
    unfold fol
    rw [List.map_map]
    rfl
  rw [e2] at e
  generalize (fol p m).map dL = u at *
  simp [b_rows_by_0, ex, e, endL, asnG]
theorem rows_1 (k : Nat) (h : Gd p t m) (s : Store) {a : List Nat × List Fr} (ha : a ∈ p.zip t) {M R x y z w : Option D} : ev (lev tx (k + 1)) t_rows_by_1 [some (dC p t), M, R, nn, nn, some (dS a.1), some (dFs a.2), nn, nn] s = .ok (.lst ((tr1 p a).map fun b => dL (trl b))) s := by
  have hp := people_of k (p := p) (t := t) s
  have hr := List.of_mem_zip ha
  have e : ev (lev tx (k + 1)) t_rows_by_1 [some (dC p t), M, R, nn, nn, some (dS a.1), some (dFs a.2), nn, nn] s = endL false (((p.zip a.2).filter fun b => decide (b.2 ≠ (0, 1))).map fun b => dL (tl a.1 b.1 b.2)) s := by
    refine ev_lc2 (ex := dS) (ey := dF) (f := fun b => dL (tl a.1 b.1 b.2)) (p := fun b => decide (b.2 ≠ (0, 1))) p a.2 (by simp [ev, hp, dN, dFs]) (fun b hb => ⟨dS_clo _, dF_clo _, ?_, fun _ => ⟨?_, dS_clo _⟩⟩) (by rw [List.length_zip]; have := h.c.five; show _ ≤ 16777216; omega)
    · have he : eqD s (dF b.2) (dF (0, 1)) = some (decide (b.2 = (0, 1))) := by
        rw [eqD_pln (dF_pln _ 59) (dF_pln _ 59)]
        exact congrArg some (decide_eq_decide.mpr dF_inj)
      have he : eqD s (dF b.2) (.tup [.int 0, .int 1]) = some (decide (b.2 = (0, 1))) := he
      simp [wipeE, wipeC, ev, optR, opCmp, he]
    · have hm := List.of_mem_zip hb
      have hw1 := (h.c.nam _ hr.1).w
      have hw2 := (h.c.nam _ hm.1).w
      have hf := h.tf _ hr.2 _ hm.2
      have l0 := hw1.le
      have l1 := hw2.le
      have l2 := hf.a
      have l3 := hf.b
      have l4 := cT_len
      refine fst5 (c1 := cT) (c2 := sp) (c3 := a.1) (c4 := sp) (c5 := b.1) (c6 := sp) (c7 := numI b.2.1) (c8 := sp) (c9 := numI b.2.2) ?_ ?_ ?_ ?_ ?_ ?_ ?_ ?_ ?_ (by simp; omega)
      · simp [ev, optR]
        rw [trustS]
        exact fmt_str s (by omega)
      · simp [ev]
        rw [spaceS]
        exact fmt_str s (by simp)
      · simp [wipeE, wipeC, ev]
        exact fmt_str s (by omega)
      · simp [ev]
        rw [spaceS]
        exact fmt_str s (by simp)
      · simp [wipeE, wipeC, ev]
        exact fmt_str s (by omega)
      · simp [ev]
        rw [spaceS]
        exact fmt_str s (by simp)
      · simp [wipeE, wipeC, ev, opIx, dF]
        exact fmt_int s hf.x
      · simp [ev]
        rw [spaceS]
        exact fmt_str s (by simp)
      · simp [wipeE, wipeC, ev, opIx, dF]
        exact fmt_int s hf.y
  rw [e]
  unfold endL tr1
  rw [if_neg Bool.false_ne_true, List.map_map]
  rfl
end LW
end
section
set_option Elab.async false
set_option linter.all false
set_option maxRecDepth 100000
set_option maxHeartbeats 1000000
/-! Texts, told: all lines. -/
namespace LW
open PySem MM SX
variable {p : List (List Nat)} {t : List (List Fr)} {m : List Fr}
abbrev lnJ (p : List (List Nat)) (t : List (List Fr)) (m : List Fr) (j : Nat) : List D := (fol p m).map dL ++ (tsJ p t j).map fun b => dL (trl b)
theorem lnJ_all : lnJ p t m (p.zip t).length = (lns p t m).map dL := by
  unfold lnJ lns
  rw [tsJ_all, List.map_append, List.map_map]
  rfl
theorem lnJ_clo (j : Nat) : D.hasCloL (lnJ p t m j) = false := by
  have : ∀ l : List D, (∀ d ∈ l, d.hasClo = false) → D.hasCloL l = false := by
    intro l
    induction l with
    | nil => intro _; rfl
    | cons a l ih =>
      intro h
      unfold D.hasCloL
      rw [h a List.mem_cons_self, ih fun d hd => h d (List.mem_cons_of_mem _ hd)]
      rfl
  refine this _ fun d hd => ?_
  rcases List.mem_append.mp hd with hd | hd
  · obtain ⟨w, _, rfl⟩ := List.mem_map.mp hd
    rfl
  · obtain ⟨w, _, rfl⟩ := List.mem_map.mp hd
    rfl
theorem tr1_len {a : List Nat × List Fr} (h : p.length ≤ 5) : (tr1 p a).length ≤ 5 := by
  unfold tr1
  rw [List.length_map]
  refine Nat.le_trans (List.length_filter_le _ _) ?_
  rw [List.length_zip]
  omega
theorem tsJ_len {j : Nat} (h : p.length ≤ 5) : (tsJ p t j).length ≤ 25 := by
  have := flat_len (f := tr1 p) (n := 5) (l := (p.zip t).take j) fun a _ => tr1_len h
  have h2 : ((p.zip t).take j).length ≤ 5 := by
    rw [List.length_take, List.length_zip]
    omega
  unfold tsJ
  omega
theorem lnJ_len (h : Gd p t m) (j : Nat) : (lnJ p t m j).length ≤ 30 := by
  have h1 := tsJ_len (t := t) (j := j) h.c.five
  have h2 := h.fl
  have h3 := h.c.five
  unfold lnJ
  rw [List.length_append, List.length_map, List.length_map]
  omega
theorem lnJ_succ {j : Nat} {a : List Nat × List Fr} (h : (p.zip t)[j]? = some a) : lnJ p t m (j + 1) = lnJ p t m j ++ (tr1 p a).map fun b => dL (trl b) := by
  unfold lnJ
  rw [tsJ_succ h, List.map_append, List.append_assoc]
theorem under_strs : ∀ (n : Nat) (l : List D), (∀ d ∈ l, d.under n = true) → D.underL n l = true
  | n, [], _ => rfl
  | n, d :: l, h => by
    unfold D.underL
    rw [h d List.mem_cons_self, under_strs n l fun e he => h e (List.mem_cons_of_mem _ he)]
    rfl
theorem rows_by_ok (k : Nat) (h : Gd p t m) (s : Store) (hS : Sok s) : (lev tx (k + 2)).fn (Str.ofString "rows_by") [dC p t, dFs m] s = .ok (dX p t m) s := by
  rw [fn_rows_by]
  have e0 := rows_0 k h s
  have hlen := h.len
  have hpl := lnJ_len h
  obtain ⟨δ', S', e1, hS', x, y, hδ⟩ := ex_for2 (g := lev tx (k + 1)) (c := true) (v := 5) (w := 6) (ik := .zip) (it := [.fld (.var 0) (Str.ofString "people"), .fld (.var 0) (Str.ofString "trust")]) (b := q_rows_by_1) (δ := [some (dC p t), some (dFs m), some (.ref s.length), nn, nn, nn, nn, nn, nn]) (S := s ++ [.lst ((fol p m).map dL)]) (ex1 := fun a : List Nat × List Fr => dS a.1) (ex2 := fun a => dFs a.2) (ys := [dN p, dT t])
    (P := fun j δ S' => S' = s ++ [.lst (lnJ p t m j)] ∧ ∃ x y, δ = [some (dC p t), some (dFs m), some (.ref s.length), nn, nn, x, y, nn, nn]) (p.zip t) (by
      have hp := people_of k (p := p) (t := t) (s ++ [.lst ((fol p m).map dL)])
      have ht := trust_of k (p := p) (t := t) (s ++ [.lst ((fol p m).map dL)])
      generalize (fol p m).map dL = u at *
      simp [ev, hp, ht]) (by
      unfold iterK
      dsimp only
      unfold dN dT itZip
      dsimp only
      rw [zip_map]) ⟨by unfold lnJ tsJ; simp, none, none, rfl⟩ (fun a ha => ⟨dS_clo _, dFs_clo _⟩) (fun j a δ S' hj ⟨hS', x, y, hδ⟩ => by
      subst hS'
      subst hδ
      have e := rows_1 k h (s ++ [.lst (lnJ p t m j)]) (List.mem_of_getElem? hj) (M := some (dFs m)) (R := some (.ref s.length)) (x := none) (y := none) (z := none) (w := none)
      have hg : (s ++ [MO.lst (lnJ p t m j)])[s.length]? = some (.lst (lnJ p t m j)) := by simp
      have hs := lnJ_succ (m := m) hj
      have hc1 : D.hasCloL ((tr1 p a).map fun b => dL (trl b)) = false := hasCloL_map (fun b => dS_clo _) _
      have hn := hpl (j + 1)
      rw [hs, List.length_append] at hn
      refine ⟨_, s ++ [.lst (lnJ p t m (j + 1))], ?_, rfl, some (dS a.1), some (dFs a.2), rfl⟩
      have hx : mExtend (s ++ [.lst (lnJ p t m j)]) (.ref s.length) [.lst ((tr1 p a).map fun b => dL (trl b))] = .ok .non (s ++ [.lst (lnJ p t m (j + 1))]) := by
        unfold mExtend
        dsimp only
        rw [hg]
        dsimp only
        rw [hc1, if_neg Bool.false_ne_true, if_pos (show _ ≤ 16777216 by omega), hs]
        simp
      have ho : mtOk (s ++ [.lst (lnJ p t m j)]) .extend (.ref s.length) = true := by
        unfold mtOk
        dsimp only
        rw [hg]
      have hw : (((if true then wipeC [some (dC p t), some (dFs m), some (D.ref s.length), nn, nn, x, y, nn, nn] else [some (dC p t), some (dFs m), some (D.ref s.length), nn, nn, x, y, nn, nn]).set 5 (some (dS a.1))).set 6 (some (dFs a.2))) = [some (dC p t), some (dFs m), some (.ref s.length), nn, nn, some (dS a.1), some (dFs a.2), nn, nn] := by
        simp [wipeC, D.hasClo]
      rw [hw]
      generalize lnJ p t m (j + 1) = v' at *
      generalize lnJ p t m j = v at *
      generalize (tr1 p a).map (fun b => dL (trl b)) = u at *
      simp [q_rows_by_1, b_rows_by_1_0, exs, seqF, ex, ev, ho, e, opMth, hx])
  subst hS'
  subst hδ
  rw [lnJ_all] at e1
  have e1 : ex (lev tx (k + 1)) b_rows_by_1 [some (dC p t), some (dFs m), some (.ref s.length), nn, nn, nn, nn, nn, nn] (s ++ [.lst ((fol p m).map dL)]) = _ := e1
  have hu : ∀ m ∈ s, MO.under s.length m = true := List.all_eq_true.mp hS
  have hx := dX_clo (p := p) (t := t) (m := m)
  have hxu : (dX p t m).under s.length = true := by
    unfold D.under
    exact underL_map (fun w => dS_under _ _) _
  unfold dX at *
  have : ((lns p t m).map dL) = ((lns p t m).map fun w => dS (line_ w)) := rfl
  rw [this] at e1
  generalize ((lns p t m).map fun w => dS (line_ w)) = u at *
  generalize (fol p m).map dL = u' at *
  simp [r_rows_by, fnF, startE, exs, seqF, e0, e1]
  simp [b_rows_by_2, ex, ev, opBlt, bTuple, seqD, asL, optR, retF, retR, leave, leaveOk, hx, frz, hxu]
  exact hu
theorem circle_rows_ok (k : Nat) (h : Gd p t m) (s : Store) (hS : Sok s) : (lev tx (k + 9)).fn (Str.ofString "circle_rows") [dC p t, dFs m] s = .ok (dX p t m) s := by
  rw [fn_circle_rows]
  have e1 := check_minds_ok k (t := t) s h.ml fun f hf => (h.mf f hf).1
  have e2 := rows_by_ok (k + 6) h s hS
  have hx := dX_clo (p := p) (t := t) (m := m)
  generalize dX p t m = X at *
  simp [r_circle_rows, b_circle_rows_0, b_circle_rows_1, fnF, startE, exs, seqF, ex, ev, e1, e2, retF, retR, leave, leaveOk, hx]
/-! ### the law's own text -/
theorem bStr_ok (s : Store) {i : Int} (h : Bits 200 i) : bStr s [.int i] = .ok (dS (numI i)) s := by
  unfold bStr dS
  dsimp only
  have := h.log
  rw [if_pos (by omega)]
  rw [num_txt]
theorem join_ok (s : Store) {w : List (List Nat)} (hl : (w.map List.length).sum + w.length ≤ 16777216) : mJoin s (dS sp) [.lst (w.map dS)] = .ok (dS (line_ w)) s := by
  have h1 : strJoin s (.lst (w.map dS)) = some (w.map S) := by
    show (some (w.map dS)).bind strsD = _
    exact strs_map w
  unfold mJoin dS
  dsimp only
  rw [show strJoin s (.lst (w.map fun c => D.str (S c))) = some (w.map S) from h1]
  dsimp only
  rw [lens, List.length_map, S_len, if_pos (by show _ ≤ 16777216; simpa using hl), join_S]
  rfl
theorem text_1 (k : Nat) (h : Gd p t m) (s : Store) : ex (lev tx k) b__law_text_1 [some (dP p t), some (dFs m), some (dN p), some (dT t), nn, nn, nn, nn, nn, nn, nn] s = .ok (.nx [some (dP p t), some (dFs m), some (dN p), some (dT t), some (.lst ((fol p m).map dL)), nn, nn, nn, nn, nn, nn]) s := by
  have e : ev (lev tx k) t__law_text_0 [some (dP p t), some (dFs m), some (dN p), some (dT t), nn, nn, nn, nn, nn, nn, nn] s = endL false (((p.zip m).filter fun _ => true).map fun a => dL (pl a.1 a.2)) s := by
    refine ev_lc2 (ex := dS) (ey := dF) (f := fun a => dL (pl a.1 a.2)) (p := fun _ => true) p m (by simp [ev, dN, dFs]) (fun a ha => ⟨dS_clo _, dF_clo _, by simp [ev], fun _ => ⟨?_, dS_clo _⟩⟩) (by rw [List.length_zip]; have := h.c.five; show _ ≤ 16777216; omega)
    have hm := List.of_mem_zip ha
    have hw := (h.c.nam _ hm.1).w
    have hf := (h.mf _ hm.2).2
    have l1 := hw.le
    have l2 := hf.a
    have l3 := hf.b
    have l4 := cP_len
    have b1 := bStr_ok s hf.x
    have b2 := bStr_ok s hf.y
    have j1 := join_ok s (w := pl a.1 a.2) (by simp [pl]; omega)
    have j1 : mJoin s (.str (S sp)) [.lst [.str (S cP), dS a.1, dS (numI a.2.1), dS (numI a.2.2)]] = .ok (dL (pl a.1 a.2)) s := j1
    have ho : mtOk s .join (.str (S sp)) = true := rfl
    simp [wipeE, wipeC, ev, spaceS, personS, ho, opBlt, opIx, dF, b1, b2, line, opMth, j1]
  rw [List.filter_eq_self.mpr fun _ _ => rfl] at e
  have e2 : ((p.zip m).map fun a => dL (pl a.1 a.2)) = (fol p m).map dL := by
    unfold fol
    rw [List.map_map]
    rfl
  rw [e2] at e
  generalize (fol p m).map dL = u at *
  simp [b__law_text_1, ex, e, endL, asnG]
theorem text_2 (k : Nat) (h : Gd p t m) (s : Store) {a : List Nat × List Fr} (ha : a ∈ p.zip t) {R : Option D} {A B : D} : ev (lev tx k) t__law_text_1 [some A, some B, some (dN p), some (dT t), R, nn, nn, some (dS a.1), some (dFs a.2), nn, nn] s = .ok (.lst ((tr1 p a).map fun b => dL (trl b))) s := by
  have hr := List.of_mem_zip ha
  have e : ev (lev tx k) t__law_text_1 [some A, some B, some (dN p), some (dT t), R, nn, nn, some (dS a.1), some (dFs a.2), nn, nn] s = endL false (((p.zip a.2).filter fun b => decide (b.2 ≠ (0, 1))).map fun b => dL (tl a.1 b.1 b.2)) s := by
    refine ev_lc2 (ex := dS) (ey := dF) (f := fun b => dL (tl a.1 b.1 b.2)) (p := fun b => decide (b.2 ≠ (0, 1))) p a.2 (by simp [ev, dN, dFs]) (fun b hb => ⟨dS_clo _, dF_clo _, ?_, fun _ => ⟨?_, dS_clo _⟩⟩) (by rw [List.length_zip]; have := h.c.five; show _ ≤ 16777216; omega)
    · have he : eqD s (dF b.2) (dF (0, 1)) = some (decide (b.2 = (0, 1))) := by
        rw [eqD_pln (dF_pln _ 59) (dF_pln _ 59)]
        exact congrArg some (decide_eq_decide.mpr dF_inj)
      have he : eqD s (dF b.2) (.tup [.int 0, .int 1]) = some (decide (b.2 = (0, 1))) := he
      simp [wipeE, wipeC, ev, optR, opCmp, he, line]
    · have hm := List.of_mem_zip hb
      have hw1 := (h.c.nam _ hr.1).w
      have hw2 := (h.c.nam _ hm.1).w
      have hf := h.tf _ hr.2 _ hm.2
      have l0 := hw1.le
      have l1 := hw2.le
      have l2 := hf.a
      have l3 := hf.b
      have l4 := cT_len
      have b1 := bStr_ok s hf.x
      have b2 := bStr_ok s hf.y
      have j1 := join_ok s (w := tl a.1 b.1 b.2) (by simp [tl]; omega)
      have j1 : mJoin s (.str (S sp)) [.lst [.str (S cT), dS a.1, dS b.1, dS (numI b.2.1), dS (numI b.2.2)]] = .ok (dL (tl a.1 b.1 b.2)) s := j1
      have ho : mtOk s .join (.str (S sp)) = true := rfl
      simp [wipeE, wipeC, ev, spaceS, trustS, ho, opBlt, opIx, dF, b1, b2, line, opMth, j1]
  rw [e]
  unfold endL tr1
  rw [if_neg Bool.false_ne_true, List.map_map]
  rfl
theorem text_ok (k : Nat) (h : Gd p t m) (s : Store) : (lev tx (k + 1)).fn (Str.ofString "_law_text") [dP p t, dFs m] s = .ok (dX p t m) s := by
  rw [fn__law_text]
  have hpl := lnJ_len h
  have e0 : ex (lev tx k) b__law_text_0 [some (dP p t), some (dFs m), nn, nn, nn, nn, nn, nn, nn, nn, nn] s = .ok (.nx [some (dP p t), some (dFs m), some (dN p), some (dT t), nn, nn, nn, nn, nn, nn, nn]) s := by
    have : dP p t = .tup [dN p, dT t] := rfl
    simp [b__law_text_0, ex, ev, this, D.hasCloL, asnGs, asnG]
  have e1 := text_1 k h s
  obtain ⟨δ', S', e2, hS', x, y, hδ⟩ := ex_for2 (g := lev tx k) (c := true) (v := 7) (w := 8) (ik := .zip) (it := [.var 2, .var 3]) (b := q__law_text_2) (δ := [some (dP p t), some (dFs m), some (dN p), some (dT t), some (.lst ((fol p m).map dL)), nn, nn, nn, nn, nn, nn]) (S := s) (ex1 := fun a : List Nat × List Fr => dS a.1) (ex2 := fun a => dFs a.2) (ys := [dN p, dT t])
    (P := fun j δ S' => S' = s ∧ ∃ x y, δ = [some (dP p t), some (dFs m), some (dN p), some (dT t), some (.lst (lnJ p t m j)), nn, nn, x, y, nn, nn]) (p.zip t) (by
      generalize (fol p m).map dL = u at *
      simp [ev]) (by
      unfold iterK
      dsimp only
      unfold dN dT itZip
      dsimp only
      rw [zip_map]) ⟨rfl, none, none, by unfold lnJ tsJ; simp⟩ (fun a ha => ⟨dS_clo _, dFs_clo _⟩) (fun j a δ S' hj ⟨hS', x, y, hδ⟩ => by
      subst hS'
      subst hδ
      have e := text_2 k h S' (List.mem_of_getElem? hj) (R := some (.lst (lnJ p t m j))) (A := dP p t) (B := dFs m)
      have hs := lnJ_succ (m := m) hj
      have hn := hpl (j + 1)
      rw [hs, List.length_append] at hn
      refine ⟨_, S', ?_, rfl, some (dS a.1), some (dFs a.2), rfl⟩
      have hx : opAdd S' (.lst (lnJ p t m j)) (.lst ((tr1 p a).map fun b => dL (trl b))) = .ok (.lst (lnJ p t m (j + 1))) S' := by
        rw [hs]
        show (if _ ≤ 16777216 then _ else _) = _
        rw [if_pos (by omega)]
      have hcl : (D.lst (lnJ p t m j)).hasClo = false := by unfold D.hasClo; exact lnJ_clo j
      generalize lnJ p t m (j + 1) = v' at *
      generalize D.lst (lnJ p t m j) = v at *
      generalize (tr1 p a).map (fun b => dL (trl b)) = u at *
      simp [wipeC, hcl, q__law_text_2, b__law_text_2_0, exs, seqF, ex, ev, e, opBin, hx, asnG])
  subst hS'
  subst hδ
  rw [lnJ_all] at e2
  have e2 : ex (lev tx k) b__law_text_2 [some (dP p t), some (dFs m), some (dN p), some (dT t), some (.lst ((fol p m).map dL)), nn, nn, nn, nn, nn, nn] S' = _ := e2
  have hx := dX_clo (p := p) (t := t) (m := m)
  unfold dX at *
  have : ((lns p t m).map dL) = ((lns p t m).map fun w => dS (line_ w)) := rfl
  rw [this] at e2
  generalize ((lns p t m).map fun w => dS (line_ w)) = u at *
  generalize (fol p m).map dL = u' at *
  simp [r__law_text, fnF, startE, exs, seqF, e0, e1, e2]
  simp [b__law_text_3, ex, ev, opBlt, bTuple, seqD, asL, optR, retF, retR, leave, leaveOk, hx]
end LW
end
section
set_option Elab.async false
set_option linter.all false
set_option maxRecDepth 100000
set_option maxHeartbeats 1000000
/-! What is drawn: figures, one of some. -/
namespace LW
open PySem MM SX
/-- no references at all -/
def Flat (S : Store) : Prop := ∀ m ∈ S, ∀ k, MO.under k m = true
theorem Flat.sok {S : Store} (h : Flat S) : Sok S := List.all_eq_true.mpr fun m hm => h m hm _
theorem under_ints (k : Nat) : ∀ l : List Int, D.underL k (l.map .int) = true
  | [] => rfl
  | a :: l => by
    rw [List.map_cons]
    unfold D.underL
    rw [under_ints k l]
    rfl
theorem Flat.set {S : Store} (h : Flat S) {r : Nat} {m : MO} (hm : ∀ k, MO.under k m = true) : Flat (S.set r m) := fun x hx k => by
  rcases List.mem_or_eq_of_mem_set hx with hx | rfl
  · exact h x hx k
  · exact hm k
theorem Flat.snoc {S : Store} (h : Flat S) {m : MO} (hm : ∀ k, MO.under k m = true) : Flat (S ++ [m]) := fun x hx k => by
  rcases List.mem_append.mp hx with hx | hx
  · exact h x hx k
  · rw [List.mem_singleton.mp hx]
    exact hm k
theorem Flat.take {S : Store} (h : Flat S) {n : Nat} : Flat (S.take n) := fun x hx k => h x (List.mem_of_mem_take hx) k
/-- a lamp at r, drawn from so often -/
structure Lp (r n C : Nat) (S : Store) : Prop where
  len : S.length = n
  flat : Flat S
  lamp : ∃ a b c : Int, S[r]? = some (.lst [.int a, .int b, .int c]) ∧ 0 ≤ b ∧ b < 2147482801 ∧ 0 ≤ c ∧ c ≤ (C : Int)
theorem Lp.mono {r n C C' : Nat} {S : Store} (h : Lp r n C S) (l : C ≤ C') : Lp r n C' S := ⟨h.len, h.flat, by
  obtain ⟨a, b, c, h1, h2, h3, h4, h5⟩ := h.lamp
  exact ⟨a, b, c, h1, h2, h3, h4, by omega⟩⟩
/-- the rest stays -/
abbrev Upd (r : Nat) (S S' : Store) : Prop := ∀ j, j ≠ r → S'[j]? = S[j]?
theorem bits_lt {i : Int} {n : Nat} (h : i.natAbs < 2 ^ n) : Bits n i := h
theorem wick_ok (k : Nat) {r n C : Nat} {many : Int} {S : Store} (h : Lp r n C S) (hC : C < 100000) (h0 : 0 < many) (h1 : many ≤ 1000) : ∃ i S', (lev tx (k + 1)).fn (Str.ofString "_law_wick") [.ref r, .int many] S = .ok (.int i) S' ∧ 0 ≤ i ∧ i < many ∧ Lp r n (C + 1) S' ∧ Upd r S S' := by
  obtain ⟨a, b, c, e, b0, b1, c0, c1⟩ := h.lamp
  have hr : r < S.length := (List.getElem?_eq_some_iff.mp e).1
  rw [fn__law_wick]
  have i0 : opIx S (.ref r) (.int 0) = .ok (.int a) S := by simp [opIx, asL, e]
  by_cases ha : 0 < a
  · refine ⟨a % many, S.set r (.lst [.int (a / many), .int b, .int c]), ?_, Int.emod_nonneg _ (by omega), Int.emod_lt_of_pos _ h0, ⟨by rw [List.length_set]; exact h.len, h.flat.set fun k => rfl, ⟨a / many, b, c, by simp [hr], b0, b1, c0, by omega⟩⟩, fun j hj => by rw [List.getElem?_set_ne (fun z => hj z.symm)]⟩
    have hm : 0 < many ∧ many < 1073741824 := ⟨h0, by omega⟩
    have ip : opPut S (.ref r) (.int 0) (.int (a / many)) = some (S.set r (.lst [.int (a / many), .int b, .int c])) := by
      unfold opPut
      dsimp only
      rw [e]
      rfl
    simp [r__law_wick, b__law_wick_0, q__law_wick_0_a, b__law_wick_0_a_0, b__law_wick_0_a_1, fnF, startE, exs, seqF, ex, ev, i0, opCmp, ltD, ha, opBlt, bDivmod, hm, D.hasClo, D.hasCloL, asnGs, asnG, ip, retF, retR, leave, leaveOk]
  · have i2 : opIx S (.ref r) (.int 2) = .ok (.int c) S := by simp [opIx, asL, e]
    have ip2 : opPut S (.ref r) (.int 2) (.int (c + 1)) = some (S.set r (.lst [.int a, .int b, .int (c + 1)])) := by
      unfold opPut
      dsimp only
      rw [e]
      rfl
    have e1 : (S.set r (.lst [.int a, .int b, .int (c + 1)]))[r]? = some (.lst [.int a, .int b, .int (c + 1)]) := by simp [hr]
    have j1 : opIx (S.set r (.lst [.int a, .int b, .int (c + 1)])) (.ref r) (.int 1) = .ok (.int b) (S.set r (.lst [.int a, .int b, .int (c + 1)])) := by simp [opIx, asL, hr]
    have j2 : opIx (S.set r (.lst [.int a, .int b, .int (c + 1)])) (.ref r) (.int 2) = .ok (.int (c + 1)) (S.set r (.lst [.int a, .int b, .int (c + 1)])) := by simp [opIx, asL, hr]
    have m0 : 0 ≤ b % 9829 := Int.emod_nonneg _ (by decide)
    have m1 : b % 9829 < 9829 := Int.emod_lt_of_pos _ (by decide)
    have q1 : mulOk b (b % 9829 + 43003) = true := mulOk_of (n := 31) (m := 17) (bits_lt (by show _ < 2147483648; omega)) (bits_lt (by show _ < 131072; omega)) (by decide)
    have q2 : mulOk 10177 (c + 1) = true := mulOk_of (n := 14) (m := 17) (bits_lt (by decide)) (bits_lt (by show _ < 131072; omega)) (by decide)
    have q3 : divOk 499 = true := divOk_of (n := 9) (by decide) (bits_lt (by decide)) (by decide)
    generalize hw : (b * (b % 9829 + 43003) + 10177 * (c + 1) + 181) = w
    have w0 : 0 ≤ w % 2147482801 := Int.emod_nonneg _ (by decide)
    have w1 : w % 2147482801 < 2147482801 := Int.emod_lt_of_pos _ (by decide)
    have ip3 : opPut (S.set r (.lst [.int a, .int b, .int (c + 1)])) (.ref r) (.int 1) (.int (w % 2147482801)) = some (S.set r (.lst [.int a, .int (w % 2147482801), .int (c + 1)])) := by
      unfold opPut
      dsimp only
      rw [e1]
      show some ((S.set r _).set r _) = _
      rw [List.set_set]
      rfl
    have j3 : opIx (S.set r (.lst [.int a, .int (w % 2147482801), .int (c + 1)])) (.ref r) (.int 1) = .ok (.int (w % 2147482801)) (S.set r (.lst [.int a, .int (w % 2147482801), .int (c + 1)])) := by simp [opIx, asL, hr]
    refine ⟨(w % 2147482801 / 499) % many, S.set r (.lst [.int a, .int (w % 2147482801), .int (c + 1)]), ?_, Int.emod_nonneg _ (by omega), Int.emod_lt_of_pos _ h0, ⟨by rw [List.length_set]; exact h.len, h.flat.set fun k => rfl, ⟨a, _, c + 1, by simp [hr], w0, w1, by omega, by omega⟩⟩, fun j hj => by rw [List.getElem?_set_ne (fun z => hj z.symm)]⟩
    simp [r__law_wick, b__law_wick_0, b__law_wick_1, b__law_wick_2, b__law_wick_3, fnF, startE, exs, seqF, ex, ev, i0, i2, opCmp, ltD, ha, opBin, opAdd, D.hasClo, asnG, ip2, j1, j2, opBlt, bInt, q1, q2, hw, ip3, j3, q3, h0, retF, retR, leave, leaveOk]
theorem of_ok (k : Nat) {r n C : Nat} {l : List D} {S : Store} (h : Lp r n C S) (hC : C < 100000) (h0 : 0 < l.length) (h1 : l.length ≤ 1000) (hc : ∀ d ∈ l, d.hasClo = false) : ∃ d S', (lev tx (k + 2)).fn (Str.ofString "_law_of") [.ref r, .lst l] S = .ok d S' ∧ d ∈ l ∧ Lp r n (C + 1) S' ∧ Upd r S S' := by
  rw [fn__law_of]
  obtain ⟨i, S', e, i0, i1, hL, hU⟩ := wick_ok k (many := (l.length : Int)) h hC (by omega) (by omega)
  have hi : i.toNat < l.length := by omega
  have ix : opIx S' (.lst l) (.int i) = .ok l[i.toNat] S' := by
    have : L2.atI l i = some l[i.toNat] := by
      have := atI_nat (l := l) (i := i.toNat) (List.getElem?_eq_getElem hi)
      rw [show ((i.toNat : Nat) : Int) = i by omega] at this
      exact this
    unfold opIx
    dsimp only
    rw [show asL S' (.lst l) = some l from rfl]
    dsimp only
    rw [this]
  refine ⟨l[i.toNat], S', ?_, List.getElem_mem hi, hL, hU⟩
  have hd := hc _ (List.getElem_mem hi)
  have hlen : S'.length = S.length := by rw [hL.len, h.len]
  generalize l[i.toNat] = d at *
  simp [r__law_of, b__law_of_0, fnF, startE, exs, seqF, ex, ev, opBlt, bLen, lenD, asL, optR, e, ix, retF, hd, retR, leave, leaveOk, hlen]
theorem of_str (k : Nat) {r n C : Nat} {c : List Nat} {S₀ : Store} (h : Lp r n C S₀) (hC : C < 100000) (h0 : 0 < c.length) (h1 : c.length ≤ 1000) : ∃ x S', (lev tx (k + 2)).fn (Str.ofString "_law_of") [.ref r, dS c] S₀ = .ok (dS [x]) S' ∧ x ∈ c ∧ Lp r n (C + 1) S' ∧ Upd r S₀ S' := by
  rw [fn__law_of]
  obtain ⟨i, S', e, i0, i1, hL, hU⟩ := wick_ok k (many := (c.length : Int)) h hC (by omega) (by omega)
  have hi : i.toNat < c.length := by omega
  have ix : opIx S' (dS c) (.int i) = .ok (dS [c[i.toNat]]) S' := by
    have : L2.atI c i = some c[i.toNat] := by
      have := atI_nat (l := c) (i := i.toNat) (List.getElem?_eq_getElem hi)
      rw [show ((i.toNat : Nat) : Int) = i by omega] at this
      exact this
    unfold opIx dS
    dsimp only
    rw [S_len, if_pos (show _ ≤ 16777216 by omega), this]
  refine ⟨c[i.toNat], S', ?_, List.getElem_mem hi, hL, hU⟩
  have hlen : S'.length = S₀.length := by rw [hL.len, h.len]
  have hs := len_S (c := c) S₀ (by omega)
  generalize c[i.toNat] = d at *
  simp [r__law_of, b__law_of_0, fnF, startE, exs, seqF, ex, ev, opBlt, bLen, hs, optR, e, ix, retF, retR, leave, leaveOk, hlen]
theorem low_loop (k : Nat) {A B : D} {S : Store} : ∀ (n : Nat) (a b : Nat), b < n → whlLoop (ev (lev tx k) (.cmp .Gt (.var 3) (.cint 0))) (exs (lev tx k) q__law_low_1) n [some A, some B, some (.int (a : Int)), some (.int (b : Int))] S = .ok (.nx [some A, some B, some (.int ((Nat.gcd a b : Nat) : Int)), some (.int 0)]) S
  | 0, _, _, h => absurd h (Nat.not_lt_zero _)
  | n + 1, a, b, h => by
    by_cases hb : b = 0
    · subst hb
      rw [Nat.gcd_zero_right]
      simp [whlLoop, ev, opCmp, ltD]
    · have hp : (0 : Int) < (b : Int) := by omega
      have hr : a % b < b := Nat.mod_lt _ (by omega)
      have ih := low_loop k (A := A) (B := B) (S := S) n b (a % b) (by omega)
      rw [show Nat.gcd b (a % b) = Nat.gcd a b by rw [Nat.gcd_comm b, ← Nat.gcd_rec, Nat.gcd_comm], Int.natCast_emod] at ih
      have c1 : ev (lev tx k) (.cmp .Gt (.var 3) (.cint 0)) [some A, some B, some (.int (a : Int)), some (.int (b : Int))] S = .ok (.bl true) S := by
        simp [ev, opCmp, ltD, Nat.pos_of_ne_zero hb]
      have c2 : exs (lev tx k) q__law_low_1 [some A, some B, some (.int (a : Int)), some (.int (b : Int))] S = .ok (.nx [some A, some B, some (.int (b : Int)), some (.int ((a : Int) % (b : Int)))]) S := by
        simp [q__law_low_1, b__law_low_1_0, exs, seqF, ex, ev, opBlt, bInt, opBin, Nat.pos_of_ne_zero hb]
      rw [whlLoop, c1, Res.bind_ok]
      dsimp only
      rw [c2, Res.bind_ok]
      exact ih
theorem lawlow_ok (k : Nat) {a b : Int} (S : Store) (h0 : 0 < b) (h1 : b < 1000) : (lev tx (k + 1)).fn (Str.ofString "_law_low") [.int a, .int b] S = .ok (dF (low a b)) S := by
  rw [fn__law_low]
  have hf := fuel_le
  have e := low_loop k (A := .int a) (B := .int b) (S := S) fuelW a.natAbs b.natAbs (by omega)
  have ha : (if a < 0 then -a else a) = (a.natAbs : Int) := by split <;> omega
  have hb : (if b < 0 then -b else b) = (b.natAbs : Int) := by split <;> omega
  have hd := divOk_of (n := 10) (j := ((Nat.gcd a.natAbs b.natAbs : Nat) : Int)) (by have := gcd_pos (a := a) h0; omega) (gcd_bits (a := a) h0 (bits_lt (by show _ < 1024; omega))) (by decide)
  have ew : ex (lev tx k) b__law_low_1 [some (.int a), some (.int b), some (.int (a.natAbs : Int)), some (.int (b.natAbs : Int))] S = _ := e
  have e0 : ex (lev tx k) b__law_low_0 [some (.int a), some (.int b), none, none] S = .ok (.nx [some (.int a), some (.int b), some (.int (a.natAbs : Int)), some (.int (b.natAbs : Int))]) S := by
    unfold b__law_low_0 ex
    rw [show evs (lev tx k) [.blt .abs [.var 0], .blt .abs [.var 1]] [some (.int a), some (.int b), none, none] S = .ok [.int (a.natAbs : Int), .int (b.natAbs : Int)] S by
      simp only [evs_blt, ev, evs_var, evs_nil, List.getElem?_cons_zero, List.getElem?_cons_succ, Res.bind_ok, opBlt, bAbs, ha, hb]]
    rfl
  generalize ((a.natAbs : Nat) : Int) = x at e0 ew
  generalize ((b.natAbs : Nat) : Int) = y at e0 ew
  generalize hg : ((Nat.gcd a.natAbs b.natAbs : Nat) : Int) = g at *
  have hl : low a b = (a / g, b / g) := by rw [← hg]; rfl
  simp [r__law_low, fnF, startE, exs, seqF, e0, ew]
  simp [b__law_low_2, b__law_low_3, ex, ev, opCmp, ltD, h0, asnG, opBin, hd, line, retF, retR, leave, leaveOk, D.hasClo, D.hasCloL, hl, dF]
end LW
end
section
set_option Elab.async false
set_option linter.all false
set_option maxRecDepth 100000
set_option maxHeartbeats 1000000
/-! Drawn names. -/
namespace LW
open PySem MM SX
def codes (w : String) : List Nat := w.toList.map Char.toNat
def w1 : List (List Nat) := ["agree", "all", "back", "beat", "book", "case", "circle", "end", "firm", "group", "hear", "in", "last", "mean", "meet", "middle", "mind", "near", "none", "of", "out", "people"].map codes
def w2 : List (List Nat) := ["quit", "rest", "rhythm", "row", "say", "spread", "swing", "take", "trust", "undo", "web", "weight", "yes", "zzzzzzzz", "zzzzzzzy"].map codes
def badN : List (List Nat) := w1 ++ w2
def ownN : List (List Nat) := [cP, cT]
theorem w1S : Str.ofString "agree all back beat book case circle end firm group hear in last mean meet middle mind near none of out people" = S (line_ w1) := by kernel_rfl
theorem w2S : Str.ofString "quit rest rhythm row say spread swing take trust undo web weight yes zzzzzzzz zzzzzzzy" = S (line_ w2) := by kernel_rfl
theorem ownS : Str.ofString "person trust" = S (line_ ownN) := by kernel_rfl
def wdB (w : List (List Nat)) : Bool := !w.isEmpty && (w.all (fun c => c.all fun x => decide (x < 0x110000) && !decide (x = 32)) && decide ((line_ w).length ≤ 10000))
theorem wd_of {w : List (List Nat)} (h : wdB w = true) : Wd w := by
  unfold wdB at h
  rw [Bool.and_eq_true, Bool.and_eq_true] at h
  obtain ⟨h1, h2, h3⟩ := h
  have hh : ∀ c ∈ w, ∀ x ∈ c, x < 0x110000 ∧ ¬ x = 32 := fun c hc x hx => by
    have := List.all_eq_true.mp (List.all_eq_true.mp h2 c hc) x hx
    rw [Bool.and_eq_true] at this
    exact ⟨of_decide_eq_true this.1, fun z => by rw [z] at this; exact absurd this.2 (by decide)⟩
  exact ⟨(fun z => by rw [z] at h1; cases h1), fun c hc z => (hh c hc 32 z).2 rfl, fun c hc x hx => (hh c hc x hx).1, of_decide_eq_true h3⟩
theorem w1_wd : Wd w1 := wd_of (by kernel_rfl)
theorem w2_wd : Wd w2 := wd_of (by kernel_rfl)
theorem own_wd : Wd ownN := wd_of (by kernel_rfl)
theorem split_w (s : Store) {w : List (List Nat)} (h : Wd w) : mSplit s (.str (S (line_ w))) [.str (S [32])] = .ok (.lst (w.map dS)) s := by
  rw [← spaceS]
  exact split_ok s h
theorem own_ok (k : Nat) (s : Store) : (lev tx (k + 1)).fn (Str.ofString "_law_own") [] s = .ok (.lst (ownN.map dS)) s := by
  rw [fn__law_own]
  have e := split_w s own_wd
  have ho : mtOk s .split (.str (S (line_ ownN))) = true := rfl
  have hc : D.hasCloL (ownN.map dS) = false := hasCloL_map dS_clo _
  generalize ownN.map dS = u at *
  simp [r__law_own, b__law_own_0, fnF, startE, exs, seqF, ex, ev, ownS, spaceS, ho, opMth, e, retF, retR, leave, leaveOk, D.hasClo, hc]
/-! ### one that is free -/
theorem letters_nodup : letters.Nodup := by
  have : decide letters.Nodup = true := by decide +kernel
  exact of_decide_eq_true this
theorem letters_len : letters.length = 26 := by kernel_rfl
def allBad (fs : List (List Nat)) : List (List Nat) := badN ++ fs ++ ownN
theorem few_bad (q : List Nat) : ((badN ++ ownN).filter fun b => decide (b.dropLast = q)).length ≤ 5 := by
  have h : (badN ++ ownN).all (fun a => decide (((badN ++ ownN).filter fun b => decide (b.dropLast = a.dropLast)).length ≤ 5)) = true := by decide +kernel
  cases hf : (badN ++ ownN).filter fun b => decide (b.dropLast = q) with
  | nil => exact Nat.zero_le _
  | cons a r =>
    have ha : a ∈ (badN ++ ownN).filter fun b => decide (b.dropLast = q) := by rw [hf]; exact List.mem_cons_self
    obtain ⟨h1, h2⟩ := List.mem_filter.mp ha
    have h2 := of_decide_eq_true h2
    have h3 := of_decide_eq_true (List.all_eq_true.mp h a h1)
    rw [h2, hf] at h3
    exact h3
theorem free_one {fs : List (List Nat)} (hl : fs.length ≤ 4) (q : List Nat) : ∃ x ∈ letters, q ++ [x] ∉ allBad fs := by
  refine free_sign letters_nodup q ?_
  rw [letters_len]
  have h1 := few_bad q
  unfold allBad
  rw [List.filter_append, List.filter_append, List.length_append, List.length_append]
  rw [List.filter_append, List.length_append] at h1
  have := List.length_filter_le (fun b : List Nat => decide (b.dropLast = q)) fs
  omega
theorem words_bad : ∀ c ∈ wordsN, c ∈ badN ++ ownN := by
  have h : wordsN.all (fun c => (badN ++ ownN).contains c) = true := by decide +kernel
  intro c hc
  have := List.all_eq_true.mp h c hc
  simpa using this
theorem bad_asc : ∀ c ∈ badN ++ ownN, Asc c := fun c hc => by
  rcases List.mem_append.mp hc with hc | hc
  · rcases List.mem_append.mp hc with hc | hc
    · exact w1_wd.asc c hc
    · exact w2_wd.asc c hc
  · exact own_wd.asc c hc
/-- what may be taken -/
def cands (w : List Nat) : List (List Nat) := w :: letters.map fun x => w.take 7 ++ [x]
theorem cands_word {w : List Nat} (h : IsWord w) : ∀ c ∈ cands w, IsWord c := by
  intro c hc
  rcases List.mem_cons.mp hc with rfl | hc
  · exact h
  · obtain ⟨x, hx, rfl⟩ := List.mem_map.mp hc
    refine ⟨by simp, ?_, fun y hy => ?_⟩
    · rw [List.length_append, List.length_take, List.length_singleton]
      omega
    · rcases List.mem_append.mp hy with hy | hy
      · exact h.let_ y (List.mem_of_mem_take hy)
      · rw [List.mem_singleton.mp hy]
        exact hx
theorem cands_free {w : List Nat} {fs : List (List Nat)} (hl : fs.length ≤ 4) : ∃ c r, ((cands w).filter fun c => !decide (c ∈ allBad fs)) = c :: r ∧ c ∈ cands w ∧ c ∉ allBad fs := by
  cases h : (cands w).filter fun c => !decide (c ∈ allBad fs) with
  | nil =>
    exfalso
    obtain ⟨x, hx, hn⟩ := free_one hl (w.take 7)
    have : w.take 7 ++ [x] ∈ (cands w).filter fun c => !decide (c ∈ allBad fs) := List.mem_filter.mpr ⟨List.mem_cons_of_mem _ (List.mem_map.mpr ⟨x, hx, rfl⟩), by rw [decide_eq_false hn]; rfl⟩
    rw [h] at this
    cases this
  | cons c r =>
    have hc : c ∈ (cands w).filter fun c => !decide (c ∈ allBad fs) := by rw [h]; exact List.mem_cons_self
    obtain ⟨h1, h2⟩ := List.mem_filter.mp hc
    exact ⟨c, r, rfl, h1, fun z => by rw [decide_eq_true z] at h2; cases h2⟩
theorem name_of {c w : List Nat} {fs : List (List Nat)} (hw : IsWord w) (h1 : c ∈ cands w) (h2 : c ∉ allBad fs) : IsName c ∧ c ∉ fs := by
  refine ⟨⟨cands_word hw c h1, fun z => h2 ?_⟩, fun z => h2 ?_⟩
  · rcases List.mem_append.mp (words_bad c z) with h | h
    · exact List.mem_append_left _ (List.mem_append_left _ h)
    · exact List.mem_append_right _ h
  · exact List.mem_append_left _ (List.mem_append_right _ z)
/-! ### the code -/
abbrev dB : D := .lst (badN.map dS)
theorem dB_clo : dB.hasClo = false := by unfold D.hasClo; exact hasCloL_map dS_clo _
/-- what stands in a lap -/
abbrev E5 (r f : Nat) (many : Int) (W : D) (x5 x6 x7 : Option D) : En := [some (.ref r), some (.int many), some W, some dB, some (.ref f), x5, x6, x7, nn, nn]
def wp (o : Option D) : Option D := match o with
  | some d => if d.hasClo then none else some d
  | none => none
theorem wipe_E5 {r f : Nat} {many : Int} {W : D} (hW : W.hasClo = false) (x5 x6 x7 : Option D) : wipeC (E5 r f many W x5 x6 x7) = E5 r f many W (wp x5) (wp x6) (wp x7) := by
  have hB := dB_clo
  unfold E5
  generalize dB = B at *
  unfold wipeC
  simp only [List.map_cons, List.map_nil, D.hasClo, hW, hB]
  rfl
theorem name_0 (k : Nat) {r f : Nat} {many : Int} {W : D} (hW : W.hasClo = false) (x5 x6 x7 : Option D) (s : Store) : ∃ y5 y7, ex (lev tx k) b__law_names_2_0 (E5 r f many W x5 x6 x7) s = .ok (.nx (E5 r f many W y5 (some (dS [])) y7)) s := by
  refine ⟨wp x5, wp x7, ?_⟩
  have hw := wipe_E5 (r := r) (f := f) (many := many) hW x5 x6 x7
  generalize E5 r f many W x5 x6 x7 = δ at *
  simp [b__law_names_2_0, ex, ev, asnG, D.hasClo, hw, emptyS]
  rfl
theorem name_1 (k : Nat) {r f n C : Nat} {many : Int} {W : D} {x5 x7 : Option D} {s : Store} (h : Lp r n C s) (hC : C < 99000) (hW : W.hasClo = false) :
    ∃ y5 y7 w s', ex (lev tx (k + 2)) b__law_names_2_1 (E5 r f many W x5 (some (dS [])) x7) s = .ok (.nx (E5 r f many W y5 (some (dS w)) y7)) s' ∧ IsWord w ∧ Lp r n (C + 10) s' ∧ Upd r s s' := by
  have hB := dB_clo
  obtain ⟨d, s1, e1, hd, hL, hU⟩ := of_ok k (l := [.int 0, .int 0, .int 1, .int 2, .int 7]) h (by omega) (by simp) (by simp) (by simp [D.hasClo])
  obtain ⟨v, rfl, hv⟩ : ∃ v : Nat, d = .int v ∧ v ≤ 7 := by
    simp only [List.mem_cons, List.not_mem_nil, or_false] at hd
    rcases hd with rfl | rfl | rfl | rfl | rfl
    · exact ⟨0, rfl, by decide⟩
    · exact ⟨0, rfl, by decide⟩
    · exact ⟨1, rfl, by decide⟩
    · exact ⟨2, rfl, by decide⟩
    · exact ⟨7, rfl, by decide⟩
  obtain ⟨δ', s', e2, w, y5, y7, hδ, hw1, hw2, hL2, hU2⟩ := ex_forR' (g := lev tx (k + 2)) (v := 7) (it := .bin .Add (.cint 1) (.call (Str.ofString "_law_of") [.var 0, .lst false [.cint 0, .cint 0, .cint 1, .cint 2, .cint 7]])) (b := q__law_names_2_1) (δ := E5 r f many W x5 (some (dS [])) x7) (S := s) (S1 := s1) (n := 1 + v)
    (P := fun j δ S' => ∃ w y5 y7, δ = E5 r f many W y5 (some (dS w)) y7 ∧ w.length = j ∧ (∀ x ∈ w, x ∈ letters) ∧ Lp r n (C + 1 + j) S' ∧ Upd r s S') (by
      unfold E5
      generalize dB = B at *
      simp [ev, line, e1, opBin, opAdd]) (by omega) ⟨[], x5, x7, rfl, rfl, fun x hx => absurd hx List.not_mem_nil, hL, hU⟩ (fun j δ S' hj ⟨w, y5, y7, hδ, hw1, hw2, hL, hU⟩ => by
      subst hδ
      obtain ⟨x, S2, e, hx, hL2, hU2⟩ := of_str k (c := letters) hL (by omega) (by rw [letters_len]; decide) (by rw [letters_len]; decide)
      have ha : opAdd S2 (dS w) (dS [x]) = .ok (dS (w ++ [x])) S2 := by
        unfold opAdd dS
        dsimp only
        rw [S_len, S_len, S_cat]
        exact if_pos (show w.length + 1 ≤ 16777216 by omega)
      refine ⟨E5 r f many W (wp y5) (some (dS (w ++ [x]))) (wp (some (.int (j : Int)))), S2, ?_, w ++ [x], _, _, rfl, by simp [hw1], fun y hy => ?_, by rw [← Nat.add_assoc]; exact hL2, fun j hj => by rw [hU2 j hj, hU j hj]⟩
      · have hs : (E5 r f many W y5 (some (dS w)) y7).set 7 (some (.int (j : Int))) = E5 r f many W y5 (some (dS w)) (some (.int (j : Int))) := rfl
        rw [hs]
        have hw := wipe_E5 (r := r) (f := f) (many := many) hW y5 (some (dS w)) (some (.int (j : Int)))
        have g0 : (E5 r f many W y5 (some (dS w)) (some (.int (j : Int))))[0]? = some (some (.ref r)) := rfl
        have g6 : (E5 r f many W y5 (some (dS w)) (some (.int (j : Int))))[6]? = some (some (dS w)) := rfl
        generalize E5 r f many W y5 (some (dS w)) (some (.int (j : Int))) = δ at *
        have hd : (dS (w ++ [x])).hasClo = false := rfl
        simp [q__law_names_2_1, b__law_names_2_1_0, exs, seqF, ex, ev, g0, g6, lettersS, show D.str (S letters) = dS letters from rfl, e, opBin, ha, asnG, hd, hw]
        try rfl
      · rcases List.mem_append.mp hy with hy | hy
        · exact hw2 y hy
        · rw [List.mem_singleton.mp hy]
          exact hx)
  subst hδ
  refine ⟨y5, y7, w, s', e2, ⟨fun z => by rw [z] at hw1; simp at hw1; omega, by omega, hw2⟩, hL2.mono (by omega), hU2⟩
end LW
end
section
set_option Elab.async false
set_option linter.all false
set_option maxRecDepth 100000
set_option maxHeartbeats 1000000
/-! Drawn names: all. -/
namespace LW
open PySem MM SX
theorem aS : Str.ofString "a" = S [97] := by kernel_rfl
theorem bS : Str.ofString "b" = S [98] := by kernel_rfl
theorem mindsS : Str.ofString "minds" = S (codes "minds") := by kernel_rfl
theorem word_a : IsWord [97] := ⟨by decide, by decide, by decide⟩
theorem word_b : IsWord [98] := ⟨by decide, by decide, by decide⟩
theorem word_m : IsWord (codes "minds") := ⟨by decide, by decide, by decide⟩
theorem name_2 (k : Nat) {r f n C : Nat} {many : Int} {W : D} {x5 x7 : Option D} {w : List Nat} {s : Store} (h : Lp r n C s) (hC : C < 99000) (hW : W.hasClo = false) (hw : IsWord w) :
    ∃ y5 y7 w' s', ex (lev tx (k + 2)) b__law_names_2_2 (E5 r f many W x5 (some (dS w)) x7) s = .ok (.nx (E5 r f many W y5 (some (dS w')) y7)) s' ∧ IsWord w' ∧ Lp r n (C + 1) s' ∧ Upd r s s' := by
  obtain ⟨d, s1, e1, hd, hL, hU⟩ := of_ok k (l := [dS [97], dS [98], dS (codes "minds"), dS w, dS w, dS w, dS w]) h (by omega) (by simp) (by simp) (by simp)
  obtain ⟨w', rfl, hw'⟩ : ∃ w', d = dS w' ∧ IsWord w' := by
    simp only [List.mem_cons, List.not_mem_nil, or_false] at hd
    rcases hd with rfl | rfl | rfl | rfl | rfl | rfl | rfl
    · exact ⟨_, rfl, word_a⟩
    · exact ⟨_, rfl, word_b⟩
    · exact ⟨_, rfl, word_m⟩
    · exact ⟨_, rfl, hw⟩
    · exact ⟨_, rfl, hw⟩
    · exact ⟨_, rfl, hw⟩
    · exact ⟨_, rfl, hw⟩
  refine ⟨wp x5, wp x7, w', s1, ?_, hw', hL, hU⟩
  have hwp := wipe_E5 (r := r) (f := f) (many := many) hW x5 (some (dS w)) x7
  have g0 : (E5 r f many W x5 (some (dS w)) x7)[0]? = some (some (.ref r)) := rfl
  have g6 : (E5 r f many W x5 (some (dS w)) x7)[6]? = some (some (dS w)) := rfl
  have hs : (E5 r f many W (wp x5) (wp (some (dS w))) (wp x7)).set 6 (some (dS w')) = E5 r f many W (wp x5) (some (dS w')) (wp x7) := rfl
  have hd : (dS w').hasClo = false := rfl
  generalize E5 r f many W x5 (some (dS w)) x7 = δ at *
  simp [b__law_names_2_2, ex, ev, g0, g6, line, aS, bS, mindsS, show D.str (S [97]) = dS [97] from rfl, show D.str (S [98]) = dS [98] from rfl, show D.str (S (codes "minds")) = dS (codes "minds") from rfl, e1, asnG, hd, hwp, hs]
theorem name_c (k : Nat) {r f : Nat} {many : Int} {W : D} {x5 x7 : Option D} {w : List Nat} {s : Store} (hW : W.hasClo = false) (hw : IsWord w) : ev (lev tx k) t__law_names_0 (E5 r f many W x5 (some (dS w)) x7) s = .ok (.lst (letters.map fun x => dS (w.take 7 ++ [x]))) s := by
  have hB := dB_clo
  refine ev_lca (g := lev tx k) (m := false) (enc := fun x => dS [x]) (f := fun x => dS (w.take 7 ++ [x])) letters (x := dS letters) (by simp [ev, lettersS]; rfl) (by unfold dS iterD; simp) rfl (fun x hx => ⟨dS_clo _, ?_, dS_clo _⟩) (by rw [letters_len]; decide)
  have g6 : ((wipeC (wipeE (E5 r f many W x5 (some (dS w)) x7) [9])).set 9 (some (dS [x])))[6]? = some (some (dS w)) := by
    unfold E5
    generalize dB = B at *
    simp [wipeE, wipeC]
  have g9 : ((wipeC (wipeE (E5 r f many W x5 (some (dS w)) x7) [9])).set 9 (some (dS [x])))[9]? = some (some (dS [x])) := by
    unfold E5
    generalize dB = B at *
    simp [wipeE, wipeC]
  have hl := hw.le
  have hs : opSl s (dS w) none (some 7) = .ok (dS (w.take 7)) s := opSl_to s (by omega) 7
  have ha : opAdd s (dS (w.take 7)) (dS [x]) = .ok (dS (w.take 7 ++ [x])) s := by
    unfold opAdd dS
    dsimp only
    rw [S_len, S_len, S_cat]
    exact if_pos (show (w.take 7).length + 1 ≤ 16777216 by rw [List.length_take]; omega)
  generalize (wipeC (wipeE (E5 r f many W x5 (some (dS w)) x7) [9])).set 9 (some (dS [x])) = δ at *
  simp [ev, g6, g9, Tm.isCnon, partD, hs, opBin, ha]
theorem cands_map (w : List Nat) : (cands w).map dS = dS w :: letters.map fun x => dS (w.take 7 ++ [x]) := by
  unfold cands
  rw [List.map_cons, List.map_map]
  rfl
theorem name_t (k : Nat) {r f : Nat} {many : Int} {W : D} {x5 x7 : Option D} {w : List Nat} {fs : List (List Nat)} {s : Store} (hW : W.hasClo = false) (hw : IsWord w) (hf : s[f]? = some (.lst (fs.map dS))) (hl : fs.length ≤ 4) (hfs : ∀ c ∈ fs, Asc c) :
    ev (lev tx (k + 1)) t__law_names_1 (E5 r f many W x5 (some (dS w)) x7) s = .ok (.lst (((cands w).filter fun c => !decide (c ∈ allBad fs)).map dS)) s := by
  have hB := dB_clo
  have e0 := name_c (k + 1) (r := r) (f := f) (many := many) (x5 := x5) (x7 := x7) (s := s) hW hw
  refine ev_lc1 (g := lev tx (k + 1)) (m := false) (enc := dS) (f := dS) (p := fun c => !decide (c ∈ allBad fs)) (cands w) (x := .lst ((cands w).map dS)) ?_ rfl rfl (fun c hc => ⟨dS_clo _, ?_, fun _ => ⟨?_, dS_clo _⟩⟩) (by unfold cands; rw [List.length_cons, List.length_map, letters_len]; decide)
  · have g6 : (E5 r f many W x5 (some (dS w)) x7)[6]? = some (some (dS w)) := rfl
    have ha : opAdd s (.lst [dS w]) (.lst (letters.map fun x => dS (w.take 7 ++ [x]))) = .ok (.lst ((cands w).map dS)) s := by
      rw [cands_map]
      exact opAdd_lst (by rw [List.length_map, letters_len]; show 1 + 26 ≤ 16777216; decide)
    generalize E5 r f many W x5 (some (dS w)) x7 = δ at *
    generalize (cands w).map dS = u at *
    generalize (letters.map fun x => dS (w.take 7 ++ [x])) = u' at *
    simp [ev, g6, line, e0, opBin, ha]
  · have g8 : ((wipeC (wipeE (E5 r f many W x5 (some (dS w)) x7) [8])).set 8 (some (dS c)))[8]? = some (some (dS c)) := by
      unfold E5
      generalize dB = B at *
      simp [wipeE, wipeC]
    have g3 : ((wipeC (wipeE (E5 r f many W x5 (some (dS w)) x7) [8])).set 8 (some (dS c)))[3]? = some (some dB) := by
      unfold E5
      generalize dB = B at *
      simp [wipeE, wipeC, hB]
    have g4 : ((wipeC (wipeE (E5 r f many W x5 (some (dS w)) x7) [8])).set 8 (some (dS c)))[4]? = some (some (.ref f)) := by
      unfold E5
      generalize dB = B at *
      simp [wipeE, wipeC, D.hasClo]
    have a1 : opAdd s dB (.ref f) = .ok (.lst (badN.map dS ++ fs.map dS)) s := by
      unfold opAdd dB
      dsimp only
      rw [show asL s (.lst (badN.map dS)) = some (badN.map dS) from rfl, show asL s (.ref f) = some (fs.map dS) by unfold asL; dsimp only; rw [hf]]
      dsimp only
      rw [List.length_map, List.length_map, if_pos (show badN.length + fs.length ≤ 16777216 by have : badN.length = 37 := rfl; omega)]
    have a2 : opAdd s (.lst (badN.map dS ++ fs.map dS)) (.lst (ownN.map dS)) = .ok (.lst ((allBad fs).map dS)) s := by
      unfold allBad
      rw [List.map_append, List.map_append]
      exact opAdd_lst (by
        rw [List.length_append, List.length_map, List.length_map, List.length_map]
        have : badN.length = 37 := rfl
        have : ownN.length = 2 := rfl
        omega)
    have asc : ∀ c ∈ allBad fs, Asc c := fun c hc => by
      rcases List.mem_append.mp hc with hc | hc
      · rcases List.mem_append.mp hc with hc | hc
        · exact bad_asc c (List.mem_append_left _ hc)
        · exact hfs c hc
      · exact bad_asc c (List.mem_append_right _ hc)
    have hi : inD s (dS c) (.lst ((allBad fs).map dS)) = some (decide (c ∈ allBad fs)) := by
      rw [inD_lst (dS_pln (cands_word hw c hc).asc 60) (plns_map fun a ha => dS_pln (asc a ha) 59)]
      exact congrArg some (decide_eq_decide.mpr mem_dN)
    have ho := own_ok k s
    generalize (wipeC (wipeE (E5 r f many W x5 (some (dS w)) x7) [8])).set 8 (some (dS c)) = δ at *
    generalize (allBad fs).map dS = u at *
    generalize ownN.map dS = u' at *
    generalize badN.map dS ++ fs.map dS = u'' at *
    generalize dB = B at *
    simp [ev, g8, g3, g4, opBin, a1, ho, a2, opCmp, hi]
  · have g8 : ((wipeC (wipeE (E5 r f many W x5 (some (dS w)) x7) [8])).set 8 (some (dS c)))[8]? = some (some (dS c)) := by
      unfold E5
      generalize dB = B at *
      simp [wipeE, wipeC]
    generalize (wipeC (wipeE (E5 r f many W x5 (some (dS w)) x7) [8])).set 8 (some (dS c)) = δ at *
    simp [ev, g8]
theorem name_3 (k : Nat) {r f n C : Nat} {many : Int} {W : D} {x5 x7 : Option D} {w : List Nat} {fs : List (List Nat)} {s : Store} (h : Lp r n C s) (hr : f ≠ r) (hW : W.hasClo = false) (hw : IsWord w) (hf : s[f]? = some (.lst (fs.map dS))) (hl : fs.length ≤ 4) (hfs : ∀ c ∈ fs, Asc c) :
    ∃ c s', ex (lev tx (k + 1)) b__law_names_2_3 (E5 r f many W x5 (some (dS w)) x7) s = .ok (.nx (E5 r f many W x5 (some (dS w)) x7)) s' ∧ IsName c ∧ c ∉ fs ∧ Lp r n C s' ∧ s'[f]? = some (.lst ((fs ++ [c]).map dS)) := by
  obtain ⟨c, rest, e1, h1, h2⟩ := cands_free (w := w) hl
  obtain ⟨n1, n2⟩ := name_of hw h1 h2
  have e := name_t k (r := r) (many := many) (x5 := x5) (x7 := x7) hW hw hf hl hfs
  rw [e1, List.map_cons] at e
  have hlt : f < s.length := (List.getElem?_eq_some_iff.mp hf).1
  refine ⟨c, s.set f (.lst ((fs ++ [c]).map dS)), ?_, n1, n2, ⟨by rw [List.length_set]; exact h.len, h.flat.set fun k => (show D.underL k ((fs ++ [c]).map dS) = true from underL_map (dS_under k) _), ?_⟩, by simp [hlt]⟩
  · have g4 : (E5 r f many W x5 (some (dS w)) x7)[4]? = some (some (.ref f)) := rfl
    have hi : opIx s (.lst (dS c :: rest.map dS)) (.int 0) = .ok (dS c) s := by simp [opIx, asL]
    have hm : mAppend s (.ref f) [dS c] = .ok .non (s.set f (.lst ((fs ++ [c]).map dS))) := by
      unfold mAppend
      dsimp only
      rw [hf]
      dsimp only
      rw [dS_clo, if_neg Bool.false_ne_true, List.length_map, if_pos (show fs.length < 16777216 by omega), List.map_append]
      rfl
    have ho : mtOk s .append (.ref f) = true := by
      unfold mtOk
      dsimp only
      rw [hf]
    generalize E5 r f many W x5 (some (dS w)) x7 = δ at *
    generalize (fs ++ [c]).map dS = u at *
    generalize rest.map dS = u' at *
    simp [b__law_names_2_3, ex, ev, g4, ho, e, hi, opMth, hm]
  · obtain ⟨a, b, c', h3, h4⟩ := h.lamp
    exact ⟨a, b, c', by rw [List.getElem?_set_ne hr]; exact h3, h4⟩
theorem names_0 (k : Nat) {r many : Nat} {s : Store} : ex (lev tx k) b__law_names_0 [some (.ref r), some (.int (many : Int)), nn, nn, nn, nn, nn, nn, nn, nn] s = .ok (.nx [some (.ref r), some (.int (many : Int)), some (.lst (w1.map dS)), nn, nn, nn, nn, nn, nn, nn]) s := by
  have e := split_w s w1_wd
  have ho : mtOk s .split (.str (S (line_ w1))) = true := rfl
  generalize w1.map dS = u at *
  simp [b__law_names_0, ex, ev, w1S, spaceS, ho, opMth, e, asnG]
theorem names_1 (k : Nat) {r many : Nat} {s : Store} : ex (lev tx k) b__law_names_1 [some (.ref r), some (.int (many : Int)), some (.lst (w1.map dS)), nn, nn, nn, nn, nn, nn, nn] s = .ok (.nx (E5 r s.length (many : Int) (.lst (w1.map dS)) nn nn nn)) (s ++ [.lst []]) := by
  have hW : (D.lst (w1.map dS)).hasClo = false := by unfold D.hasClo; exact hasCloL_map dS_clo _
  have hB := dB_clo
  have e := split_w s w2_wd
  have ho : mtOk s .split (.str (S (line_ w2))) = true := rfl
  have ha : opAdd s (.lst (w1.map dS)) (.lst (w2.map dS)) = .ok dB s := by
    unfold dB badN
    rw [List.map_append]
    refine opAdd_lst ?_
    rw [List.length_map, List.length_map]
    decide
  generalize D.lst (w1.map dS) = W at *
  generalize w2.map dS = u' at *
  unfold E5
  generalize dB = B at *
  simp [b__law_names_1, ex, ev, w2S, spaceS, ho, opMth, e, opBin, ha, line, D.hasCloL, hB, D.hasClo, asnGs, asnG, wipeC, hW]
theorem names_2 (k : Nat) {r n C f : Nat} {many : Nat} {W : D} {S : Store} (hL0 : Lp r n C S) (hC : C < 90000) (h5 : many ≤ 5) (hne : f ≠ r) (hW : W.hasClo = false) (hf0 : S[f]? = some (.lst [])) :
    ∃ (s' : Store) (fs : List (List Nat)) (x5 x6 x7 : Option D), ex (lev tx (k + 2)) b__law_names_2 (E5 r f (many : Int) W nn nn nn) S = .ok (.nx (E5 r f (many : Int) W x5 x6 x7)) s' ∧ fs.length = many ∧ fs.Nodup ∧ (∀ c ∈ fs, IsName c) ∧ s'[f]? = some (.lst (fs.map dS)) ∧ Lp r n (C + 20 * many) s' := by
  obtain ⟨δ', s', e2, fs, x5, x6, x7, hδ, hlen, hnd, hnm, hf, hL⟩ := ex_forR (g := lev tx (k + 2)) (v := 5) (it := .var 1) (b := q__law_names_2) (δ := E5 r f (many : Int) W nn nn nn) (S := S) (n := many)
    (P := fun j δ S' => ∃ (fs : List (List Nat)) (x5 x6 x7 : Option D), δ = E5 r f (many : Int) W x5 x6 x7 ∧ fs.length = j ∧ fs.Nodup ∧ (∀ c ∈ fs, IsName c) ∧ S'[f]? = some (.lst (fs.map dS)) ∧ Lp r (n) (C + 20 * j) S') (by
      have g1 : (E5 r f (many : Int) W nn nn nn)[1]? = some (some (.int (many : Int))) := rfl
      generalize E5 r f (many : Int) W nn nn nn = δ at *
      simp [ev, g1]) (by omega) ⟨[], nn, nn, nn, rfl, rfl, List.nodup_nil, fun c hc => absurd hc List.not_mem_nil, hf0, hL0⟩ (fun j δ S' hj ⟨fs, x5, x6, x7, hδ, hlen, hnd, hnm, hf, hL⟩ => by
      subst hδ
      have hs : (E5 r f (many : Int) W x5 x6 x7).set 5 (some (.int (j : Int))) = E5 r f (many : Int) W (some (.int (j : Int))) x6 x7 := rfl
      rw [hs]
      obtain ⟨y5, y7, a1⟩ := name_0 (k + 2) (r := r) (f := f) (many := (many : Int)) hW (some (.int (j : Int))) x6 x7 S'
      obtain ⟨z5, z7, w, S2, a2, hw, hL2, hU2⟩ := name_1 k (f := f) (many := (many : Int)) (x5 := y5) (x7 := y7) hL (by omega) hW
      obtain ⟨u5, u7, w', S3, a3, hw', hL3, hU3⟩ := name_2 k (f := f) (many := (many : Int)) (x5 := z5) (x7 := z7) hL2 (by omega) hW hw
      have hf3 : S3[f]? = some (.lst (fs.map dS)) := by rw [hU3 _ hne, hU2 _ hne, hf]
      obtain ⟨c, S4, a4, n1, n2, hL4, hf4⟩ := name_3 (k + 1) (f := f) (many := (many : Int)) (x5 := u5) (x7 := u7) hL3 hne hW hw' hf3 (by omega) fun c hc => (hnm c hc).w.asc
      refine ⟨_, S4, ?_, fs ++ [c], u5, some (dS w'), u7, rfl, by simp [hlen], ?_, ?_, hf4, hL4.mono (by omega)⟩
      · generalize E5 r f (many : Int) W (some (.int (j : Int))) x6 x7 = δ0 at *
        generalize E5 r f (many : Int) W y5 (some (dS [])) y7 = δ1 at *
        generalize E5 r f (many : Int) W z5 (some (dS w)) z7 = δ2 at *
        generalize E5 r f (many : Int) W u5 (some (dS w')) u7 = δ3 at *
        simp [q__law_names_2, exs, seqF, a1, a2, a3, a4]
      · rw [List.nodup_append]
        exact ⟨hnd, by simp, fun a ha b hb z => by
          rw [List.mem_singleton.mp hb] at z
          rw [z] at ha
          exact n2 ha⟩
      · intro d hd
        rcases List.mem_append.mp hd with hd | hd
        · exact hnm d hd
        · rw [List.mem_singleton.mp hd]
          exact n1)
  subst hδ
  exact ⟨s', fs, x5, x6, x7, e2, hlen, hnd, hnm, hf, hL⟩
theorem names_3 (k : Nat) {r f : Nat} {many : Int} {W : D} {x5 x6 x7 : Option D} {fs p : List (List Nat)} {s' : Store} (hf : s'[f]? = some (.lst (fs.map dS))) (hp1 : ((fs.map S).mergeSort strLe).map D.str = p.map dS) (h5 : fs.length ≤ 5) : ex (lev tx k) b__law_names_3 (E5 r f many W x5 x6 x7) s' = .ok (.ret (dN p)) s' := by
  have hpc : (dN p).hasClo = false := dN_clo p
  have hs : bSorted s' [.ref f] = .ok (.lst (p.map dS)) s' := by
    unfold bSorted
    dsimp only
    rw [show asL s' (.ref f) = some (fs.map dS) by unfold asL; dsimp only; rw [hf]]
    dsimp only [Option.bind_some]
    rw [strs_map]
    dsimp only
    rw [List.length_map, if_pos (by omega), hp1]
  have g4 : (E5 r f many W x5 x6 x7)[4]? = some (some (.ref f)) := rfl
  unfold dN at *
  generalize E5 r f many W x5 x6 x7 = δ at *
  generalize p.map dS = u at *
  simp [b__law_names_3, ex, ev, g4, opBlt, hs, bTuple, seqD, asL, optR, retF, hpc]
theorem names_ok (k : Nat) {r n C : Nat} {many : Nat} {s : Store} (h : Lp r n C s) (hC : C < 90000) (h1 : 1 ≤ many) (h5 : many ≤ 5) :
    ∃ p s', (lev tx (k + 3)).fn (Str.ofString "_law_names") [.ref r, .int (many : Int)] s = .ok (dN p) s' ∧ p.length = many ∧ (∀ c ∈ p, IsName c) ∧ p.Pairwise (· < ·) ∧ Lp r n (C + 100) s' := by
  rw [fn__law_names]
  have hr : r < s.length := by
    obtain ⟨a, b, c, e, _⟩ := h.lamp
    exact (List.getElem?_eq_some_iff.mp e).1
  have hne : s.length ≠ r := by omega
  have hW : (D.lst (w1.map dS)).hasClo = false := by unfold D.hasClo; exact hasCloL_map dS_clo _
  have hB := dB_clo
  have e0 := names_0 (k + 2) (r := r) (many := many) (s := s)
  have e1 := names_1 (k + 2) (r := r) (many := many) (s := s)
  generalize D.lst (w1.map dS) = W at *
  have hL0 : Lp r (n + 1) C (s ++ [.lst []]) := ⟨by rw [List.length_append, h.len]; rfl, h.flat.snoc fun k => rfl, by
    obtain ⟨a, b, c, e, hh⟩ := h.lamp
    exact ⟨a, b, c, by rw [List.getElem?_append_left hr]; exact e, hh⟩⟩
  obtain ⟨s', fs, x5, x6, x7, e2, hlen, hnd, hnm, hf, hL⟩ := names_2 k hL0 hC h5 hne hW (by simp)
  obtain ⟨p, hp1, hp2, hp3⟩ := sorted_names hnd
  have e3 := names_3 (k + 2) (r := r) (many := (many : Int)) (W := W) (x5 := x5) (x6 := x6) (x7 := x7) hf hp1 (by omega)
  have hl' : s'.length = s.length + 1 := by rw [hL.len, h.len]
  refine ⟨p, s'.take s.length, ?_, by rw [hp2.length_eq, hlen], fun c hc => hnm c (hp2.mem_iff.mp hc), hp3, ⟨by rw [List.length_take, hl', ← h.len]; omega, hL.flat.take, ?_⟩⟩
  · have hu : ∀ m ∈ s'.take s.length, MO.under s.length m = true := fun m hm => hL.flat m (List.mem_of_mem_take hm) _
    have hpc : (dN p).hasClo = false := dN_clo p
    have hpu := dN_under s.length p
    have est : startE 10 [D.ref r, .int (many : Int)] = [some (.ref r), some (.int (many : Int)), nn, nn, nn, nn, nn, nn, nn, nn] := rfl
    generalize E5 r s.length (many : Int) W x5 x6 x7 = δ3 at *
    generalize E5 r s.length (many : Int) W nn nn nn = δ1 at *
    have hb : exs (lev tx (k + 2)) [b__law_names_0, b__law_names_1, b__law_names_2, b__law_names_3] [some (.ref r), some (.int (many : Int)), nn, nn, nn, nn, nn, nn, nn, nn] s = .ok (.ret (dN p)) s' :=
      (exs_nx e0).trans ((exs_nx e1).trans ((exs_nx e2).trans (exs_ret e3)))
    have hl2 : leave s.length false (.ok (dN p) s') = .ok (dN p) (s'.take s.length) := leave_frz hpc hpu (by omega) hu
    exact (fnF_ret (δ := [some (.ref r), some (.int (many : Int)), nn, nn, nn, nn, nn, nn, nn, nn]) (d := dN p) (S' := s') rfl rfl hb).trans hl2
  · obtain ⟨a, b, c, e, h2, h3, h4, h6⟩ := hL.lamp
    exact ⟨a, b, c, by rw [List.getElem?_take, if_pos hr]; exact e, h2, h3, h4, by omega⟩
end LW
end
section
set_option Elab.async false
set_option linter.all false
set_option maxRecDepth 100000
set_option maxHeartbeats 1000000
/-! Drawn trust, drawn circles, drawn minds. -/
namespace LW
open PySem MM SX
theorem row_of {many : Nat} {ys : List Int} (hl : ys.length = many) (h5 : many ≤ 5) (hy : ∀ y ∈ ys, 0 ≤ y ∧ y ≤ 5) (hs : 0 < ys.sum) : IsRow many (ys.map fun y => low y ys.sum) ∧ ∀ f ∈ ys.map fun y => low y ys.sum, Txf f := by
  have hle := (sum_le ys hy).2
  have hsb : ys.sum ≤ 25 := by
    have : (ys.length : Int) ≤ 5 := by omega
    omega
  have bs : ∀ n, 5 ≤ n → Bits n ys.sum := fun n hn => Bits.mono (n := 5) (by show _ < 32; omega) hn
  have by_ : ∀ y ∈ ys, ∀ n, 5 ≤ n → Bits n y := fun y hy' n hn => Bits.mono (n := 5) (by have := hy y hy'; show _ < 32; omega) hn
  refine ⟨⟨by rw [List.length_map, hl], fun f hf => ?_, fun j hj => ?_, by rw [total_low hs, low_1 hs]⟩, fun f hf => ?_⟩
  · obtain ⟨y, hy', rfl⟩ := List.mem_map.mp hf
    exact ⟨low_fr hs, low_nn (hy y hy').1, low_bf (by_ y hy' 60 (by decide)) (bs 60 (by decide))⟩
  · rw [← List.map_take, total_low hs]
    have h1 := sum_le (ys.take j) fun y hy' => hy y (List.mem_of_mem_take hy')
    have h2 : ((ys.take j).length : Int) ≤ 5 := by
      rw [List.length_take]
      omega
    exact low_bf (Bits.mono (n := 5) (by show _ < 32; omega) (by decide)) (bs 60 (by decide))
  · obtain ⟨y, hy', rfl⟩ := List.mem_map.mp hf
    have := low_bf (by_ y hy' 200 (by decide)) (bs 200 (by decide))
    exact ⟨this.a, this.b⟩
theorem ints_clo : ∀ l : List Int, D.hasCloL (l.map .int) = false
  | [] => rfl
  | a :: l => by
    rw [List.map_cons]
    unfold D.hasCloL
    rw [ints_clo l]
    rfl
def someN : List (List Int) := [[0, 0, 1], [0, 1, 1, 2], [0, 0, 0, 1, 3], [1, 2, 5]]
theorem some_ok : ∀ xs ∈ someN, 0 < xs.length ∧ xs.length ≤ 5 ∧ ∀ x ∈ xs, 0 ≤ x ∧ x ≤ 5 := by decide
abbrev dI (l : List Int) : D := .lst (l.map .int)
theorem dI_clo (l : List Int) : (dI l).hasClo = false := by unfold D.hasClo; exact ints_clo l
theorem trust_0 (k : Nat) {r n C : Nat} {many : Int} {s : Store} (h : Lp r n C s) (hC : C < 99000) : ∃ xs s', ex (lev tx (k + 2)) b__law_trust_0 [some (.ref r), some (.int many), nn, nn, nn, nn] s = .ok (.nx [some (.ref r), some (.int many), some (dI xs), nn, nn, nn]) s' ∧ xs ∈ someN ∧ Lp r n (C + 1) s' := by
  obtain ⟨d, s1, e1, hd, hL, hU⟩ := of_ok k (l := someN.map dI) h (by omega) (by decide) (by decide) (fun d hd => by
    obtain ⟨xs, _, rfl⟩ := List.mem_map.mp hd
    exact dI_clo xs)
  obtain ⟨xs, hx, rfl⟩ := List.mem_map.mp hd
  refine ⟨xs, s1, ?_, hx, hL⟩
  have e1 : (lev tx (k + 2)).fn (Str.ofString "_law_of") [.ref r, .lst [.lst [.int 0, .int 0, .int 1], .lst [.int 0, .int 1, .int 1, .int 2], .lst [.int 0, .int 0, .int 0, .int 1, .int 3], .lst [.int 1, .int 2, .int 5]]] s = .ok (dI xs) s1 := e1
  refine (ex_setc (d := dI xs) (S' := s1) ?_ (dI_clo xs)).trans ?_
  · simp [ev, line, e1]
  · simp [wipeC, D.hasClo]
theorem trust_1 (k : Nat) {r n C many : Nat} {xs : List Int} {s : Store} (h : Lp r n C s) (hC : C < 99000) (h5 : many ≤ 5) (hx : xs ∈ someN) : ∃ (ys : List Int) (s' : Store), ex (lev tx (k + 2)) b__law_trust_1 [some (.ref r), some (.int (many : Int)), some (dI xs), nn, nn, nn] s = .ok (.nx [some (.ref r), some (.int (many : Int)), some (dI xs), some (.ref n), nn, nn]) (s' ++ [.lst (ys.map .int)]) ∧ ys.length = many ∧ (∀ y ∈ ys, 0 ≤ y ∧ y ≤ 5) ∧ Lp r n (C + many) s' := by
  obtain ⟨x0, x1, x2⟩ := some_ok xs hx
  obtain ⟨s', l, e, hL, ys, rfl, hl, hy⟩ := ev_lcS (g := lev tx (k + 2)) (m := true) (v := 4) (it := .var 1) (e := .call (Str.ofString "_law_of") [.var 0, .var 2]) (own := [4]) (δ := [some (.ref r), some (.int (many : Int)), some (dI xs), nn, nn, nn]) (S := s) (n := many)
    (P := fun j S' acc => Lp r n (C + j) S' ∧ ∃ ys : List Int, acc = ys.map .int ∧ ys.length = j ∧ ∀ y ∈ ys, 0 ≤ y ∧ y ≤ 5) (by simp [ev]) (by omega) ⟨h, [], rfl, rfl, fun y hy => absurd hy List.not_mem_nil⟩ (fun j S' acc hj ⟨hL, ys, ha, hl, hy⟩ => by
      obtain ⟨d, S2, e, hd, hL2, _⟩ := of_ok k (l := xs.map .int) hL (by omega) (by rw [List.length_map]; exact x0) (by rw [List.length_map]; omega) (fun d hd => by
        obtain ⟨x, _, rfl⟩ := List.mem_map.mp hd
        rfl)
      obtain ⟨x, hx', rfl⟩ := List.mem_map.mp hd
      refine ⟨.int x, S2, ?_, rfl, hL2, ys ++ [x], by rw [ha]; simp, by simp [hl], fun y hy' => ?_⟩
      · have e : (lev tx (k + 2)).fn (Str.ofString "_law_of") [.ref r, dI xs] S' = .ok (.int x) S2 := e
        have hc := dI_clo xs
        generalize dI xs = X at *
        simp [wipeE, wipeC, D.hasClo, hc, ev, e]
      · rcases List.mem_append.mp hy' with hy' | hy'
        · exact hy y hy'
        · rw [List.mem_singleton.mp hy']
          exact x2 x hx')
  refine ⟨ys, s', ?_, hl, hy, hL⟩
  have e : ev (lev tx (k + 2)) t__law_trust_0 [some (.ref r), some (.int (many : Int)), some (dI xs), nn, nn, nn] s = .ok (.ref n) (s' ++ [.lst (ys.map .int)]) := by
    refine (show _ = _ from e).trans ?_
    unfold endL
    rw [if_pos rfl, hL.len]
  refine (ex_setc e rfl).trans ?_
  have hc := dI_clo xs
  generalize dI xs = X at *
  simp [wipeC, D.hasClo, hc]
theorem sum_ok {s : Store} {n : Nat} {ys : List Int} (h : s[n]? = some (.lst (ys.map .int))) : bSum s [.ref n] = .ok (.int ys.sum) s := by
  unfold bSum
  dsimp only
  rw [show asL s (.ref n) = some (ys.map .int) by unfold asL; dsimp only; rw [h]]
  dsimp only [Option.bind_some]
  rw [ints_map]
  rfl
theorem trust_2 (k : Nat) {r n C many : Nat} {X : D} {ys : List Int} {s : Store} (h : Lp r n C s) (hr : r < n) (hC : C < 99000) (h1 : 1 ≤ many) (h5 : many ≤ 5) (hl : ys.length = many) (hy : ∀ y ∈ ys, 0 ≤ y ∧ y ≤ 5) (hX : X.hasClo = false) :
    ∃ (zs : List Int) (s' : Store), ex (lev tx (k + 1)) b__law_trust_2 [some (.ref r), some (.int (many : Int)), some X, some (.ref n), nn, nn] (s ++ [.lst (ys.map .int)]) = .ok (.nx [some (.ref r), some (.int (many : Int)), some X, some (.ref n), nn, nn]) s' ∧ zs.length = many ∧ (∀ y ∈ zs, 0 ≤ y ∧ y ≤ 5) ∧ 0 < zs.sum ∧ s'[n]? = some (.lst (zs.map .int)) ∧ Lp r (n + 1) (C + 1) s' := by
  have hn : (s ++ [MO.lst (ys.map .int)])[n]? = some (.lst (ys.map .int)) := by
    rw [← h.len]
    simp
  have hL0 : Lp r (n + 1) C (s ++ [.lst (ys.map .int)]) := ⟨by rw [List.length_append, h.len]; rfl, h.flat.snoc fun k => under_ints k ys, by
    obtain ⟨a, b, c, e, hh⟩ := h.lamp
    exact ⟨a, b, c, by rw [List.getElem?_append_left (by rw [h.len]; exact hr)]; exact e, hh⟩⟩
  have hsum := sum_ok hn
  have he : eqD (s ++ [MO.lst (ys.map .int)]) (.int ys.sum) (.int 0) = some (decide (ys.sum = 0)) := by
    rw [eqD_pln rfl rfl]
    exact congrArg some (decide_eq_decide.mpr ⟨fun z => D.int.inj z, fun z => by rw [z]⟩)
  have hev : ev (lev tx (k + 1)) (.cmp .Eq (.blt .sum [.var 3]) (.cint 0)) [some (.ref r), some (.int (many : Int)), some X, some (.ref n), nn, nn] (s ++ [.lst (ys.map .int)]) = .ok (.bl (decide (ys.sum = 0))) (s ++ [.lst (ys.map .int)]) := by
    generalize s ++ [MO.lst (ys.map .int)] = S' at *
    simp [ev, opBlt, hsum, opCmp, he]
  by_cases hz : ys.sum = 0
  · rw [decide_eq_true hz] at hev
    obtain ⟨i, s1, e1, i0, i1, hL, hU⟩ := wick_ok k (many := (many : Int)) hL0 (by omega) (by omega) (by omega)
    have hn1 : s1[n]? = some (.lst (ys.map .int)) := by rw [hU n (by omega), hn]
    have hi : i.toNat < ys.length := by omega
    have hlt : n < s1.length := by rw [hL.len]; omega
    have hp : opPut s1 (.ref n) (.int i) (.int 1) = some (s1.set n (.lst ((ys.set i.toNat 1).map .int))) := by
      unfold opPut
      dsimp only
      rw [hn1]
      dsimp only
      rw [show D.hasClo (.int 1) = false from rfl, if_neg Bool.false_ne_true]
      have : L2.ixN (ys.map D.int).length i = some i.toNat := by
        have hii : i = ((i.toNat : Nat) : Int) := by omega
        refine (congrArg (L2.ixN _) hii).trans ?_
        exact ixN_nat (by rw [List.length_map]; first | exact hi | omega)
      rw [this]
      dsimp only
      rw [set_map]
    refine ⟨ys.set i.toNat 1, s1.set n (.lst ((ys.set i.toNat 1).map .int)), ex_ite_t hev ?_, by rw [List.length_set, hl], fun y hy' => ?_, sum_pos_set ys _ (fun y hy' => (hy y hy').1) hi, by simp [hlt], ⟨by rw [List.length_set]; exact hL.len, hL.flat.set fun k => under_ints k _, ?_⟩⟩
    · generalize s ++ [MO.lst (ys.map .int)] = S' at *
      generalize (ys.set i.toNat 1).map D.int = u at *
      simp [q__law_trust_2_a, b__law_trust_2_a_0, exs, seqF, ex, ev, asnG, D.hasClo, e1, hp]
    · rcases List.mem_or_eq_of_mem_set hy' with hy' | rfl
      · exact hy y hy'
      · decide
    · obtain ⟨a, b, c, h3, h4⟩ := hL.lamp
      exact ⟨a, b, c, by rw [List.getElem?_set_ne (by omega)]; exact h3, h4⟩
  · rw [decide_eq_false hz] at hev
    refine ⟨ys, _, ex_ite_f hev exs_nil, hl, hy, ?_, hn, hL0.mono (by omega)⟩
    have := (sum_le ys hy).1
    omega
theorem sameO_self {s : Store} {n : Nat} {l : List D} (h : s[n]? = some (.lst l)) : gdR s (.ref n) s = true := by
  unfold gdR
  dsimp only
  rw [h]
  exact sameDs_self l
theorem trust_3 (k : Nat) {r n : Nat} {many : Int} {X : D} {zs : List Int} {s : Store} (hl : zs.length ≤ 5) (hy : ∀ y ∈ zs, 0 ≤ y ∧ y ≤ 5) (hs : 0 < zs.sum) (hn : s[n]? = some (.lst (zs.map .int))) (hX : X.hasClo = false) :
    ex (lev tx (k + 1)) b__law_trust_3 [some (.ref r), some (.int many), some X, some (.ref n), nn, nn] s = .ok (.ret (dFs (zs.map fun y => low y zs.sum))) s := by
  have hsum := sum_ok hn
  have hsb : zs.sum < 1000 := by
    have := (sum_le zs hy).2
    have : (zs.length : Int) ≤ 5 := by omega
    omega
  have e := ev_lcg (g := lev tx (k + 1)) (m := false) (v := 5) (it := .var 3) (e := .call (Str.ofString "_law_low") [.var 5, .blt .sum [.var 3]]) (own := [5]) (δ := [some (.ref r), some (.int many), some X, some (.ref n), nn, nn]) (S := s) (x := .ref n) (enc := D.int) (f := fun y => dF (low y zs.sum)) zs (by simp [ev]) (by unfold iterD; dsimp only; rw [hn]) (sameO_self hn) (fun y hy' => ⟨rfl, by
    have e := lawlow_ok k (a := y) s hs hsb
    simp [wipeE, wipeC, D.hasClo, hX, ev, opBlt, hsum, e], dF_clo _⟩) (by show zs.length ≤ 16777216; omega)
  have e : ev (lev tx (k + 1)) t__law_trust_1 [some (.ref r), some (.int many), some X, some (.ref n), nn, nn] s = .ok (.lst ((zs.map fun y => low y zs.sum).map dF)) s := by
    refine (show _ = _ from e).trans ?_
    rw [List.map_map]
    rfl
  refine ex_ret ?_ (dFs_clo _)
  unfold dFs
  generalize (zs.map fun y => low y zs.sum).map dF = u at *
  simp [ev, e, opBlt, bTuple, seqD, asL, optR]
theorem lawtrust_ok (k : Nat) {r n C many : Nat} {s : Store} (h : Lp r n C s) (hC : C < 90000) (h1 : 1 ≤ many) (h5 : many ≤ 5) : ∃ l s', (lev tx (k + 3)).fn (Str.ofString "_law_trust") [.ref r, .int (many : Int)] s = .ok (dFs l) s' ∧ IsRow many l ∧ (∀ f ∈ l, Txf f) ∧ Lp r n (C + 20) s' := by
  rw [fn__law_trust]
  have hr : r < n := by
    obtain ⟨a, b, c, e, _⟩ := h.lamp
    have := (List.getElem?_eq_some_iff.mp e).1
    rw [h.len] at this
    exact this
  obtain ⟨xs, s1, e0, hx, hL1⟩ := trust_0 k (many := (many : Int)) h (by omega)
  obtain ⟨ys, s2, e1, hl, hy, hL2⟩ := trust_1 k hL1 (by omega) h5 hx
  obtain ⟨zs, s3, e2, hzl, hzy, hz, hn, hL3⟩ := trust_2 (k + 1) hL2 hr (by omega) h1 h5 hl hy (dI_clo xs)
  have e3 := trust_3 (k + 1) (r := r) (many := (many : Int)) (by omega) hzy hz hn (dI_clo xs)
  obtain ⟨R, T⟩ := row_of hzl h5 hzy hz
  have hl3 : s3.length ≠ s.length := by rw [hL3.len, h.len]; omega
  refine ⟨_, s3.take s.length, (fnF_ret rfl rfl ((exs_nx e0).trans ((exs_nx e1).trans ((exs_nx e2).trans (exs_ret e3))))).trans (leave_frz (dFs_clo _) (dFs_under _ _) hl3 fun m hm => hL3.flat m (List.mem_of_mem_take hm) _), R, T, ⟨by rw [List.length_take, hL3.len, h.len]; omega, hL3.flat.take, ?_⟩⟩
  obtain ⟨a, b, c, e, hh1, hh2, hh3, hh4⟩ := hL3.lamp
  exact ⟨a, b, c, by rw [List.getElem?_take, if_pos (by rw [h.len]; exact hr)]; exact e, hh1, hh2, hh3, by omega⟩
end LW
end
section
set_option Elab.async false
set_option linter.all false
set_option maxRecDepth 100000
set_option maxHeartbeats 1000000
/-! Drawn circles, drawn minds. -/
namespace LW
open PySem MM SX
theorem circ_0 (k : Nat) {r n C : Nat} {s : Store} (h : Lp r n C s) (hC : C < 80000) : ∃ (p : List (List Nat)) (s' : Store), ex (lev tx (k + 3)) b__law_circle_0 [some (.ref r), some (.int 1), some (.int 5), nn, nn] s = .ok (.nx [some (.ref r), some (.int 1), some (.int 5), some (dN p), nn]) s' ∧ 1 ≤ p.length ∧ p.length ≤ 5 ∧ (∀ c ∈ p, IsName c) ∧ p.Pairwise (· < ·) ∧ Lp r n (C + 101) s' := by
  obtain ⟨i, s1, e1, i0, i1, hL1, _⟩ := wick_ok (k + 2) (many := 5) h (by omega) (by decide) (by decide)
  obtain ⟨j, rfl⟩ : ∃ j : Nat, i = (j : Int) := ⟨i.toNat, by omega⟩
  obtain ⟨p, s2, e2, hl, hn, hp, hL2⟩ := names_ok k (many := 1 + j) hL1 (by omega) (by omega) (by omega)
  refine ⟨p, s2, ?_, by omega, by omega, hn, hp, hL2.mono (by omega)⟩
  have e2 : (lev tx (k + 3)).fn (Str.ofString "_law_names") [.ref r, .int (1 + (j : Int))] s1 = .ok (dN p) s2 := by
    rw [show (1 + (j : Int)) = ((1 + j : Nat) : Int) by omega]
    exact e2
  refine (ex_setc (d := dN p) (S' := s2) ?_ (dN_clo p)).trans ?_
  · refine ev_call (evs_two (x := .ref r) (S1 := s) rfl rfl (by simp [ev]) ?_) e2
    simp [ev, opBin, opAdd, e1]
  · simp [wipeC, D.hasClo]
theorem lawcircle_ok (k : Nat) {r n C : Nat} {s : Store} (h : Lp r n C s) (hC : C < 80000) : ∃ (p : List (List Nat)) (t : List (List Fr)) (s' : Store), (lev tx (k + 4)).fn (Str.ofString "_law_circle") [.ref r, .int 1, .int 5] s = .ok (dP p t) s' ∧ IsCirc p t ∧ (∀ l ∈ t, ∀ f ∈ l, Txf f) ∧ Lp r n (C + 300) s' := by
  rw [fn__law_circle]
  obtain ⟨p, s1, e0, h1, h5, hn, hp, hL1⟩ := circ_0 k h hC
  have hlen : lenD s1 (dN p) = some p.length := by simp [dN, lenD]
  obtain ⟨s2, l, e, hL2, t, rfl, hl, ht⟩ := ev_lcT (g := lev tx (k + 3)) (m := false) (v := 4) (it := .var 3) (e := .call (Str.ofString "_law_trust") [.var 0, .blt .len [.var 3]]) (own := [4]) (δ := [some (.ref r), some (.int 1), some (.int 5), some (dN p), nn]) (S := s1) (l := p.map dS)
    (P := fun j S' acc => Lp r n (C + 101 + 20 * j) S' ∧ ∃ t : List (List Fr), acc = t.map dFs ∧ t.length = j ∧ ∀ l ∈ t, IsRow p.length l ∧ ∀ f ∈ l, Txf f) (by simp [ev]; rfl) (by rw [List.length_map]; omega) ⟨hL1, [], rfl, rfl, fun l hl => absurd hl List.not_mem_nil⟩ (fun j a S' acc hj ⟨hL, t, ha, hl, ht⟩ => by
      rw [List.getElem?_map] at hj
      obtain ⟨c, hc, rfl⟩ := Option.map_eq_some_iff.mp hj
      have hjl := (List.getElem?_eq_some_iff.mp hc).1
      obtain ⟨l, S2, e, hR, hT, hL2⟩ := lawtrust_ok k (many := p.length) hL (by omega) h1 h5
      have hlen' : lenD S' (dN p) = some p.length := by simp [dN, lenD]
      refine ⟨dS_clo c, dFs l, S2, ?_, dFs_clo l, hL2, t ++ [l], by rw [ha]; simp, by simp [hl], fun x hx => ?_⟩
      · simp [wipeE, wipeC, D.hasClo, ev, opBlt, bLen, hlen', optR, e]
      · rcases List.mem_append.mp hx with hx | hx
        · exact ht x hx
        · rw [List.mem_singleton.mp hx]
          exact ⟨hR, hT⟩)
  rw [List.length_map] at hL2 hl
  have e : ev (lev tx (k + 3)) t__law_circle_0 [some (.ref r), some (.int 1), some (.int 5), some (dN p), nn] s1 = .ok (.lst (t.map dFs)) s2 := e
  have e1 : ex (lev tx (k + 3)) b__law_circle_1 [some (.ref r), some (.int 1), some (.int 5), some (dN p), nn] s1 = .ok (.ret (dP p t)) s2 := by
    refine ex_ret ?_ (dP_clo p t)
    unfold dP dT
    generalize t.map dFs = u at *
    simp [ev, e, opBlt, bTuple, seqD, asL, optR, line]
  refine ⟨p, t, s2, (fnF_ret rfl rfl ((exs_nx e0).trans (exs_ret e1))).trans (leave_same (dP_clo p t) (by rw [hL2.len, h.len])), ⟨h1, h5, hn, hp, ⟨hl, fun l hl' => (ht l hl').1⟩⟩, fun l hl' => (ht l hl').2, hL2.mono (by omega)⟩
theorem small_fr {a b : Int} (ha : a.natAbs < 100) (hb : 0 < b) (hb2 : b < 100) : IsFr (low a b) ∧ Txf (low a b) := by
  have h := low_bf (n := 7) (show Bits 7 a by show _ < 128; omega) (show Bits 7 b by show _ < 128; omega)
  exact ⟨low_fr hb, h.a.mono (by decide), h.b.mono (by decide)⟩
theorem lawminds_ok (k : Nat) {r n C many : Nat} {s : Store} (h : Lp r n C s) (hC : C < 80000) (h5 : many ≤ 5) : ∃ (m : List Fr) (s' : Store), (lev tx (k + 3)).fn (Str.ofString "_law_minds") [.ref r, .int (many : Int)] s = .ok (dFs m) s' ∧ m.length = many ∧ (∀ f ∈ m, IsFr f ∧ Txf f) ∧ Lp r n (C + 20) s' := by
  rw [fn__law_minds]
  obtain ⟨s2, l, e, hL2, m, rfl, hl, hm⟩ := ev_lcS (g := lev tx (k + 2)) (m := false) (v := 2) (it := .var 1) (e := .call (Str.ofString "_law_of") [.var 0, .lst false [.call (Str.ofString "_law_low") [.bin .Sub (.call (Str.ofString "_law_wick") [.var 0, .cint 20]) (.cint 9), .bin .Add (.cint 1) (.call (Str.ofString "_law_wick") [.var 0, .cint 6])], .tup [.call (Str.ofString "_law_wick") [.var 0, .cint 3], .cint 1]]]) (own := [2]) (δ := [some (.ref r), some (.int (many : Int)), nn]) (S := s) (n := many)
    (P := fun j S' acc => Lp r n (C + 4 * j) S' ∧ ∃ m : List Fr, acc = m.map dF ∧ m.length = j ∧ ∀ f ∈ m, IsFr f ∧ Txf f) (by simp [ev]) (by omega) ⟨h, [], rfl, rfl, fun f hf => absurd hf List.not_mem_nil⟩ (fun j S' acc hj ⟨hL, m, ha, hl, hm⟩ => by
      obtain ⟨i1, S1, e1, a1, b1, hL1, _⟩ := wick_ok (k + 1) (many := 20) hL (by omega) (by decide) (by decide)
      obtain ⟨i2, S2, e2, a2, b2, hL2, _⟩ := wick_ok (k + 1) (many := 6) hL1 (by omega) (by decide) (by decide)
      have e3 := lawlow_ok (k + 1) (a := i1 - 9) (b := 1 + i2) S2 (by omega) (by omega)
      obtain ⟨i3, S3, e4, a3, b3, hL3, _⟩ := wick_ok (k + 1) (many := 3) hL2 (by omega) (by decide) (by decide)
      obtain ⟨d, S4, e5, hd, hL4, _⟩ := of_ok k (l := [dF (low (i1 - 9) (1 + i2)), dF (i3, 1)]) hL3 (by omega) (by simp) (by simp) (by simp)
      obtain ⟨f, rfl, hf⟩ : ∃ f, d = dF f ∧ IsFr f ∧ Txf f := by
        simp only [List.mem_cons, List.not_mem_nil, or_false] at hd
        rcases hd with rfl | rfl
        · exact ⟨_, rfl, small_fr (by omega) (by omega) (by omega)⟩
        · refine ⟨_, rfl, ⟨(show (0 : Int) < 1 by decide), ?_⟩, Bits.mono (n := 7) (by show i3.natAbs < 128; omega) (by decide), Bits.mono (n := 7) (by show (1 : Int).natAbs < 128; decide) (by decide)⟩
          show Nat.gcd i3.natAbs 1 = 1
          exact Nat.gcd_one_right _
      refine ⟨dF f, S4, ?_, dF_clo f, hL4.mono (by omega), m ++ [f], by rw [ha]; simp, by simp [hl], fun x hx => ?_⟩
      · have e5 : (lev tx (k + 2)).fn (Str.ofString "_law_of") [.ref r, .lst [dF (low (i1 - 9) (1 + i2)), .tup [.int i3, .int 1]]] S3 = .ok (dF f) S4 := e5
        generalize dF (low (i1 - 9) (1 + i2)) = q at *
        simp [wipeE, wipeC, D.hasClo, ev, e1, opBin, opAdd, e2, e3, e4, line, e5]
      · rcases List.mem_append.mp hx with hx | hx
        · exact hm x hx
        · rw [List.mem_singleton.mp hx]
          exact hf)
  have e : ev (lev tx (k + 2)) t__law_minds_0 [some (.ref r), some (.int (many : Int)), nn] s = .ok (.lst (m.map dF)) s2 := e
  have e1 : ex (lev tx (k + 2)) b__law_minds_0 [some (.ref r), some (.int (many : Int)), nn] s = .ok (.ret (dFs m)) s2 := by
    refine ex_ret ?_ (dFs_clo m)
    unfold dFs
    generalize m.map dF = u at *
    simp [ev, e, opBlt, bTuple, seqD, asL, optR]
  have hb : exs (lev tx (k + 2)) [b__law_minds_0] [some (.ref r), some (.int (many : Int)), nn] s = .ok (.ret (dFs m)) s2 := exs_ret e1
  exact ⟨m, s2, (fnF_ret (δ := [some (.ref r), some (.int (many : Int)), nn]) (d := dFs m) (S' := s2) rfl rfl hb).trans (leave_same (dFs_clo m) (by rw [hL2.len, h.len])), hl, hm, hL2.mono (by omega)⟩
end LW
end
section
set_option Elab.async false
set_option linter.all false
set_option maxRecDepth 100000
set_option maxHeartbeats 1000000
/-! The same, kinds and all. -/
namespace LW
open PySem MM SX
@[simp] theorem eqD_bt (s : Store) : eqD s (.bl true) (.bl true) = some true := rfl
@[simp] theorem eqD_bf (s : Store) : eqD s (.bl false) (.bl false) = some true := rfl
theorem same_str (k : Nat) {c : List Nat} (s : Store) (h : Asc c) : (lev tx (k + 1)).fn (Str.ofString "_law_same") [dS c, dS c] s = .ok (.bl true) s := by
  rw [fn__law_same]
  have he : eqD s (dS c) (dS c) = some true := by
    refine (eq_dS h h).trans ?_
    rw [decide_eq_true rfl]
  have i1 : isInst (lev tx k) s (dS c) (.ty "tuple") = some false := by simp [isInst, dS, tyName]
  have i2 : isInst (lev tx k) s (dS c) (.ty "list") = some false := by simp [isInst, dS, tyName]
  have i3 : isInst (lev tx k) s (dS c) (.ty "int") = some false := by simp [isInst, dS, tyName]
  have i4 : isInst (lev tx k) s (dS c) (.ty "str") = some true := by simp [isInst, dS, tyName]
  have i5 : (dS c).isNon = false := rfl
  generalize dS c = X at *
  simp [r__law_same, b__law_same_0, b__law_same_1, b__law_same_2, b__law_same_3, fnF, startE, exs, seqF, ex, ev, opBlt, bIsI, i1, i2, i3, i4, i5, optR, opCmp, he, retF, retR, leave, leaveOk, D.hasClo]
theorem same_int (k : Nat) {i : Int} (s : Store) : (lev tx (k + 1)).fn (Str.ofString "_law_same") [.int i, .int i] s = .ok (.bl true) s := by
  rw [fn__law_same]
  have he : eqD s (.int i) (.int i) = some true := by
    rw [eqD_pln rfl rfl, decide_eq_true rfl]
  have i1 : isInst (lev tx k) s (.int i) (.ty "tuple") = some false := by simp [isInst, tyName]
  have i2 : isInst (lev tx k) s (.int i) (.ty "list") = some false := by simp [isInst, tyName]
  have i3 : isInst (lev tx k) s (.int i) (.ty "int") = some true := by simp [isInst, tyName]
  have i4 : isInst (lev tx k) s (.int i) (.ty "bool") = some false := by simp [isInst, tyName]
  have i5 : (D.int i).isNon = false := rfl
  generalize D.int i = X at *
  simp [r__law_same, b__law_same_0, b__law_same_1, b__law_same_2, q__law_same_2_a, b__law_same_2_a_0, b__law_same_3, fnF, startE, exs, seqF, ex, ev, opBlt, bIsI, i1, i2, i3, i4, i5, optR, opCmp, he, retF, retR, leave, leaveOk, D.hasClo]
theorem zip_self {α : Type} : ∀ (l : List α) (a : α × α), a ∈ l.zip l → a.1 = a.2 ∧ a.2 ∈ l
  | [], a, h => by cases h
  | x :: l, a, h => by
    rw [List.zip_cons_cons] at h
    rcases List.mem_cons.mp h with rfl | h
    · exact ⟨rfl, List.mem_cons_self⟩
    · obtain ⟨h1, h2⟩ := zip_self l a h
      exact ⟨h1, List.mem_cons_of_mem _ h2⟩
theorem clo_mem : ∀ {l : List D}, (∀ d ∈ l, d.hasClo = false) → D.hasCloL l = false
  | [], _ => rfl
  | a :: l, h => by
    unfold D.hasCloL
    rw [h a List.mem_cons_self, clo_mem fun d hd => h d (List.mem_cons_of_mem _ hd)]
    rfl
theorem same_all (k : Nat) {l : List D} (s : Store) {x : D} (hx : x = .tup l ∨ x = .lst l) (hl : l.length ≤ 1000) (hc : ∀ d ∈ l, d.hasClo = false) (h : ∀ d ∈ l, (lev tx k).fn (Str.ofString "_law_same") [d, d] s = .ok (.bl true) s) :
    ev (lev tx k) t__law_same_0 [some x, some x, nn, nn] s = .ok (.lst ((l.zip l).map fun _ => .bl true)) s := by
  have hxc : x.hasClo = false := by
    rcases hx with rfl | rfl
    · unfold D.hasClo; exact clo_mem hc
    · unfold D.hasClo; exact clo_mem hc
  have key : (lcLoop tt (stepL [2, 3] (wipeC (wipeE [some x, some x, nn, nn] [2, 3])) (ev (lev tx k) (.cbl true)) (ev (lev tx k) (.call (Str.ofString "_law_same") [.var 2, .var 3]))) ((l.zip l).map fun a => .tup [a.1, a.2]) s []) = .ok ((l.zip l).map fun _ => .bl true) s := by
    have := lc_two (g := lev tx k) (v := 2) (w := 3) (δ0 := wipeC (wipeE [some x, some x, nn, nn] [2, 3])) (c := .cbl true) (e := .call (Str.ofString "_law_same") [.var 2, .var 3]) (S := s) (x := fun a : D × D => a.1) (y := fun a => a.2) (f := fun _ => .bl true) (p := fun _ => true) (l.zip l) (fun a ha => by
      obtain ⟨h1, h2⟩ := zip_self l a ha
      have hh := h a.2 h2
      have hc2 := hc a.2 h2
      rw [h1]
      refine ⟨hc2, hc2, by simp [ev], fun _ => ⟨?_, rfl⟩⟩
      simp [wipeE, wipeC, hxc, ev, hh]) (by rw [List.length_zip]; show _ ≤ 16777216; omega)
    rw [List.filter_eq_self.mpr fun _ _ => rfl] at this
    exact this
  unfold t__law_same_0 ev
  have hi : evs (lev tx k) [.var 0, .var 1] [some x, some x, nn, nn] s = .ok [x, x] s := by simp [ev]
  rw [hi, Res.bind_ok]
  have hz : zipD l l = (l.zip l).map fun a => .tup [a.1, a.2] := by
    have := zip_map (fun d : D => d) (fun d : D => d) l l
    rw [List.map_id'] at this
    exact this
  have hit : iterK .zip [x, x] s = .ok ⟨(l.zip l).map fun a => .tup [a.1, a.2], tt⟩ s := by
    rw [← hz]
    rcases hx with rfl | rfl
    · rfl
    · rfl
  rw [hit, Res.bind_ok]
  dsimp only
  rw [key, Res.bind_ok]
  rfl
theorem same_seq (k : Nat) {l : List D} (s : Store) {x : D} (hx : x = .tup l ∨ x = .lst l) (hl : l.length ≤ 1000) (hc : ∀ d ∈ l, d.hasClo = false) (h : ∀ d ∈ l, (lev tx k).fn (Str.ofString "_law_same") [d, d] s = .ok (.bl true) s) :
    (lev tx (k + 1)).fn (Str.ofString "_law_same") [x, x] s = .ok (.bl true) s := by
  rw [fn__law_same]
  have ha := same_all k s hx hl hc h
  have hb : blsD ((l.zip l).map fun _ => .bl true) = some ((l.zip l).map fun _ => true) := bls_map (fun _ => true) _
  have hn : lenD s x = some l.length := by
    rcases hx with rfl | rfl <;> rfl
  have he : eqD s (.int (l.length : Int)) (.int (l.length : Int)) = some true := by rw [eqD_pln rfl rfl, decide_eq_true rfl]
  rcases hx with hx | hx
  · have i1 : isInst (lev tx k) s x (.ty "tuple") = some true := by rw [hx]; simp [isInst, tyName]
    have i2 : isInst (lev tx k) s x (.ty "list") = some false := by rw [hx]; simp [isInst, tyName]
    clear hx
    simp [r__law_same, b__law_same_0, q__law_same_0_a, b__law_same_0_a_0, b__law_same_0_a_1, fnF, startE, exs, seqF, ex, ev, opBlt, bIsI, i1, i2, optR, opCmp, bLen, hn, he, ha, bAll, asL, hb, retF, retR, leave, leaveOk, D.hasClo]
  · have i1 : isInst (lev tx k) s x (.ty "tuple") = some false := by rw [hx]; simp [isInst, tyName]
    have i2 : isInst (lev tx k) s x (.ty "list") = some true := by rw [hx]; simp [isInst, tyName]
    clear hx
    simp [r__law_same, b__law_same_0, q__law_same_0_a, b__law_same_0_a_0, b__law_same_0_a_1, fnF, startE, exs, seqF, ex, ev, opBlt, bIsI, i1, i2, optR, opCmp, bLen, hn, he, ha, bAll, asL, hb, retF, retR, leave, leaveOk, D.hasClo]
theorem same_map (k : Nat) {α : Type} {enc : α → D} {l : List α} (s : Store) (hl : l.length ≤ 1000) (hc : ∀ a, (enc a).hasClo = false) (h : ∀ a ∈ l, (lev tx k).fn (Str.ofString "_law_same") [enc a, enc a] s = .ok (.bl true) s) :
    (lev tx (k + 1)).fn (Str.ofString "_law_same") [.tup (l.map enc), .tup (l.map enc)] s = .ok (.bl true) s := by
  refine same_seq k (l := l.map enc) s (.inl rfl) (by rw [List.length_map]; exact hl) (fun d hd => ?_) fun d hd => ?_
  · obtain ⟨a, _, rfl⟩ := List.mem_map.mp hd
    exact hc a
  · obtain ⟨a, ha, rfl⟩ := List.mem_map.mp hd
    exact h a ha
theorem same_two (k : Nat) {a b : D} (s : Store) {x : D} (hx : x = .tup [a, b] ∨ x = .lst [a, b]) (ha : a.hasClo = false) (hb : b.hasClo = false) (h1 : (lev tx k).fn (Str.ofString "_law_same") [a, a] s = .ok (.bl true) s) (h2 : (lev tx k).fn (Str.ofString "_law_same") [b, b] s = .ok (.bl true) s) :
    (lev tx (k + 1)).fn (Str.ofString "_law_same") [x, x] s = .ok (.bl true) s := by
  refine same_seq k (l := [a, b]) s hx (by simp) (fun d hd => ?_) fun d hd => ?_
  · rcases List.mem_cons.mp hd with rfl | hd
    · exact ha
    · rw [List.mem_singleton.mp hd]
      exact hb
  · rcases List.mem_cons.mp hd with rfl | hd
    · exact h1
    · rw [List.mem_singleton.mp hd]
      exact h2
theorem same_fr (k : Nat) (f : Fr) (s : Store) : (lev tx (k + 2)).fn (Str.ofString "_law_same") [dF f, dF f] s = .ok (.bl true) s := same_two (k + 1) s (.inl rfl) rfl rfl (same_int k s) (same_int k s)
theorem same_frs (k : Nat) {m : List Fr} (s : Store) (h : m.length ≤ 1000) : (lev tx (k + 3)).fn (Str.ofString "_law_same") [dFs m, dFs m] s = .ok (.bl true) s := same_map (k + 2) s h dF_clo fun f _ => same_fr k f s
variable {p : List (List Nat)} {t : List (List Fr)} {m : List Fr}
theorem same_parts (k : Nat) (h : Gd p t m) (s : Store) : (lev tx (k + 5)).fn (Str.ofString "_law_same") [dP p t, dP p t] s = .ok (.bl true) s := by
  have h5 := h.c.five
  refine same_two (k + 4) s (.inl rfl) (dN_clo p) (dT_clo t) ?_ ?_
  · exact same_map (k + 3) s (by omega) dS_clo fun c hc => same_str (k + 2) s (h.c.nam c hc).w.asc
  · refine same_map (k + 3) s (by have := h.c.tr.len; omega) dFs_clo fun l hl => same_frs k s ?_
    have := (h.c.tr.row l hl).len
    omega
theorem same_cm (k : Nat) (h : Gd p t m) (s : Store) : (lev tx (k + 6)).fn (Str.ofString "_law_same") [.lst [dP p t, dFs m], .lst [dP p t, dFs m]] s = .ok (.bl true) s := by
  have h5 := h.c.five
  have hm := h.ml
  exact same_two (k + 5) s (.inr rfl) (dP_clo p t) (dFs_clo m) (same_parts k h s) (same_frs (k + 2) s (by omega))
theorem same_text (k : Nat) (h : Gd p t m) (s : Store) : (lev tx (k + 3)).fn (Str.ofString "_law_same") [.lst [dX p t m, dX p t m], .lst [dX p t m, dX p t m]] s = .ok (.bl true) s := by
  have e : (lev tx (k + 2)).fn (Str.ofString "_law_same") [dX p t m, dX p t m] s = .ok (.bl true) s := same_map (k + 1) s (by have := h.len; omega) (fun w => dS_clo _) fun w hw => same_str k s (line_asc (h.lw hw))
  exact same_two (k + 2) s (.inr rfl) dX_clo dX_clo e e
end LW
end
section
set_option Elab.async false
set_option linter.all false
set_option maxRecDepth 100000
set_option maxHeartbeats 1000000
/-! One lap. -/
namespace LW
open PySem MM SX
/-- the slots of a lap -/
abbrev E9 (r : Nat) (x1 x2 x3 x4 x5 x6 x7 x8 x9 : Option D) : En := [some (.ref r), x1, x2, x3, x4, x5, x6, x7, x8, x9]
theorem lap_0 (k : Nat) {r n C : Nat} {s : Store} (h : Lp r n C s) (hC : C < 80000) (x1 x2 x3 x4 x5 x6 x7 x8 x9 : Option D) : ∃ (p : List (List Nat)) (t : List (List Fr)) (s' : Store), ex (lev tx (k + 4)) b__law_right_0_0 (E9 r x1 x2 x3 x4 x5 x6 x7 x8 x9) s = .ok (.nx (E9 r x1 (some (dP p t)) x3 x4 x5 x6 x7 x8 x9)) s' ∧ IsCirc p t ∧ (∀ l ∈ t, ∀ f ∈ l, Txf f) ∧ Lp r n (C + 300) s' := by
  obtain ⟨p, t, s', e, h1, h2, h3⟩ := lawcircle_ok k h hC
  refine ⟨p, t, s', (ex_set (ev_call (xs := [.ref r, .int 1, .int 5]) (S1 := s) (by simp [ev]) e)).trans rfl, h1, h2, h3⟩
theorem lap_7 (k : Nat) {r n C : Nat} {s : Store} (h : Lp r n C s) (hC : C < 80000) (x1 x2 x3 x4 x5 x6 x7 x8 x9 : Option D) : ∃ (p : List (List Nat)) (t : List (List Fr)) (s' : Store), ex (lev tx (k + 4)) b__law_right_0_7 (E9 r x1 x2 x3 x4 x5 x6 x7 x8 x9) s = .ok (.nx (E9 r x1 x2 x3 x4 x5 x6 x7 (some (dP p t)) x9)) s' ∧ IsCirc p t ∧ (∀ l ∈ t, ∀ f ∈ l, Txf f) ∧ Lp r n (C + 300) s' := by
  obtain ⟨p, t, s', e, h1, h2, h3⟩ := lawcircle_ok k h hC
  refine ⟨p, t, s', (ex_set (ev_call (xs := [.ref r, .int 1, .int 5]) (S1 := s) (by simp [ev]) e)).trans rfl, h1, h2, h3⟩
theorem len_P (s : Store) (p : List (List Nat)) (t : List (List Fr)) : opIx s (dP p t) (.int 0) = .ok (dN p) s := by simp [opIx, dP]
theorem len_N (s : Store) (p : List (List Nat)) : lenD s (dN p) = some p.length := by simp [dN, lenD]
theorem len_F (s : Store) (m : List Fr) : lenD s (dFs m) = some m.length := by simp [dFs, lenD]
theorem lap_1 (k : Nat) {r n C : Nat} {p : List (List Nat)} {t : List (List Fr)} {s : Store} (h : Lp r n C s) (hC : C < 80000) (hc : IsCirc p t) (x1 x3 x4 x5 x6 x7 x8 x9 : Option D) : ∃ (m : List Fr) (s' : Store), ex (lev tx (k + 12)) b__law_right_0_1 (E9 r x1 (some (dP p t)) x3 x4 x5 x6 x7 x8 x9) s = .ok (.nx (E9 r x1 (some (dP p t)) (some (dC p t)) (some (dFs m)) x5 x6 x7 x8 x9)) s' ∧ m.length = p.length ∧ (∀ f ∈ m, IsFr f ∧ Txf f) ∧ Lp r n (C + 20) s' := by
  have e1 := made_ok k s h.flat.sok hc
  have e2 := lawminds_ok (k + 9) (many := p.length) h hC hc.five
  rw [show k + 9 + 3 = k + 12 from rfl] at e2
  obtain ⟨m, s', e2, h1, h2, h3⟩ := e2
  refine ⟨m, s', ?_, h1, h2, h3⟩
  have a1 : ev (lev tx (k + 12)) (.call (Str.ofString "_law_made") [.var 2]) (E9 r x1 (some (dP p t)) x3 x4 x5 x6 x7 x8 x9) s = .ok (dC p t) s := ev_call (xs := [dP p t]) (S1 := s) (by simp [ev]) e1
  have a2 : ev (lev tx (k + 12)) (.call (Str.ofString "_law_minds") [.var 0, .blt .len [.ix (.var 2) (.cint 0)]]) (E9 r x1 (some (dP p t)) x3 x4 x5 x6 x7 x8 x9) s = .ok (dFs m) s' := ev_call (xs := [.ref r, .int (p.length : Int)]) (S1 := s) (by simp [ev, len_P, opBlt, bLen, len_N, optR]) e2
  unfold b__law_right_0_1 ex
  rw [evs_two rfl rfl a1 a2]
  rfl
theorem lap_8 (k : Nat) {r n C : Nat} {p : List (List Nat)} {t : List (List Fr)} {s : Store} (h : Lp r n C s) (hC : C < 80000) (hc : IsCirc p t) (x1 x2 x3 x4 x5 x6 x7 x9 : Option D) : ∃ (m : List Fr) (s' : Store), ex (lev tx (k + 3)) b__law_right_0_8 (E9 r x1 x2 x3 x4 x5 x6 x7 (some (dP p t)) x9) s = .ok (.nx (E9 r x1 x2 x3 x4 x5 x6 x7 (some (dP p t)) (some (dFs m)))) s' ∧ m.length = p.length ∧ (∀ f ∈ m, IsFr f ∧ Txf f) ∧ Lp r n (C + 20) s' := by
  obtain ⟨m, s', e2, h1, h2, h3⟩ := lawminds_ok k (many := p.length) h hC hc.five
  refine ⟨m, s', ?_, h1, h2, h3⟩
  have a2 : ev (lev tx (k + 3)) (.call (Str.ofString "_law_minds") [.var 0, .blt .len [.ix (.var 8) (.cint 0)]]) (E9 r x1 x2 x3 x4 x5 x6 x7 (some (dP p t)) x9) s = .ok (dFs m) s' := ev_call (xs := [.ref r, .int (p.length : Int)]) (S1 := s) (by simp [ev, len_P, opBlt, bLen, len_N, optR]) e2
  exact (ex_set a2).trans rfl
theorem lap_2 (k : Nat) {r n C : Nat} {m : List Fr} {s : Store} (h : Lp r n C s) (hC : C < 80000) (h1 : 1 ≤ m.length) (h5 : m.length ≤ 5) (x1 x2 x3 x5 x6 x7 x8 x9 : Option D) : ∃ (i : Nat) (s' : Store), ex (lev tx (k + 1)) b__law_right_0_2 (E9 r x1 x2 x3 (some (dFs m)) x5 x6 x7 x8 x9) s = .ok (.nx (E9 r x1 x2 x3 (some (dFs m)) (some (.int (i : Int))) x6 x7 x8 x9)) s' ∧ i < m.length ∧ Lp r n (C + 1) s' := by
  obtain ⟨i, s', e, i0, i1, hL, _⟩ := wick_ok k (many := (m.length : Int)) h (by omega) (by omega) (by omega)
  obtain ⟨j, rfl⟩ : ∃ j : Nat, i = (j : Int) := ⟨i.toNat, by omega⟩
  refine ⟨j, s', ?_, by omega, hL⟩
  have a2 : ev (lev tx (k + 1)) (.call (Str.ofString "_law_wick") [.var 0, .blt .len [.var 4]]) (E9 r x1 x2 x3 (some (dFs m)) x5 x6 x7 x8 x9) s = .ok (.int (j : Int)) s' := ev_call (xs := [.ref r, .int (m.length : Int)]) (S1 := s) (by simp [ev, opBlt, bLen, len_F, optR]) e
  exact (ex_set a2).trans rfl
theorem fr_neg : IsFr (-999998, 7) ∧ Txf (-999998, 7) := by
  refine ⟨⟨by decide, by decide⟩, Bits.mono (n := 20) (by show (-999998 : Int).natAbs < 1048576; decide) (by decide), Bits.mono (n := 20) (by show (7 : Int).natAbs < 1048576; decide) (by decide)⟩
theorem fr_big : IsFr (100000000000000000000, 3) ∧ Txf (100000000000000000000, 3) := by
  refine ⟨⟨by decide, by decide +kernel⟩, Bits.mono (n := 67) (by show (100000000000000000000 : Int).natAbs < 147573952589676412928; decide) (by decide), Bits.mono (n := 20) (by show (3 : Int).natAbs < 1048576; decide) (by decide)⟩
theorem lap_3 (k : Nat) {r n C i : Nat} {m : List Fr} {s : Store} (h : Lp r n C s) (hC : C < 80000) (hi : i < m.length) (h5 : m.length ≤ 5) (hm : ∀ f ∈ m, IsFr f ∧ Txf f) (x1 x2 x3 x6 x7 x8 x9 : Option D) : ∃ (m' : List Fr) (s' : Store), ex (lev tx (k + 2)) b__law_right_0_3 (E9 r x1 x2 x3 (some (dFs m)) (some (.int (i : Int))) x6 x7 x8 x9) s = .ok (.nx (E9 r x1 x2 x3 (some (dFs m')) (some (.int (i : Int))) x6 x7 x8 x9)) s' ∧ m'.length = m.length ∧ (∀ f ∈ m', IsFr f ∧ Txf f) ∧ Lp r n (C + 1) s' := by
  obtain ⟨d, s', e, hd, hL, _⟩ := of_ok k (l := [dF m[i], dF (-999998, 7), dF (100000000000000000000, 3)]) h (by omega) (by simp) (by simp) (by simp)
  obtain ⟨f, rfl, hf⟩ : ∃ f, d = dF f ∧ IsFr f ∧ Txf f := by
    simp only [List.mem_cons, List.not_mem_nil, or_false] at hd
    rcases hd with rfl | rfl | rfl
    · exact ⟨_, rfl, hm _ (List.getElem_mem hi)⟩
    · exact ⟨_, rfl, fr_neg⟩
    · exact ⟨_, rfl, fr_big⟩
  refine ⟨m.take i ++ [f] ++ m.drop (i + 1), s', ?_, by simp; omega, fun g hg => ?_, hL⟩
  · have o1 : ∀ s : Store, opSl s (dFs m) none (some (i : Int)) = .ok (dFs (m.take i)) s := fun s => by
      unfold dFs opSl
      dsimp only
      rw [cut_to, List.map_take]
    have o2 : ∀ s : Store, opSl s (dFs m) (some ((i : Int) + 1)) none = .ok (dFs (m.drop (i + 1))) s := fun s => by
      unfold dFs opSl
      dsimp only
      rw [show (i : Int) + 1 = ((i + 1 : Nat) : Int) by omega, cut_from, List.map_drop]
    have o3 : opIx s (dFs m) (.int (i : Int)) = .ok (dF m[i]) s := by
      have : L2.atI (m.map dF) (i : Int) = some (dF m[i]) := atI_nat (by rw [List.getElem?_map, List.getElem?_eq_getElem hi]; rfl)
      unfold dFs opIx
      dsimp only
      rw [this]
    have o4 : opAdd s' (dFs (m.take i)) (.tup [dF f]) = .ok (dFs (m.take i ++ [f])) s' := by
      unfold dFs opAdd
      dsimp only
      rw [List.length_map, List.map_append]
      exact if_pos (show (m.take i).length + 1 ≤ 16777216 by rw [List.length_take]; omega)
    have o5 : opAdd s' (dFs (m.take i ++ [f])) (dFs (m.drop (i + 1))) = .ok (dFs (m.take i ++ [f] ++ m.drop (i + 1))) s' := by
      unfold dFs opAdd
      dsimp only
      rw [List.length_map, List.length_map, ← List.map_append]
      exact if_pos (show (m.take i ++ [f]).length + (m.drop (i + 1)).length ≤ 16777216 by rw [List.length_append, List.length_take, List.length_drop, List.length_singleton]; omega)
    have e : (lev tx (k + 2)).fn (Str.ofString "_law_of") [.ref r, .lst [dF m[i], .tup [.int (-999998), .int 7], .tup [.int 100000000000000000000, .int 3]]] s = .ok (dF f) s' := e
    refine (ex_set (d := dFs (m.take i ++ [f] ++ m.drop (i + 1))) (S' := s') ?_).trans rfl
    have hpow : opBin .Pow s (.int 10) (.int 20) = .ok (.int 100000000000000000000) s := by
      unfold opBin
      dsimp only
      rw [if_pos (by decide)]
      rfl
    generalize dFs (m.take i ++ [f] ++ m.drop (i + 1)) = u1 at *
    generalize dFs (m.take i ++ [f]) = u2 at *
    generalize dFs (m.take i) = u3 at *
    generalize dFs (m.drop (i + 1)) = u4 at *
    generalize dFs m = u5 at *
    generalize dF m[i] = u6 at *
    generalize dF f = u7 at *
    have hadd : opBin .Add s' u3 (.tup [u7]) = .ok u2 s' := o4
    have hadd2 : opBin .Add s' u2 u4 = .ok u1 s' := o5
    have hadd3 : opBin .Add s' (.int (i : Int)) (.int 1) = .ok (.int ((i : Int) + 1)) s' := rfl
    simp [ev, partD, Tm.isCnon, o1, o3, hpow, line, e, hadd, hadd3, o2, hadd2]
  · rcases List.mem_append.mp hg with hg | hg
    · rcases List.mem_append.mp hg with hg | hg
      · exact hm g (List.mem_of_mem_take hg)
      · rw [List.mem_singleton.mp hg]
        exact hf
    · exact hm g (List.mem_of_mem_drop hg)
end LW
end
section
set_option Elab.async false
set_option linter.all false
set_option maxRecDepth 100000
set_option maxHeartbeats 1000000
/-! One lap: what it looks at. -/
namespace LW
open PySem MM SX
variable {p : List (List Nat)} {t : List (List Fr)} {m : List Fr}
theorem rows_at (k : Nat) (h : Gd p t m) (s : Store) (hS : Sok s) : (lev tx (k + 12)).fn (Str.ofString "circle_rows") [dC p t, dFs m] s = .ok (dX p t m) s := by
  have := circle_rows_ok (k + 3) h s hS
  rw [show k + 3 + 9 = k + 12 from rfl] at this
  exact this
theorem text_at (k : Nat) (h : Gd p t m) (s : Store) : (lev tx (k + 12)).fn (Str.ofString "_law_text") [dP p t, dFs m] s = .ok (dX p t m) s := by
  have := text_ok (k + 11) h s
  rw [show k + 11 + 1 = k + 12 from rfl] at this
  exact this
theorem stext_at (k : Nat) (h : Gd p t m) (s : Store) : (lev tx (k + 12)).fn (Str.ofString "_law_same") [.lst [dX p t m, dX p t m], .lst [dX p t m, dX p t m]] s = .ok (.bl true) s := by
  have := same_text (k + 9) h s
  rw [show k + 9 + 3 = k + 12 from rfl] at this
  exact this
theorem scm_at (k : Nat) (h : Gd p t m) (s : Store) : (lev tx (k + 12)).fn (Str.ofString "_law_same") [.lst [dP p t, dFs m], .lst [dP p t, dFs m]] s = .ok (.bl true) s := by
  have := same_cm (k + 6) h s
  rw [show k + 6 + 6 = k + 12 from rfl] at this
  exact this
theorem perm_cm (a b : D) : permBy [(Str.ofString "circle"), (Str.ofString "minds")] [(Str.ofString "minds"), (Str.ofString "circle")] [b, a] = [a, b] := by kernel_rfl
theorem perm_r (a : D) : permBy [(Str.ofString "rows")] [(Str.ofString "rows")] [a] = [a] := by kernel_rfl
theorem lap_4 (k : Nat) (h : Gd p t m) {r : Nat} {s : Store} (x1 x3 x5 x6 x7 x8 x9 : Option D) : ex (lev tx (k + 12)) b__law_right_0_4 (E9 r x1 (some (dP p t)) x3 (some (dFs m)) x5 x6 x7 x8 x9) s = .ok (.nx (E9 r x1 (some (dP p t)) x3 (some (dFs m)) x5 (some (dX p t m)) x7 x8 x9)) s := by
  have e := text_at k h s
  have a : ev (lev tx (k + 12)) (.call (Str.ofString "_law_text") [.var 2, .var 4]) (E9 r x1 (some (dP p t)) x3 (some (dFs m)) x5 x6 x7 x8 x9) s = .ok (dX p t m) s := ev_call (xs := [dP p t, dFs m]) (S1 := s) (by simp [ev]) e
  exact (ex_set a).trans rfl
theorem lap_5 (k : Nat) (h : Gd p t m) {r : Nat} {s : Store} (hS : Sok s) (x1 x5 x7 x8 x9 : Option D) : ex (lev tx (k + 12)) b__law_right_0_5 (E9 r x1 (some (dP p t)) (some (dC p t)) (some (dFs m)) x5 (some (dX p t m)) x7 x8 x9) s = .ok (.nx (E9 r x1 (some (dP p t)) (some (dC p t)) (some (dFs m)) x5 (some (dX p t m)) x7 x8 x9)) s := by
  have e1 := rows_at k h s hS
  have e2 := stext_at k h s
  refine ex_ite_f (S' := s) ?_ exs_nil
  have a : ev (lev tx (k + 12)) (.call (Str.ofString "_law_same") [.lst false [.call (Str.ofString "circle_rows") [.var 3, .var 4], .kcl (Str.ofString "circle_rows") [Str.ofString "circle", Str.ofString "minds"] [Str.ofString "minds", Str.ofString "circle"] [.var 4, .var 3]], .lst false [.var 6, .var 6]]) (E9 r x1 (some (dP p t)) (some (dC p t)) (some (dFs m)) x5 (some (dX p t m)) x7 x8 x9) s = .ok (.bl true) s := by
    refine ev_call (xs := [.lst [dX p t m, dX p t m], .lst [dX p t m, dX p t m]]) (S1 := s) ?_ e2
    generalize dX p t m = X at *
    simp [ev, e1, perm_cm, line]
  unfold ev
  rw [a, Res.bind_ok]
  rfl
theorem read_at (k : Nat) (h : Gd p t m) (s : Store) (hS : Sok s) : (lev tx (k + 12)).fn (Str.ofString "read_circle") [dX p t m] s = .ok (.tup [dC p t, dFs m]) s := read_ok k h s hS
theorem oeq_at (k : Nat) (h : Gd p t m) (s : Store) : opOeq (lev tx (k + 12)) true (dC p t) (dC p t) s = .ok (.bl false) s := by
  have ha : ∀ c ∈ p, Asc c := fun c hc => (h.c.nam c hc).w.asc
  have := oeq_ok (k + 10) (t := t) (u := t) s ha ha true
  rw [show k + 10 + 2 = k + 12 from rfl, decide_eq_true rfl] at this
  exact this
theorem parts_at (k : Nat) (s : Store) : opFld (lev tx (k + 12)) (dC p t) (Str.ofString "parts") s = .ok (dP p t) s := by
  have := parts_of (k + 11) (p := p) (t := t) s
  rw [show k + 11 + 1 = k + 12 from rfl] at this
  exact this
theorem lap_6 (k : Nat) (h : Gd p t m) {r : Nat} {s : Store} (hS : Sok s) (x1 x5 x7 x8 x9 : Option D) : ∃ y7, ex (lev tx (k + 12)) b__law_right_0_6 (E9 r x1 (some (dP p t)) (some (dC p t)) (some (dFs m)) x5 (some (dX p t m)) x7 x8 x9) s = .ok (.nx (E9 r x1 (some (dP p t)) (some (dC p t)) (some (dFs m)) x5 (some (dX p t m)) y7 x8 x9)) s := by
  have e1 := rows_at k h s hS
  have e2 := read_at k h s hS
  have e3 := scm_at k h s
  have e4 := oeq_at k h s
  have e5 := parts_at k (p := p) (t := t) s
  have hlen : eqD s (.int 2) (.int 2) = some true := by rw [eqD_pln rfl rfl, decide_eq_true rfl]
  obtain ⟨δ', S', e, hS', y, hδ⟩ := ex_for1 (g := lev tx (k + 12)) (v := 7) (it := .lst false [.call (Str.ofString "read_circle") [.var 6], .kcl (Str.ofString "read_circle") [Str.ofString "rows"] [Str.ofString "rows"] [.var 6], .call (Str.ofString "read_circle") [.call (Str.ofString "circle_rows") [.var 3, .var 4]]]) (b := q__law_right_0_6) (δ := E9 r x1 (some (dP p t)) (some (dC p t)) (some (dFs m)) x5 (some (dX p t m)) x7 x8 x9) (S := s) (x := .lst [.tup [dC p t, dFs m], .tup [dC p t, dFs m], .tup [dC p t, dFs m]]) (l := [.tup [dC p t, dFs m], .tup [dC p t, dFs m], .tup [dC p t, dFs m]])
    (P := fun j δ S' => S' = s ∧ ∃ y, δ = E9 r x1 (some (dP p t)) (some (dC p t)) (some (dFs m)) x5 (some (dX p t m)) y x8 x9) (by
      generalize dX p t m = X at *
      simp [ev, e1, e2, perm_r, line]) rfl rfl ⟨rfl, x7, rfl⟩ (fun d hd => by
      simp only [List.mem_cons, List.not_mem_nil, or_false, or_self] at hd
      rw [hd]
      simp [D.hasClo, D.hasCloL]) (fun j d δ S' hj ⟨hS', y, hδ⟩ => by
      subst hS'
      subst hδ
      have hd : d = .tup [dC p t, dFs m] := by
        have := List.mem_of_getElem? hj
        simp only [List.mem_cons, List.not_mem_nil, or_false, or_self] at this
        exact this
      subst hd
      refine ⟨_, S', ?_, rfl, some (.tup [dC p t, dFs m]), rfl⟩
      have hs : (E9 r x1 (some (dP p t)) (some (dC p t)) (some (dFs m)) x5 (some (dX p t m)) y x8 x9).set 7 (some (.tup [dC p t, dFs m])) = E9 r x1 (some (dP p t)) (some (dC p t)) (some (dFs m)) x5 (some (dX p t m)) (some (.tup [dC p t, dFs m])) x8 x9 := rfl
      rw [hs]
      have g7 : (E9 r x1 (some (dP p t)) (some (dC p t)) (some (dFs m)) x5 (some (dX p t m)) (some (.tup [dC p t, dFs m])) x8 x9)[7]? = some (some (.tup [dC p t, dFs m])) := rfl
      have g2 : (E9 r x1 (some (dP p t)) (some (dC p t)) (some (dFs m)) x5 (some (dX p t m)) (some (.tup [dC p t, dFs m])) x8 x9)[2]? = some (some (dP p t)) := rfl
      have g3 : (E9 r x1 (some (dP p t)) (some (dC p t)) (some (dFs m)) x5 (some (dX p t m)) (some (.tup [dC p t, dFs m])) x8 x9)[3]? = some (some (dC p t)) := rfl
      have g4 : (E9 r x1 (some (dP p t)) (some (dC p t)) (some (dFs m)) x5 (some (dX p t m)) (some (.tup [dC p t, dFs m])) x8 x9)[4]? = some (some (dFs m)) := rfl
      generalize E9 r x1 (some (dP p t)) (some (dC p t)) (some (dFs m)) x5 (some (dX p t m)) (some (.tup [dC p t, dFs m])) x8 x9 = δ at *
      refine (exs_nx (ex_ite_f (S' := S') ?_ exs_nil)).trans exs_nil
      have q1 : ev (lev tx (k + 12)) (.ix (.var 7) (.cint 0)) δ S' = .ok (dC p t) S' := by simp [ev, g7, opIx]
      have q2 : ev (lev tx (k + 12)) (.ix (.var 7) (.cint 1)) δ S' = .ok (dFs m) S' := by simp [ev, g7, opIx]
      have q3 : ev (lev tx (k + 12)) (.call (Str.ofString "_law_same") [.lst false [.fld (.ix (.var 7) (.cint 0)) (Str.ofString "parts"), .ix (.var 7) (.cint 1)], .lst false [.var 2, .var 4]]) δ S' = .ok (.bl true) S' := by
        refine ev_call (xs := [.lst [dP p t, dFs m], .lst [dP p t, dFs m]]) (S1 := S') ?_ e3
        have q1' : ev (lev tx (k + 12)) (.fld (.ix (.var 7) (.cint 0)) (Str.ofString "parts")) δ S' = .ok (dP p t) S' := by
          unfold ev
          rw [q1, Res.bind_ok, e5]
        refine evs_two (S1 := S') rfl rfl ?_ ?_
        · have : evs (lev tx (k + 12)) [.fld (.ix (.var 7) (.cint 0)) (Str.ofString "parts"), .ix (.var 7) (.cint 1)] δ S' = .ok [dP p t, dFs m] S' := evs_two (S1 := S') rfl rfl q1' q2
          unfold ev
          rw [this, Res.bind_ok]
          rfl
        · simp [ev, g2, g4, line]
      have q4 : ev (lev tx (k + 12)) (.oeq true (.ix (.var 7) (.cint 0)) (.var 3)) δ S' = .ok (.bl false) S' := by
        unfold ev
        rw [q1, Res.bind_ok, show ev (lev tx (k + 12)) (.var 3) δ S' = .ok (dC p t) S' by simp [ev, g3], Res.bind_ok, e4]
      have q5 : ev (lev tx (k + 12)) (.not (.blt .isinstance [.var 7, .typ "tuple"])) δ S' = .ok (.bl false) S' := by simp [ev, g7, opBlt, bIsI, isInst, tyName, optR]
      have q6 : ev (lev tx (k + 12)) (.cmp .NotEq (.blt .len [.var 7]) (.cint 2)) δ S' = .ok (.bl false) S' := by simp [ev, g7, opBlt, bLen, lenD, optR, opCmp, hlen]
      have q7 : ev (lev tx (k + 12)) (.not (.call (Str.ofString "_law_same") [.lst false [.fld (.ix (.var 7) (.cint 0)) (Str.ofString "parts"), .ix (.var 7) (.cint 1)], .lst false [.var 2, .var 4]])) δ S' = .ok (.bl false) S' := by
        rw [ev, q3, Res.bind_ok]
        rfl
      rw [ev, q5, Res.bind_ok]
      dsimp only
      rw [ev, q6, Res.bind_ok]
      dsimp only
      rw [ev, q7, Res.bind_ok]
      dsimp only
      exact q4)
  subst hS'
  subst hδ
  exact ⟨y, e⟩
theorem text_inj (h : Gd p t m) {q : List (List Nat)} {u : List (List Fr)} {l : List Fr} (h' : Gd q u l) (he : dX p t m = dX q u l) : p = q ∧ t = u ∧ m = l := by
  have e1 := read_at 0 h [] rfl
  have e2 := read_at 0 h' [] rfl
  rw [he, e2] at e1
  have e3 : D.tup [dC q u, dFs l] = D.tup [dC p t, dFs m] := by injection e1
  have e4 := D.tup.inj e3
  have e5 : dC q u = dC p t := (List.cons.inj e4).1
  have e6 : dFs l = dFs m := (List.cons.inj (List.cons.inj e4).2).1
  unfold dC at e5
  injection e5 with _ _ e7
  have e8 : dP q u = dP p t := (List.cons.inj e7).1
  have e9 := D.tup.inj e8
  exact ⟨(dN_inj.mp (List.cons.inj e9).1).symm, (dT_inj.mp (List.cons.inj (List.cons.inj e9).2).1).symm, (dFs_inj.mp e6).symm⟩
theorem pair_pln (h : Gd p t m) : (D.tup [dP p t, dFs m]).pln 60 = true := by
  unfold D.pln D.plns
  rw [dP_pln (fun c hc => (h.c.nam c hc).w.asc) 55]
  unfold D.plns
  rw [dFs_pln m 57]
  rfl
theorem lap_9 (k : Nat) (h : Gd p t m) {q : List (List Nat)} {u : List (List Fr)} {l : List Fr} (h' : Gd q u l) {r : Nat} {s : Store} (hS : Sok s) (x1 x3 x5 x7 : Option D) : ex (lev tx (k + 12)) b__law_right_0_9 (E9 r x1 (some (dP p t)) x3 (some (dFs m)) x5 (some (dX p t m)) x7 (some (dP q u)) (some (dFs l))) s = .ok (.nx (E9 r x1 (some (dP p t)) x3 (some (dFs m)) x5 (some (dX p t m)) x7 (some (dP q u)) (some (dFs l)))) s := by
  refine ex_ite_f (S' := s) ?_ exs_nil
  have e1 := made_ok k s hS h'.c
  have e2 := rows_at k h' s hS
  have c1 : eqD s (dX q u l) (dX p t m) = some (decide (dX q u l = dX p t m)) := eqD_pln (dX_pln h' 59) (dX_pln h 59)
  have c2 : eqD s (.tup [dP q u, dFs l]) (.tup [dP p t, dFs m]) = some (decide (D.tup [dP q u, dFs l] = .tup [dP p t, dFs m])) := eqD_pln (pair_pln h') (pair_pln h)
  have hd : decide (dX q u l = dX p t m) = decide (D.tup [dP q u, dFs l] = .tup [dP p t, dFs m]) := by
    refine decide_eq_decide.mpr ⟨fun z => ?_, fun z => ?_⟩
    · obtain ⟨rfl, rfl, rfl⟩ := text_inj h' h z
      rfl
    · have z := D.tup.inj z
      have z1 : dP q u = dP p t := (List.cons.inj z).1
      have z2 := dFs_inj.mp (List.cons.inj (List.cons.inj z).2).1
      have z3 := D.tup.inj z1
      have z4 := dN_inj.mp (List.cons.inj z3).1
      have z5 := dT_inj.mp (List.cons.inj (List.cons.inj z3).2).1
      rw [z2, z4, z5]
  have a1 : ev (lev tx (k + 12)) (.call (Str.ofString "_law_made") [.var 8]) (E9 r x1 (some (dP p t)) x3 (some (dFs m)) x5 (some (dX p t m)) x7 (some (dP q u)) (some (dFs l))) s = .ok (dC q u) s := by
    refine ev_call (xs := [dP q u]) (S1 := s) ?_ e1
    generalize dX p t m = X at *
    simp [ev]
  have a2 : ev (lev tx (k + 12)) (.call (Str.ofString "circle_rows") [.call (Str.ofString "_law_made") [.var 8], .var 9]) (E9 r x1 (some (dP p t)) x3 (some (dFs m)) x5 (some (dX p t m)) x7 (some (dP q u)) (some (dFs l))) s = .ok (dX q u l) s := by
    refine ev_call (xs := [dC q u, dFs l]) (S1 := s) (evs_two (S1 := s) rfl rfl a1 ?_) e2
    generalize dX p t m = X at *
    simp [ev]
  have a3 : ev (lev tx (k + 12)) (.cmp .Eq (.call (Str.ofString "circle_rows") [.call (Str.ofString "_law_made") [.var 8], .var 9]) (.var 6)) (E9 r x1 (some (dP p t)) x3 (some (dFs m)) x5 (some (dX p t m)) x7 (some (dP q u)) (some (dFs l))) s = .ok (.bl (decide (dX q u l = dX p t m))) s := by
    have a4 : ev (lev tx (k + 12)) (.var 6) (E9 r x1 (some (dP p t)) x3 (some (dFs m)) x5 (some (dX p t m)) x7 (some (dP q u)) (some (dFs l))) s = .ok (dX p t m) s := by
      generalize dX p t m = X at *
      simp [ev]
    rw [ev, a2, Res.bind_ok, a4, Res.bind_ok]
    unfold opCmp
    dsimp only
    rw [c1]
  have a5 : ev (lev tx (k + 12)) (.cmp .Eq (.tup [.var 8, .var 9]) (.tup [.var 2, .var 4])) (E9 r x1 (some (dP p t)) x3 (some (dFs m)) x5 (some (dX p t m)) x7 (some (dP q u)) (some (dFs l))) s = .ok (.bl (decide (D.tup [dP q u, dFs l] = .tup [dP p t, dFs m]))) s := by
    generalize dX p t m = X at *
    simp [ev, line, opCmp, c2]
  rw [ev, a3, Res.bind_ok, a5, Res.bind_ok, hd]
  cases decide (D.tup [dP q u, dFs l] = .tup [dP p t, dFs m]) <;> rfl
end LW
end
section
set_option Elab.async false
set_option linter.all false
set_option maxRecDepth 100000
set_option maxHeartbeats 1000000
/-! The law. -/
namespace LW
open PySem MM SX
theorem lap_ok (k : Nat) {r n C : Nat} {s : Store} (h : Lp r n C s) (hC : C < 70000) (x1 x2 x3 x4 x5 x6 x7 x8 x9 : Option D) : ∃ (y2 y3 y4 y5 y6 y7 y8 y9 : Option D) (s' : Store), exs (lev tx (k + 12)) q__law_right_0 (E9 r x1 x2 x3 x4 x5 x6 x7 x8 x9) s = .ok (.nx (E9 r x1 y2 y3 y4 y5 y6 y7 y8 y9)) s' ∧ Lp r n (C + 1000) s' := by
  have L0 := lap_0 (k + 8) h (by omega) x1 x2 x3 x4 x5 x6 x7 x8 x9
  rw [show k + 8 + 4 = k + 12 from rfl] at L0
  obtain ⟨p, t, s0, e0, hc, htf, hL0⟩ := L0
  obtain ⟨m0, s1, e1, hl1, hm1, hL1⟩ := lap_1 k (t := t) hL0 (by omega) hc x1 x3 x4 x5 x6 x7 x8 x9
  have h1 := hc.one
  have h5 := hc.five
  have L2 := lap_2 (k + 11) (m := m0) hL1 (by omega) (by omega) (by omega) x1 (some (dP p t)) (some (dC p t)) x5 x6 x7 x8 x9
  rw [show k + 11 + 1 = k + 12 from rfl] at L2
  obtain ⟨i, s2, e2, hi, hL2⟩ := L2
  have L3 := lap_3 (k + 10) (m := m0) hL2 (by omega) hi (by omega) hm1 x1 (some (dP p t)) (some (dC p t)) x6 x7 x8 x9
  rw [show k + 10 + 2 = k + 12 from rfl] at L3
  obtain ⟨m, s3, e3, hl3, hm3, hL3⟩ := L3
  have G : Gd p t m := ⟨hc, by omega, hm3, htf⟩
  have e4 := lap_4 k G (r := r) (s := s3) x1 (some (dC p t)) (some (.int (i : Int))) x6 x7 x8 x9
  have e5 := lap_5 k G (r := r) (s := s3) hL3.flat.sok x1 (some (.int (i : Int))) x7 x8 x9
  obtain ⟨y7, e6⟩ := lap_6 k G (r := r) (s := s3) hL3.flat.sok x1 (some (.int (i : Int))) x7 x8 x9
  have L7 := lap_7 (k + 8) hL3 (by omega) x1 (some (dP p t)) (some (dC p t)) (some (dFs m)) (some (.int (i : Int))) (some (dX p t m)) y7 x8 x9
  rw [show k + 8 + 4 = k + 12 from rfl] at L7
  obtain ⟨q, u, s7, e7, hc', htf', hL7⟩ := L7
  have L8 := lap_8 (k + 9) (t := u) hL7 (by omega) hc' x1 (some (dP p t)) (some (dC p t)) (some (dFs m)) (some (.int (i : Int))) (some (dX p t m)) y7 x9
  rw [show k + 9 + 3 = k + 12 from rfl] at L8
  obtain ⟨l, s8, e8, hl8, hm8, hL8⟩ := L8
  have G' : Gd q u l := ⟨hc', hl8, hm8, htf'⟩
  have e9 := lap_9 k G G' (r := r) (s := s8) hL8.flat.sok x1 (some (dC p t)) (some (.int (i : Int))) y7
  refine ⟨some (dP p t), some (dC p t), some (dFs m), some (.int (i : Int)), some (dX p t m), y7, some (dP q u), some (dFs l), s8, ?_, hL8.mono (by omega)⟩
  exact (exs_nx e0).trans ((exs_nx e1).trans ((exs_nx e2).trans ((exs_nx e3).trans ((exs_nx e4).trans ((exs_nx e5).trans ((exs_nx e6).trans ((exs_nx e7).trans ((exs_nx e8).trans ((exs_nx e9).trans exs_nil)))))))))
theorem right_ok (k : Nat) {r n : Nat} {s : Store} (h : Lp r n 0 s) : ∃ s', (lev tx (k + 13)).fn (Str.ofString "_law_right") [.ref r] s = .ok (.bl true) s' ∧ Lp r n 4000 s' := by
  rw [fn__law_right]
  obtain ⟨δ', s', e, x1, x2, x3, x4, x5, x6, x7, x8, x9, hδ, hL⟩ := ex_forR (g := lev tx (k + 12)) (v := 1) (it := .cint 4) (b := q__law_right_0) (δ := E9 r nn nn nn nn nn nn nn nn nn) (S := s) (n := 4)
    (P := fun j δ S' => ∃ (x1 x2 x3 x4 x5 x6 x7 x8 x9 : Option D), δ = E9 r x1 x2 x3 x4 x5 x6 x7 x8 x9 ∧ Lp r n (1000 * j) S') (by simp [ev]) (by decide) ⟨_, _, _, _, _, _, _, _, _, rfl, h⟩ (fun j δ S' hj ⟨x1, x2, x3, x4, x5, x6, x7, x8, x9, hδ, hL⟩ => by
      subst hδ
      obtain ⟨y2, y3, y4, y5, y6, y7, y8, y9, s', e, hL'⟩ := lap_ok k hL (by omega) (some (.int (j : Int))) x2 x3 x4 x5 x6 x7 x8 x9
      exact ⟨_, s', e, _, _, _, _, _, _, _, _, _, rfl, hL'.mono (by omega)⟩)
  subst hδ
  have e1 : ex (lev tx (k + 12)) b__law_right_1 (E9 r x1 x2 x3 x4 x5 x6 x7 x8 x9) s' = .ok (.ret (.bl true)) s' := ex_ret (by simp [ev]) rfl
  have e0 : ex (lev tx (k + 12)) b__law_right_0 (E9 r nn nn nn nn nn nn nn nn nn) s = _ := e
  have hb : exs (lev tx (k + 12)) [b__law_right_0, b__law_right_1] (E9 r nn nn nn nn nn nn nn nn nn) s = .ok (.ret (.bl true)) s' := (exs_nx e0).trans (exs_ret e1)
  exact ⟨s', (fnF_ret (δ := E9 r nn nn nn nn nn nn nn nn nn) (d := .bl true) (S' := s') rfl rfl hb).trans (leave_same rfl (by rw [hL.len, h.len])), hL⟩
theorem lamp_own (k : Nat) {ns : List Int} {lap : Nat} {s : Store} (x3 x4 : Option D) : ∃ own : Int, ex (lev tx k) b__law_lamp_0 [some (.scr ns), some (.int (lap : Int)), nn, nn, nn] s = .ok (.nx [some (.scr ns), some (.int (lap : Int)), some (.int own), nn, nn]) s := by
  by_cases h : lap < ns.length
  · refine ⟨ns[lap], (ex_set (d := .int ns[lap]) (S' := s) ?_).trans rfl⟩
    have hi : L2.atI ns (lap : Int) = some ns[lap] := atI_nat (List.getElem?_eq_getElem h)
    have hlt : ((lap : Int) < (ns.length : Int)) := by omega
    simp [ev, opBlt, bLen, lenD, optR, opCmp, ltD, h, opIx, hi, bInt]
  · refine ⟨0, (ex_set (d := .int 0) (S' := s) ?_).trans rfl⟩
    simp [ev, opBlt, bLen, lenD, optR, opCmp, ltD, h]
theorem lamp_ok (k : Nat) {ns : List Int} {lap : Nat} {s : Store} (hf : Flat s) (hl : lap < 3) : ∃ m : MO, (lev tx (k + 1)).fn (Str.ofString "_law_lamp") [.scr ns, .int (lap : Int)] s = .ok (.ref s.length) (s ++ [m]) ∧ Lp s.length (s.length + 1) 0 (s ++ [m]) := by
  rw [fn__law_lamp]
  obtain ⟨own, e0⟩ := lamp_own k (ns := ns) (lap := lap) (s := s) nn nn
  have hm : mulOk 617 (lap : Int) = true := mulOk_of (n := 10) (m := 2) (by show (617 : Int).natAbs < 1024; decide) (by show (lap : Int).natAbs < 4; omega) (by decide)
  have e1 : ex (lev tx k) b__law_lamp_1 [some (.scr ns), some (.int (lap : Int)), some (.int own), nn, nn] s = .ok (.nx [some (.scr ns), some (.int (lap : Int)), some (.int own), some (.int (5647 + 617 * (lap : Int))), nn]) s := by
    refine (ex_set (d := .int (5647 + 617 * (lap : Int))) (S' := s) ?_).trans rfl
    simp [ev, opBin, hm, opAdd]
  obtain ⟨δ', s', e2, hs, b, y, hδ, b0, b1⟩ := ex_for1 (g := lev tx k) (v := 4) (it := .bin .Add (.sl (.var 0) .cnon (.cint 9)) (.lst false [.var 2])) (b := q__law_lamp_2) (δ := [some (.scr ns), some (.int (lap : Int)), some (.int own), some (.int (5647 + 617 * (lap : Int))), nn]) (S := s) (x := .lst ((ns.take 9 ++ [own]).map .int)) (l := (ns.take 9 ++ [own]).map .int)
    (P := fun j δ S' => S' = s ∧ ∃ (b : Int) (y : Option D), δ = [some (.scr ns), some (.int (lap : Int)), some (.int own), some (.int b), y] ∧ 0 ≤ b ∧ b < 2147482801) (by
      have o1 : opSl s (.scr ns) none (some 9) = .ok (.lst ((ns.take 9).map .int)) s := by
        unfold opSl
        dsimp only
        rw [show (9 : Int) = ((9 : Nat) : Int) from rfl, cut_to]
      have o2 : opAdd s (.lst ((ns.take 9).map .int)) (.lst [.int own]) = .ok (.lst ((ns.take 9 ++ [own]).map .int)) s := by
        rw [List.map_append]
        exact opAdd_lst (show ((ns.take 9).map D.int).length + 1 ≤ 16777216 by rw [List.length_map, List.length_take]; omega)
      generalize (ns.take 9).map D.int = u at *
      generalize (ns.take 9 ++ [own]).map D.int = u' at *
      simp [ev, partD, Tm.isCnon, o1, line, opBin, o2]) rfl rfl ⟨rfl, _, nn, rfl, by omega, by omega⟩ (fun d hd => by
      obtain ⟨i, _, rfl⟩ := List.mem_map.mp hd
      rfl) (fun j d δ S' hj ⟨hs, b, y, hδ, b0, b1⟩ => by
      subst hs
      subst hδ
      rw [List.getElem?_map] at hj
      obtain ⟨c, _, rfl⟩ := Option.map_eq_some_iff.mp hj
      have hq : mulOk b 21589 = true := mulOk_of (n := 31) (m := 15) (by show b.natAbs < 2147483648; omega) (by show (21589 : Int).natAbs < 32768; decide) (by decide)
      refine ⟨[some (.scr ns), some (.int (lap : Int)), some (.int own), some (.int ((b * 21589 + c % 2147482181 + 163) % 2147482801)), some (.int c)], S', ?_, rfl, _, _, rfl, Int.emod_nonneg _ (by decide), Int.emod_lt_of_pos _ (by decide)⟩
      refine (exs_nx ((ex_set (d := .int ((b * 21589 + c % 2147482181 + 163) % 2147482801)) (S' := S') ?_).trans rfl)).trans exs_nil
      simp [ev, opBin, hq, opBlt, bInt, opAdd])
  subst hs
  subst hδ
  have e2 : ex (lev tx k) b__law_lamp_2 [some (.scr ns), some (.int (lap : Int)), some (.int own), some (.int (5647 + 617 * (lap : Int))), nn] s' = _ := e2
  have hp16 : opBin .Pow s' (.int 10) (.int 16) = .ok (.int 10000000000000000) s' := by
    unfold opBin
    dsimp only
    rw [if_pos (by decide)]
    rfl
  have hp60 : opBin .Pow s' (.int 10) (.int 60) = .ok (.int (10 ^ 60)) s' := by
    unfold opBin
    dsimp only
    rw [if_pos (by decide)]
    rfl
  have hpos : (0 : Int) < 10 ^ 60 := by decide +kernel
  obtain ⟨a, ha⟩ : ∃ a : Int, ev (lev tx k) (.ite (.or (.cmp .Lt (.var 2) (.cint 0)) (.cmp .GtE (.var 2) (.bin .Pow (.cint 10) (.cint 16)))) (.bin .Mod (.blt .abs [.var 2]) (.bin .Pow (.cint 10) (.cint 60))) (.cint 0)) [some (.scr ns), some (.int (lap : Int)), some (.int own), some (.int b), y] s' = .ok (.int a) s' := by
    have c60 : ev (lev tx k) (.bin .Pow (.cint 10) (.cint 60)) [some (.scr ns), some (.int (lap : Int)), some (.int own), some (.int b), y] s' = .ok (.int (10 ^ 60)) s' := by
      simp only [ev, Res.bind_ok]
      exact hp60
    have c16 : ev (lev tx k) (.bin .Pow (.cint 10) (.cint 16)) [some (.scr ns), some (.int (lap : Int)), some (.int own), some (.int b), y] s' = .ok (.int 10000000000000000) s' := by
      simp only [ev, Res.bind_ok]
      exact hp16
    generalize (10 : Int) ^ 60 = z at *
    have cabs : ev (lev tx k) (.blt .abs [.var 2]) [some (.scr ns), some (.int (lap : Int)), some (.int own), some (.int b), y] s' = .ok (.int (if own < 0 then -own else own)) s' := by simp [ev, opBlt, bAbs]
    have cmod : ev (lev tx k) (.bin .Mod (.blt .abs [.var 2]) (.bin .Pow (.cint 10) (.cint 60))) [some (.scr ns), some (.int (lap : Int)), some (.int own), some (.int b), y] s' = .ok (.int ((if own < 0 then -own else own) % z)) s' := by
      rw [ev, cabs, Res.bind_ok, c60, Res.bind_ok]
      unfold opBin
      dsimp only
      rw [if_pos hpos]
    have clt : ev (lev tx k) (.cmp .Lt (.var 2) (.cint 0)) [some (.scr ns), some (.int (lap : Int)), some (.int own), some (.int b), y] s' = .ok (.bl (decide (own < 0))) s' := by simp [ev, opCmp, ltD]
    have cge : ev (lev tx k) (.cmp .GtE (.var 2) (.bin .Pow (.cint 10) (.cint 16))) [some (.scr ns), some (.int (lap : Int)), some (.int own), some (.int b), y] s' = .ok (.bl (!decide (own < 10000000000000000))) s' := by
      rw [ev, show ev (lev tx k) (.var 2) [some (.scr ns), some (.int (lap : Int)), some (.int own), some (.int b), y] s' = .ok (.int own) s' by simp [ev], Res.bind_ok, c16, Res.bind_ok]
      rfl
    cases hd : decide (own < 0) with
    | true =>
      rw [hd] at clt
      refine ⟨(if own < 0 then -own else own) % z, ?_⟩
      rw [ev, ev, clt, Res.bind_ok]
      dsimp only
      rw [Res.bind_ok]
      exact cmod
    | false =>
      rw [hd] at clt
      cases hd2 : decide (own < 10000000000000000) with
      | true =>
        rw [hd2] at cge
        refine ⟨0, ?_⟩
        rw [ev, ev, clt, Res.bind_ok]
        dsimp only
        rw [cge, Res.bind_ok]
        simp [ev]
      | false =>
        rw [hd2] at cge
        refine ⟨(if own < 0 then -own else own) % z, ?_⟩
        rw [ev, ev, clt, Res.bind_ok]
        dsimp only
        rw [cge, Res.bind_ok]
        exact cmod
  have e3 : ex (lev tx k) b__law_lamp_3 [some (.scr ns), some (.int (lap : Int)), some (.int own), some (.int b), y] s' = .ok (.ret (.ref s'.length)) (s' ++ [.lst [.int a, .int b, .int 0]]) := by
    refine ex_ret ?_ rfl
    have hv : evs (lev tx k) [.ite (.or (.cmp .Lt (.var 2) (.cint 0)) (.cmp .GtE (.var 2) (.bin .Pow (.cint 10) (.cint 16)))) (.bin .Mod (.blt .abs [.var 2]) (.bin .Pow (.cint 10) (.cint 60))) (.cint 0), .var 3, .cint 0] [some (.scr ns), some (.int (lap : Int)), some (.int own), some (.int b), y] s' = .ok [.int a, .int b, .int 0] s' := by
      rw [evs_ns rfl, ha, Res.bind_ok]
      simp [ev]
    rw [ev, hv, Res.bind_ok]
    rfl
  refine ⟨.lst [.int a, .int b, .int 0], ?_, ⟨by simp, hf.snoc fun k => rfl, a, b, 0, by simp, b0, b1, by decide, by decide⟩⟩
  have hb : exs (lev tx k) [b__law_lamp_0, b__law_lamp_1, b__law_lamp_2, b__law_lamp_3] [some (.scr ns), some (.int (lap : Int)), nn, nn, nn] s' = .ok (.ret (.ref s'.length)) (s' ++ [.lst [.int a, .int b, .int 0]]) := (exs_nx e0).trans ((exs_nx e1).trans ((exs_nx e2).trans (exs_ret e3)))
  refine (fnF_ret (δ := [some (.scr ns), some (.int (lap : Int)), nn, nn, nn]) rfl rfl hb).trans ?_
  have hs : Sok s' := hf.sok
  have hu : ∀ m ∈ s', MO.under s'.length m = true := List.all_eq_true.mp hs
  show leave s'.length true _ = _
  have hm : MO.under s'.length (.lst [.int a, .int b, .int 0]) = true := rfl
  generalize MO.lst [.int a, .int b, .int 0] = mo at *
  simp [leave, leaveOk, D.hasClo, hm]
  exact hu
abbrev top_level : Nat := 26 + 14
theorem law_at (k : Nat) (ns : List Int) (hn : ns.length ≤ 63) : ∃ S', (lev tx (k + 14)).fn (Str.ofString "law") [.scr ns] [] = .ok (.bl true) S' := by
  rw [fn_law]
  obtain ⟨n, h1, hn3⟩ : ∃ n : Nat, evs (lev tx (k + 13)) [.blt .max [.cint 1, .blt .min [.blt .len [.var 0], .cint 3]]] [some (.scr ns), nn] [] = .ok [.int (n : Int)] [] ∧ n ≤ 3 := by
    by_cases h : 3 < ns.length
    · refine ⟨3, ?_, by decide⟩
      have : (3 : Int) < (ns.length : Int) := by omega
      simp [ev, opBlt, bLen, lenD, optR, bMin, bMax]
      (repeat' split) <;> omega
    · by_cases h0 : 1 < ns.length
      · refine ⟨ns.length, ?_, by omega⟩
        simp [ev, opBlt, bLen, lenD, optR, bMin, bMax]
        (repeat' split) <;> omega
      · refine ⟨1, ?_, by decide⟩
        simp [ev, opBlt, bLen, lenD, optR, bMin, bMax]
        (repeat' split) <;> omega
  obtain ⟨S', r, e, hlen, hf, hr⟩ := ev_lcS (g := lev tx (k + 13)) (m := false) (v := 1) (it := .blt .max [.cint 1, .blt .min [.blt .len [.var 0], .cint 3]]) (e := .call (Str.ofString "_law_right") [.call (Str.ofString "_law_lamp") [.var 0, .var 1]]) (own := [1]) (δ := [some (.scr ns), nn]) (S := []) (n := n)
    (P := fun j S' acc => S'.length = j ∧ Flat S' ∧ acc = (List.range j).map fun _ => .bl true) h1 (by omega) ⟨rfl, fun m hm => absurd hm List.not_mem_nil, rfl⟩ (fun j S' acc hj ⟨hlen, hf, ha⟩ => by
      have L := lamp_ok (k + 12) (ns := ns) (lap := j) hf (by omega)
      rw [show k + 12 + 1 = k + 13 from rfl] at L
      obtain ⟨mo, e1, hL⟩ := L
      obtain ⟨s', e2, hL2⟩ := right_ok k hL
      refine ⟨.bl true, s', ?_, rfl, by rw [hL2.len, hlen], hL2.flat, by rw [List.range_succ, List.map_append, ha]; rfl⟩
      refine ev_call (evs_one rfl (ev_call (xs := [.scr ns, .int (j : Int)]) (S1 := S') ?_ e1)) e2
      simp [wipeE, wipeC, D.hasClo, ev])
  have e : ev (lev tx (k + 13)) t_law_0 [some (.scr ns), nn] [] = .ok (.lst r) S' := e
  have hbl : blsD ((List.range n).map fun _ => .bl true) = some ((List.range n).map fun _ => true) := bls_map (fun _ => true) _
  have e1 : ex (lev tx (k + 13)) b_law_0 [some (.scr ns), nn] [] = .ok (.ret (.bl true)) S' := by
    refine ex_ret ?_ rfl
    rw [hr] at e
    generalize (List.range n).map (fun _ => D.bl true) = u at *
    simp [ev, e, opBlt, bAll, asL, optR, hbl]
  have hb : exs (lev tx (k + 13)) [b_law_0] [some (.scr ns), nn] [] = .ok (.ret (.bl true)) S' := exs_ret e1
  by_cases h0 : S'.length = 0
  · exact ⟨S', (fnF_ret (δ := [some (.scr ns), nn]) rfl rfl hb).trans (leave_same rfl h0)⟩
  · exact ⟨S'.take 0, (fnF_ret (δ := [some (.scr ns), nn]) rfl rfl hb).trans (leave_frz rfl rfl h0 fun m hm => absurd hm (by simp))⟩
theorem law_true (ns : List Int) (h : ns.length ≤ 63) : ∃ S', (lev tx top_level).fn (Str.ofString "law") [.scr ns] [] = .ok (.bl true) S' := by
  rw [show top_level = 26 + 14 from rfl]
  exact law_at 26 ns h
end LW
end
section
set_option Elab.async false
set_option linter.all false
set_option maxRecDepth 100000
/-! The law holds. -/
open PySem PySem.W PySem.Calls PyProof.Rows
set_option maxHeartbeats 0 in
theorem PySem.Challenge.cw_mindmeans_k83_whole_texts_of_circles_holds : PySem.Challenge.rw_mindmeans_k83_whole_texts_of_circles.Holds := by
  w_on; o_law
  refine HandSHeadRun.head_imp (r := LW.R) (q := view LW.R.prog [0, 69]) (H := LW.hk) (ob := LW.ob) (M := 4000) (loose := LW.loose) (d := HandSHeadRun.topDef LW.R.prog 69) (kwd := []) LW.ob_eq LW.run
    (by kernel_rfl) (by kernel_rfl) (by kernel_rfl) (by rfl) (by first | assumption | decide +kernel) (by decide +kernel) ⟨rfl, rfl, rfl, rfl, rfl, by decide +kernel⟩ ?hw ?hc
  case hw => w_witness2
  case hc =>
    refine LamX.walk_ofTsE (l := PySem.Challenge.rw_mindmeans_k83_whole_texts_of_circles) (n := 63) (k := 2 * LW.top_level) (x := "script") (CX := fun w => L2.CX (PySem.Challenge.rw_mindmeans_k83_whole_texts_of_circles).prog w) rfl (by decide) (by kernel_rfl) ⟨rfl, by decide, by decide⟩ ?F ?G
    case F =>
      intro w mg fa h Y G hmg0
      obtain ⟨K, KX, c⟩ := Y
      have hmg : mg ("law" : PySem.Str) = some (.ref fa) := by
        have e : (HandSHeadRun.topDef LW.R.prog 69).name = ("law" : PySem.Str) := by kernel_rfl
        rw [← e]
        exact hmg0
      exact ⟨K, KX, MM.law_end (d := LW.r_law) LW.src c KX G hmg (by kernel_rfl) rfl LW.law_true⟩
    case G =>
      rintro w H s e s' ⟨_, _, _, _, _, _, _, _, _, _, _, _, z⟩
      exact z
end
