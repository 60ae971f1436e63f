import PyProof.Rows.All
import Wide.All
import OpenK.AllK
import Wide.FinOn
import HandS.ForMost
import HandS.Codes
import HandS.Slots
import HandS.SlotsOwn
import HandS.Wide
import HandS.Defaults
import HandS.HeadHook2
import HandS.HeadEnd
import HandS.FStr
import HandS.IsInst
import HandS.DictComp
import HandS.Conv
import HandS.TupAny
import HandS.Exc
import HandS.WrittenGet
import HandS.Property
import KE.KOpsOwn
import PyProof.StrOps2
import PyProof.Rows.RuleB_pow
import PyProof.InstEq
import HandS.OwnEq
import PyProof.ListRange
import PyProof.RangeFor
import HandS.StrMore
import HandS.HeadWalk
import HandS.Style
import HandS.Steps
import HandS.RaiseMore
import HandS.Zip
import HandS.Iter
import KE.GoesNew
import KE.GoesMore
import HandS.Comp
import HandS.Star
import HandS.WordsDict
import HandS.HeadHook3
import KE.KeyNested
import HandS.Head0
import HandS.Head1
import HandS.Head2
import KE.KStateDown
import Lean
import HandS.Ends
import HandS.Words
import HandS.WordsExc
import PySem.Challenge.RW_looseknobs_k79_tables_by_hand
set_option Elab.async false
set_option linter.all false
set_option maxRecDepth 100000
/-! Pd0: plain data, the small language, its evaluator. No Python here. -/
namespace Pd

/-- plain data: what an immutable value is; fl, fd: a list, a dict that nobody changes any more; wd: a dict of the text; scr: a list from outside; obj: an instance that nobody changes any more; ref: a cell of the store -/
inductive D where
  | non | bl (b : Bool) | int (i : Int) | str (s : List Nat)
  | tup (xs : List D) | fl (xs : List D) | scr (xs : List D) | fd (kvs : List (D × D)) | wd (kvs : List (D × D))
  | obj (c : Nat) (fs : List D) | ref (a : Nat) | fn (i : Nat) | exn (c : Nat) (v : D)
  deriving Inhabited

mutual
def D.beq : D → D → Bool
  | .non, .non => true
  | .bl a, .bl b => a == b
  | .int a, .int b => a == b
  | .str a, .str b => a == b
  | .tup a, .tup b => D.beqs a b
  | .fl a, .fl b => D.beqs a b
  | .scr a, .scr b => D.beqs a b
  | .fd a, .fd b => D.beqk a b
  | .wd a, .wd b => D.beqk a b
  | .obj c a, .obj d b => c == d && D.beqs a b
  | .ref a, .ref b => a == b
  | .fn a, .fn b => a == b
  | .exn c a, .exn d b => c == d && D.beq a b
  | _, _ => false
def D.beqs : List D → List D → Bool
  | [], [] => true
  | a :: r, b :: t => D.beq a b && D.beqs r t
  | _, _ => false
def D.beqk : List (D × D) → List (D × D) → Bool
  | [], [] => true
  | (a, c) :: r, (b, d) :: t => D.beq a b && (D.beq c d && D.beqk r t)
  | _, _ => false
end

mutual
/-- no cell below it whose number is n or more -/
def D.under (n : Nat) : D → Bool
  | .tup xs => D.unders n xs
  | .fl xs => D.unders n xs
  | .scr xs => D.unders n xs
  | .fd kvs => D.underk n kvs
  | .obj _ fs => D.unders n fs
  | .ref a => Nat.blt a n
  | .exn _ v => D.under n v
  | _ => true
def D.unders (n : Nat) : List D → Bool
  | [] => true
  | x :: r => D.under n x && D.unders n r
def D.underk (n : Nat) : List (D × D) → Bool
  | [] => true
  | (k, v) :: r => D.under n k && (D.under n v && D.underk n r)
end

inductive Cell where
  | lst (xs : List D)
  | dic (kvs : List (D × D))
  | ins (c : Nat) (fs : List (Option D))
  | hid
abbrev M := List Cell
abbrev Env := List (Option D)
def optBeq : List (Option D) → List (Option D) → Bool
  | [], [] => true
  | none :: r, none :: t => optBeq r t
  | some a :: r, some b :: t => D.beq a b && optBeq r t
  | _, _ => false
def Cell.beq : Cell → Cell → Bool
  | .lst a, .lst b => D.beqs a b
  | .dic a, .dic b => D.beqk a b
  | .ins c a, .ins d b => c == d && optBeq a b
  | .hid, .hid => true
  | _, _ => false
def optUnder (n : Nat) : List (Option D) → Bool
  | [] => true
  | none :: r => optUnder n r
  | some a :: r => D.under n a && optUnder n r
def Cell.under (n : Nat) : Cell → Bool
  | .lst xs => D.unders n xs
  | .dic kvs => D.underk n kvs
  | .ins _ fs => optUnder n fs
  | .hid => true
/-- nobody looks into the cells -/
def hideM (m : M) : M := m.map fun _ => .hid

/-- what comes of it: a value and the store; an exception of the class c with its value; nothing known -/
inductive R (α : Type) where
  | ok (a : α) (m : M)
  | exc (c : Nat) (v : D) (m : M)
  | bad
def R.bind {α β : Type} (r : R α) (f : α → M → R β) : R β := match r with
  | .ok a m => f a m
  | .exc c v m => .exc c v m
  | .bad => .bad

/-- where no exception is followed -/
def noexc {α : Type} (r : R α) : R α := match r with
  | .ok a m => .ok a m
  | _ => .bad

inductive BO where | add | sub | mul | mod | fdiv | pow
inductive CO where | eq | ne | lt | le | gt | ge | is | isnot | in_ | notin
/-- built-in functions -/
inductive BI where | len | int | tuple | list | all | any | abs | min | max | sum | lrange
/-- built-in methods of texts, lists, dicts -/
inductive BM where | join | split | startswith | removeprefix | append | extend | get
/-- what isinstance is asked about -/
inductive ITy where | int | bool | str | tuple | cls (c : Nat)

mutual
inductive IE where
  | var (i : Nat) | k (d : D) | g (i : Nat)
  | attr (e : IE) (a : Nat)
  | bin (op : BO) (a b : IE)
  | cmp (op : CO) (a b : IE)
  | cmp2 (o1 o2 : CO) (a b c : IE)
  | and (a b : IE) | or (a b : IE) | not (a : IE) | neg (a : IE) | inv (a : IE)
  | ite (c a b : IE)
  | tup (es : List IA) | lst (m : Bool) (es : List IA)
  | dic (m : Bool) (ks vs : List IE)
  | idx (e i : IE) | sl (e : IE) (lo hi : Option IE) | stp (e : IE) (lo : Option IE) (k : IE)
  | call (f : Nat) (es : List IE) | make (c : Nat) (es : List IE)
  | bi (b : BI) (es : List IE)
  | bm (b : BM) (e : IE) (es : List IE)
  | meth (e : IE) (a : Nat) (es : List IE)
  | isi (e : IE) (t : ITy)
  | lc (m : Bool) (x : IE) (gs : List IG)
  | dc (kx vx : IE) (g : IG)
  | fs (es : List IE)
inductive IA where | one (e : IE) | star (e : IE)
inductive IG where | mk (t : IT) (s : IS) (c : Option IE)
inductive IT where | nm (i : Nat) | tp (is : List Nat)
inductive IS where | val (e : IE) | zip (a b : IE) | enum (e : IE) | range (es : List IE)
end

inductive ST where
  | asg (t : IT) (e : IE)
  | fld (o : IE) (a : Nat) (e : IE)
  | sub (o i e : IE)
  | aug (i : Nat) (op : BO) (e : IE)
  | drop (e : IE)
  | ret (e : IE)
  | retN
  | ifs (c : IE) (a b : List ST)
  | for_ (t : IT) (s : IS) (b : List ST)
  | while_ (c : IE) (b : List ST)
  | pass
  | never

/-- a function: where it stands (a global's name; a class and its method), how many parameters, how many names, the last parameters' defaults, whether its lists and dicts stay what they are when it returns, its body -/
structure Fn where
  at_ : List Nat × Option (List Nat)
  np : Nat
  names : List (List Nat)
  dfl : List D
  keep : Bool
  body : List ST
/-- a class. kind 0: slots, nobody changes an instance once it is made; 1: an exception. slots: attributes' numbers; meths: attribute, 0 a method, 1 a property, function; sp: special, function -/
structure Cls where
  name : List Nat
  kind : Nat
  slots : List Nat
  meths : List (Nat × Nat × Nat)
  sp : List (Nat × Nat)
  init : Option Nat
inductive GV where
  | c (d : D) | fn (i : Nat) | cls (c : Nat) | free
structure Tab where
  globs : List (List Nat × GV)
  attrs : List (List Nat)
  fns : List Fn
  clss : List Cls

def lookN (l : List (Nat × Nat)) (x : Nat) : Option Nat := match l with
  | [] => none
  | (a, b) :: r => bif Nat.beq a x then some b else lookN r x
def lookM (l : List (Nat × Nat × Nat)) (x : Nat) : Option (Nat × Nat) := match l with
  | [] => none
  | (a, b) :: r => bif Nat.beq a x then some b else lookM r x
/-- the place of an attribute among the slots -/
def idxN (l : List Nat) (x : Nat) : Option Nat := match l with
  | [] => none
  | a :: r => bif Nat.beq a x then some 0 else (idxN r x).map (· + 1)

def line : Nat := 100000
def okLen (n : Nat) : Bool := Nat.ble n line
/-- a whole number of moderate size -/
def big : Int := (2 : Int) ^ 4000
def okInt (i : Int) : Bool := decide (-big < i) && decide (i < big)

/-! ### texts -/
def preL (p l : List Nat) : Bool := match p, l with
  | [], _ => true
  | a :: r, b :: t => Nat.beq a b && preL r t
  | _, [] => false
def joinL (S : List Nat) : List (List Nat) → List Nat
  | [] => []
  | [x] => x
  | x :: y :: r => x ++ (S ++ joinL S (y :: r))
def lenSum : List (List Nat) → Nat
  | [] => 0
  | x :: r => x.length + lenSum r
/-- split by one sign -/
def splitL (c : Nat) : List Nat → List Nat → List (List Nat)
  | acc, [] => [acc]
  | acc, x :: r => bif Nat.beq x c then acc :: splitL c [] r else splitL c (acc ++ [x]) r
def strOf : D → Option (List Nat)
  | .str s => some s
  | _ => none
def strsOf : List D → Option (List (List Nat))
  | [] => some []
  | .str s :: r => (strsOf r).map (s :: ·)
  | _ :: _ => none
def intsOf : List D → Option (List Int)
  | [] => some []
  | .int s :: r => (intsOf r).map (s :: ·)
  | _ :: _ => none
def blsOf : List D → Option (List Bool)
  | [] => some []
  | .bl s :: r => (blsOf r).map (s :: ·)
  | _ :: _ => none
def numL (n : Nat) : List Nat := (Nat.toDigits 10 n).map Char.toNat
def digit (c : Nat) : Bool := Nat.ble 48 c && Nat.ble c 57
def valL (l : List Nat) : Nat := l.foldl (fun a c => a * 10 + (c - 48)) 0
/-- a place: from behind if it is below nought -/
def placeOf (n : Nat) (i : Int) : Option Nat := if 0 ≤ i then (if i < n then some i.toNat else none) else if -(n : Int) ≤ i then some (i + n).toNat else none
def clip (n d : Nat) : Option Int → Nat
  | none => d
  | some i => if 0 ≤ i then min i.toNat n else (i + n).toNat
def cut {α : Type} (xs : List α) (lo hi : Option Int) : List α := (xs.drop (clip xs.length 0 lo)).take (clip xs.length xs.length hi - clip xs.length 0 lo)

/-! ### equality of plain data -/
mutual
def D.deq : D → D → Bool
  | .non, .non => true
  | .bl a, .bl b => a == b
  | .bl a, .int b => decide ((if a then (1 : Int) else 0) = b)
  | .int a, .bl b => decide (a = (if b then (1 : Int) else 0))
  | .int a, .int b => decide (a = b)
  | .str a, .str b => a == b
  | .tup a, .tup b => D.deqs a b
  | .fl a, .fl b => D.deqs a b
  | _, _ => false
def D.deqs : List D → List D → Bool
  | [], [] => true
  | a :: r, b :: t => D.deq a b && D.deqs r t
  | _, _ => false
end
mutual
/-- none, bools, whole numbers, texts, lists and tuples of such, at most so deep -/
def D.plain : Nat → D → Bool
  | _, .non => true
  | _, .bl _ => true
  | _, .int _ => true
  | _, .str s => s.all (Nat.blt · 128)
  | n + 1, .tup xs => D.plains n xs
  | n + 1, .fl xs => D.plains n xs
  | _, _ => false
def D.plains : Nat → List D → Bool
  | _, [] => true
  | n, x :: r => D.plain n x && D.plains n r
end
def peq (x y : D) : Option Bool := if D.plain 20 x && D.plain 20 y then some (D.deq x y) else none

mutual
/-- never the same object -/
def D.apart : D → D → Bool
  | .int a, .int b => !decide (a = b)
  | .str a, .str b => !(a == b)
  | .bl a, .bl b => !(a == b)
  | .obj _ a, .obj _ b => D.aparts a b
  | _, _ => false
def D.aparts : List D → List D → Bool
  | a :: r, b :: t => D.apart a b || D.aparts r t
  | _, _ => false
end
/-- the two stores are the same -/
def sameM : M → M → Bool
  | [], [] => true
  | c :: r, d :: t => Cell.beq c d && sameM r t
  | _, _ => false

/-! ### dicts -/
def isBlD : D → Bool
  | .bl _ => true
  | _ => false
def keyOk : D → Bool
  | .str _ => true
  | .int _ => true
  | _ => false
def isStrD : D → Bool
  | .str _ => true
  | _ => false
def isFlat : D → Bool
  | .non => true
  | .bl _ => true
  | .int _ => true
  | .str _ => true
  | _ => false
def blTup : D → Bool
  | .tup xs => xs.all isBlD
  | _ => false
/-- all keys are texts -/
def strKeys (kvs : List (D × D)) : Bool := !kvs.isEmpty && kvs.all fun kv => isStrD kv.1
def dget (kvs : List (D × D)) (k : D) : Option D := match kvs with
  | [] => none
  | (a, b) :: r => bif D.beq a k then some b else dget r k
def dput (kvs : List (D × D)) (k v : D) : List (D × D) := match kvs with
  | [] => [(k, v)]
  | (a, b) :: r => bif D.beq a k then (a, v) :: r else (a, b) :: dput r k v

/-! ### the store -/
def cellAt (m : M) (a : Nat) : Option Cell := m[a]?
/-- the items of a list or a tuple -/
def itemsOf (m : M) : D → Option (List D)
  | .tup xs => some xs
  | .fl xs => some xs
  | .scr xs => some xs
  | .ref a => match m[a]? with
    | some (.lst xs) => some xs
    | _ => none
  | _ => none
/-- the items of a list -/
def listIt (m : M) : D → Option (List D)
  | .tup _ => none
  | d => itemsOf m d
/-- what a for goes over: a list, a tuple, a text's signs -/
def walkOf (m : M) : D → Option (List D)
  | .str s => some (s.map fun c => .str [c])
  | d => itemsOf m d

/-- handed back: cells from n on are closed -/
def closeD (m : M) (n : Nat) (d : D) : Option D := match d with
  | .ref a => bif Nat.blt a n then some d else match m[a]? with
    | some (.lst xs) => bif D.unders n xs then some (.fl xs) else none
    | some (.dic kvs) => bif D.underk n kvs then some (.fd kvs) else none
    | _ => none
  | d => bif D.under n d then some d else none
/-- the cells below n are as they were, or hold no cell from n on -/
def oldOk (n : Nat) : M → M → Bool
  | [], _ => true
  | _ :: _, [] => false
  | c :: r, d :: t => (Cell.under n d || Cell.beq c d) && oldOk n r t
def closeR (m : M) (r : R D) : R D := match r with
  | .ok d m' => bif oldOk m.length m m' then (match closeD m' m.length d with
    | some d' => .ok d' (m'.take m.length)
    | none => .ok d m') else .ok d m'
  | r => r
/-- what was hidden is there again -/
def shown (m : M) (r : R D) : R D := match r with
  | .ok d m' => bif Nat.beq m'.length m.length && oldOk m.length (hideM m) m' then .ok d m else .bad
  | .exc c v m' => bif oldOk m.length (hideM m) m' && D.under m.length v then .exc c v m else .bad
  | .bad => .bad
def somes : List (Option D) → Option (List D)
  | [] => some []
  | some d :: r => (somes r).map (d :: ·)
  | none :: _ => none

/-! ### the evaluator: from the callees (called at a level below) and the parts -/
/-- the callees: a function, its arguments, the store -/
abbrev Call := Nat → List D → M → R D
section
variable (T : Tab) (cl : Call)

def defaults (f : Fn) (ds : List D) : Option (List D) :=
  let l := ds ++ f.dfl.drop (f.dfl.length - (f.np - ds.length))
  bif Nat.beq l.length f.np then some l else none
def callF (i : Nat) (ds : List D) (m : M) : R D := match T.fns[i]? with
  | none => .bad
  | some f => match defaults f ds with
    | none => .bad
    | some l => bif f.keep then cl i l m else bif D.unders 0 l then shown m (closeR (hideM m) (cl i l (hideM m))) else closeR m (cl i l m)
/-- the attributes of the new instance, all of them stored -/
def insAt (c n : Nat) (m' : M) : Option (List D) := match m'[n]? with
  | some (.ins c' fs) => bif Nat.beq c' c then somes fs else none
  | _ => none
def madeF (c : Nat) (m : M) (r : R D) : R D := match r with
  | .ok .non m' => bif oldOk m.length m m' then (match insAt c m.length m' with
    | some ds => bif !ds.isEmpty && D.unders m.length ds then .ok (.obj c ds) (m'.take m.length) else .bad
    | none => .bad) else .bad
  | .exc c v m' => .exc c v m'
  | _ => .bad
/-- a new instance of a class whose __init__ is known -/
def newF (c i : Nat) (k : Cls) (ds : List D) (m : M) : R D := match T.fns[i]? with
  | none => .bad
  | some f => match defaults f (.ref m.length :: ds) with
    | none => .bad
    | some l => bif D.unders 0 l.tail then shown m (madeF c (hideM m) (cl i l (hideM m ++ [.ins c (k.slots.map fun _ => Option.none)]))) else madeF c m (cl i l (m ++ [.ins c (k.slots.map fun _ => Option.none)]))
/-- a new instance -/
def makeF (c : Nat) (ds : List D) (m : M) : R D := match T.clss[c]? with
  | none => .bad
  | some k => match k.init with
    | none => .bad
    | some i => bif Nat.beq k.kind 0 then newF T cl c i k ds m else .bad
/-- the class of an instance that nobody changes any more -/
def clsOf (d : D) : Option (Nat × Cls) := match d with
  | .obj c _ => (T.clss[c]?).map fun k => (c, k)
  | _ => none
/-- o.a of an instance -/
def attrO (k : Cls) (d : D) (fs : List D) (a : Nat) (m : M) : R D := match idxN k.slots a with
  | some i => (match fs[i]? with
    | some v => .ok v m
    | none => .bad)
  | none => match lookM k.meths a with
    | some (1, f) => noexc (callF T cl f [d] m)
    | _ => .bad
/-- o.a of an instance that is being made -/
def attrC (k : Cls) (fs : List (Option D)) (a : Nat) (m : M) : R D := match idxN k.slots a with
  | some i => (match fs[i]? with
    | some (some v) => .ok v m
    | _ => .bad)
  | none => .bad
/-- o.a -/
def attrF (d : D) (a : Nat) (m : M) : R D := match d with
  | .obj c fs => (match T.clss[c]? with
    | none => .bad
    | some k => attrO T cl k (.obj c fs) fs a m)
  | .ref r => (match m[r]? with
    | some (.ins c fs) => (match T.clss[c]? with
      | none => .bad
      | some k => attrC k fs a m)
    | _ => .bad)
  | _ => .bad
/-- a special method of an instance -/
def specF (s : Nat) (d : D) (ds : List D) (m : M) : R D := match d with
  | .obj c fs => (match T.clss[c]? with
    | none => .bad
    | some k => match lookN k.sp s with
      | some f => callF T cl f (.obj c fs :: ds) m
      | none => .bad)
  | _ => .bad
/-- the method of that name -/
def methK (k : Cls) (a : Nat) : Option Nat := match idxN k.slots a, lookM k.meths a with
  | none, some (0, f) => some f
  | _, _ => none
def methG (d : D) (a : Nat) (m : M) : Option Nat := match d with
  | .obj c _ => (T.clss[c]?).bind fun k => methK k a
  | .ref r => (match m[r]? with
    | some (.ins c _) => (T.clss[c]?).bind fun k => methK k a
    | _ => none)
  | _ => none

/-- the own == keeps no cell -/
def eqPl (c : Nat) : Bool := match T.clss[c]? with
  | none => false
  | some k => match lookN k.sp 0 with
    | none => false
    | some f => match T.fns[f]? with
      | some g => !g.keep && g.dfl.isEmpty
      | none => false
/-- numbers of specials: 0 __eq__, 1 __len__, 2 __neg__, 3 __mul__, 4 __invert__ -/
def eqO (x y : D) (m : M) : R Bool := match x, y with
  | .obj c fs, .obj c' fs' => (match specF T cl 0 (.obj c fs) [.obj c' fs'] m with
    | .ok (.bl b) m' => bif Nat.beq c c' && ((D.unders 0 fs && (D.unders 0 fs' && eqPl T c)) || sameM m m') then .ok b m else .bad
    | _ => .bad)
  | _, _ => .bad
def eqP (x y : D) (m : M) : R Bool := match peq x y with
  | some b => .ok b m
  | none => .bad
/-- of two items of tuples -/
def eq1 (x y : D) (m : M) : R Bool := match x with
  | .obj c fs => (eqO T cl (.obj c fs) y m).bind fun b m => bif b || D.apart (.obj c fs) y then .ok b m else .bad
  | x => eqP x y m
def eqItems : List D → List D → M → R Bool
  | [], [], m => .ok true m
  | a :: r, b :: t, m => (eq1 T cl a b m).bind fun z m => bif z then eqItems r t m else .ok false m
  | _, _, _ => .bad
def eqF (x y : D) (m : M) : R Bool := match x, y with
  | .obj c fs, y => eqO T cl (.obj c fs) y m
  | .tup xs, .tup ys => bif D.plains 19 xs && D.plains 19 ys then .ok (D.deqs xs ys) m else bif Nat.beq xs.length ys.length then eqItems T cl xs ys m else .bad
  | x, y => eqP x y m
def neF (x y : D) (m : M) : R Bool := match x with
  | .obj c fs => (eqO T cl (.obj c fs) y m).bind fun b m => .ok (!b) m
  | x => (eqP x y m).bind fun b m => .ok (!b) m

def binF (op : BO) (x y : D) (m : M) : R D := match op, x, y with
  | .add, .int a, .int b => .ok (.int (a + b)) m
  | .sub, .int a, .int b => .ok (.int (a - b)) m
  | .mul, .int a, .int b => bif okInt a && okInt b then .ok (.int (a * b)) m else .bad
  | .mod, .int a, .int b => bif decide (0 < b) then .ok (.int (a % b)) m else .bad
  | .fdiv, .int a, .int b => bif decide (0 < b) && okInt b then .ok (.int (a / b)) m else .bad
  | .pow, .int a, .int b => bif decide (0 ≤ b) && (decide (b ≤ 100) && okInt a) then .ok (.int (a ^ b.toNat)) m else .bad
  | .add, .str a, .str b => bif okLen (a.length + b.length) then .ok (.str (a ++ b)) m else .bad
  | .mul, .str a, .int b => bif decide (0 ≤ b) && (decide (b ≤ 1000) && okLen (a.length * b.toNat)) then .ok (.str (List.replicate b.toNat a).flatten) m else .bad
  | .add, .tup a, .tup b => bif okLen (a.length + b.length) then .ok (.tup (a ++ b)) m else .bad
  | .add, .fl a, .fl b => bif okLen (a.length + b.length) then .ok (.fl (a ++ b)) m else .bad
  | .mul, .fl a, .int b => bif decide (0 ≤ b) && (decide (b ≤ 1000) && okLen (a.length * b.toNat)) then .ok (.fl (List.replicate b.toNat a).flatten) m else .bad
  | .mul, .obj c fs, .obj c' fs' => bif Nat.beq c c' then specF T cl 3 (.obj c fs) [.obj c' fs'] m else .bad
  | _, _, _ => .bad
def idxF (x i : D) (m : M) : R D := match x, i with
  | .fd kvs, k => bif keyOk k then (match dget kvs k with
    | some d => .ok d m
    | none => .bad) else .bad
  | .wd kvs, k => (match dget kvs k with
    | some d => .ok d m
    | none => .bad)
  | .str s, .int i => (match placeOf s.length i with
    | some j => (match s[j]? with
      | some c => bif okLen s.length then .ok (.str [c]) m else .bad
      | none => .bad)
    | none => .bad)
  | x, .int i => (match itemsOf m x with
    | some xs => (match placeOf xs.length i with
      | some j => (match xs[j]? with
        | some d => .ok d m
        | none => .bad)
      | none => .bad)
    | none => .bad)
  | _, _ => .bad
/-- x in y -/
def inF (x y : D) (m : M) : R Bool := match y with
  | .str s => (match x with
    | .str [c] => .ok (decide (c ∈ s)) m
    | _ => .bad)
  | .fd kvs => bif keyOk x then .ok (dget kvs x).isSome m else .bad
  | .wd kvs => bif isStrD x && strKeys kvs then .ok (dget kvs x).isSome m else .bad
  | y => match itemsOf m y with
    | some xs => bif isFlat x && xs.all isFlat then .ok (xs.any fun z => D.deq z x) m else .bad
    | none => .bad
def cmpF (op : CO) (x y : D) (m : M) : R Bool := match op with
  | .eq => noexc (eqF T cl x y m)
  | .ne => noexc (neF T cl x y m)
  | .lt => (match x, y with | .int a, .int b => .ok (decide (a < b)) m | _, _ => .bad)
  | .le => (match x, y with | .int a, .int b => .ok (decide (a ≤ b)) m | _, _ => .bad)
  | .gt => (match x, y with | .int a, .int b => .ok (decide (b < a)) m | _, _ => .bad)
  | .ge => (match x, y with | .int a, .int b => .ok (decide (b ≤ a)) m | _, _ => .bad)
  | .is => (match y with | .non => .ok (match x with | .non => true | _ => false) m | _ => .bad)
  | .isnot => (match y with | .non => .ok (match x with | .non => false | _ => true) m | _ => .bad)
  | .in_ => inF x y m
  | .notin => (inF x y m).bind fun b m => .ok (!b) m
def listMax : Int → List Int → Int
  | a, [] => a
  | a, b :: r => listMax (if a < b then b else a) r
def listMin : Int → List Int → Int
  | a, [] => a
  | a, b :: r => listMin (if b < a then b else a) r
def rangeL (lo hi : Int) : List D := (List.range (hi - lo).toNat).map fun (i : Nat) => .int (lo + i)
def lenF (r : R D) : R D := r.bind fun d m => match d with
  | .int i => bif decide (0 ≤ i) && decide (i < 1000000) then .ok (.int i) m else .bad
  | _ => .bad
def biF (b : BI) (ds : List D) (m : M) : R D := match b, ds with
  | .len, [.str s] => bif okLen s.length then .ok (.int s.length) m else .bad
  | .len, [.fd kvs] => .ok (.int kvs.length) m
  | .len, [.obj c fs] => lenF (specF T cl 1 (.obj c fs) [] m)
  | .len, [d] => (match itemsOf m d with
    | some xs => .ok (.int xs.length) m
    | none => .bad)
  | .int, [.int i] => .ok (.int i) m
  | .int, [.bl b] => .ok (.int (if b then 1 else 0)) m
  | .int, [.str s] => bif s.all digit && (!s.isEmpty && Nat.ble s.length 600) then .ok (.int (valL s)) m else .bad
  | .tuple, [d] => (match itemsOf m d with
    | some xs => .ok (.tup xs) m
    | none => .bad)
  | .list, [d] => (match itemsOf m d with
    | some xs => .ok (.fl xs) m
    | none => .bad)
  | .all, [d] => (match (listIt m d).bind blsOf with
    | some bs => .ok (.bl (bs.all id)) m
    | none => .bad)
  | .any, [d] => (match (listIt m d).bind blsOf with
    | some bs => .ok (.bl (bs.any id)) m
    | none => .bad)
  | .sum, [d] => (match (listIt m d).bind intsOf with
    | some is => .ok (.int is.sum) m
    | none => .bad)
  | .abs, [.int i] => .ok (.int (if i < 0 then -i else i)) m
  | .max, [.int i, .int j] => .ok (.int (if i < j then j else i)) m
  | .min, [.int i, .int j] => .ok (.int (if j < i then j else i)) m
  | .lrange, [.int i] => bif decide (-10000 ≤ i) && decide (i ≤ 10000) then .ok (.fl (rangeL 0 i)) m else .bad
  | _, _ => .bad
def bmF (b : BM) (d : D) (ds : List D) (m : M) : R D := match b, d, ds with
  | .join, .str s, [x] => (match (itemsOf m x).bind strsOf with
    | some xs => bif okLen (lenSum xs + xs.length * s.length) then .ok (.str (joinL s xs)) m else .bad
    | none => .bad)
  | .split, .str s, [.str [c]] => bif okLen (s.length + 2) && Nat.blt c 128 then .ok (.fl ((splitL c [] s).map .str)) m else .bad
  | .startswith, .str s, [.str p] => .ok (.bl (preL p s)) m
  | .removeprefix, .str s, [.str p] => bif okLen s.length && okLen p.length then .ok (.str (if preL p s then s.drop p.length else s)) m else .bad
  | .get, .fd kvs, [k] => bif keyOk k then .ok ((dget kvs k).getD .non) m else .bad
  | .get, .fd kvs, [k, d] => bif keyOk k then .ok ((dget kvs k).getD d) m else .bad
  | .get, .wd kvs, [k] => bif isStrD k && strKeys kvs then .ok ((dget kvs k).getD .non) m else .bad
  | .get, .wd kvs, [k, d] => bif isStrD k && strKeys kvs then .ok ((dget kvs k).getD d) m else .bad
  | .append, .ref a, [x] => (match m[a]? with
    | some (.lst xs) => bif okLen xs.length then .ok .non (m.set a (.lst (xs ++ [x]))) else .bad
    | _ => .bad)
  | .extend, .ref a, [.fl ys] => (match m[a]? with
    | some (.lst xs) => bif okLen (xs.length + ys.length) then .ok .non (m.set a (.lst (xs ++ ys))) else .bad
    | _ => .bad)
  | _, _, _ => .bad
/-- whether the receiver has such a method -/
def bmOk (b : BM) (d : D) (m : M) : Bool := match b, d with
  | .join, .str _ => true
  | .split, .str _ => true
  | .startswith, .str _ => true
  | .removeprefix, .str _ => true
  | .get, .fd _ => true
  | .get, .wd _ => true
  | .append, .ref a => (match m[a]? with
    | some (.lst _) => true
    | _ => false)
  | .extend, .ref a => (match m[a]? with
    | some (.lst _) => true
    | _ => false)
  | _, _ => false
def isiF (d : D) (t : ITy) : Option Bool := match t, d with
  | _, .fn _ => none
  | _, .ref _ => none
  | _, .exn _ _ => none
  | .int, .int _ => some true
  | .int, .bl _ => some true
  | .int, _ => some false
  | .bool, .bl _ => some true
  | .bool, _ => some false
  | .str, .str _ => some true
  | .str, _ => some false
  | .tuple, .tup _ => some true
  | .tuple, _ => some false
  | .cls c, .obj c' _ => some (Nat.beq c c')
  | .cls _, _ => some false
/-- a slice -/
def slF (x : D) (lo hi : Option Int) (m : M) : R D := match x with
  | .str s => bif okLen s.length then .ok (.str (cut s lo hi)) m else .bad
  | .tup xs => .ok (.tup (cut xs lo hi)) m
  | .fl xs => .ok (.fl (cut xs lo hi)) m
  | .ref a => (match m[a]? with
    | some (.lst xs) => .ok (.fl (cut xs lo hi)) m
    | _ => .bad)
  | _ => .bad
/-- the items of a tuple, of a list, by a step -/
def pickT (xs : List D) (lo : Option Int) (k : Int) : List D :=
  (List.range (PySem.Builtin.Slice.slicePlaces (PySem.Builtin.Slice.sliceAdjust lo none k xs.length).1 (PySem.Builtin.Slice.sliceAdjust lo none k xs.length).2 k)).filterMap fun (j : Nat) => xs[((PySem.Builtin.Slice.sliceAdjust lo none k xs.length).1 + (j : Int) * k).toNat]?
def pickF (xs : List D) (lo : Option Int) (k : Int) : List D :=
  (PySem.sliceRange (PySem.sliceBounds lo none (some k) xs.length).1 (PySem.sliceBounds lo none (some k) xs.length).2.1 (PySem.sliceBounds lo none (some k) xs.length).2.2).filterMap fun (j : Nat) => xs[j]?
def stpF (x : D) (lo : Option Int) (k : D) (m : M) : R D := match x, k with
  | .tup xs, .int j => bif !decide (j = 0) && (!decide (j = 1) && okLen (pickT xs lo j).length) then .ok (.tup (pickT xs lo j)) m else .bad
  | .fl xs, .int j => bif !decide (j = 0) && (!decide (j = 1) && okLen (pickF xs lo j).length) then .ok (.fl (pickF xs lo j)) m else .bad
  | _, _ => .bad
def fsF (d : D) : Option (List Nat) := match d with
  | .str s => bif Nat.ble s.length 2000 then some s else none
  | .int i => if 0 ≤ i ∧ i < 1000000 then some (numL i.toNat) else none
  | _ => none
end

/-! ### names -/
def setE (ρ : Env) (i : Nat) (d : D) : Env := ρ.set i (some d)
def wipeE (ρ : Env) : List Nat → Env
  | [] => ρ
  | v :: vs => (wipeE ρ vs).set v none
def setAll : Env → List Nat → List D → Option Env
  | ρ, [], [] => some ρ
  | ρ, i :: is, d :: ds => setAll (setE ρ i d) is ds
  | _, _, _ => none
/-- a target takes a value -/
def tgt (t : IT) (d : D) (ρ : Env) : Option Env := match t, d with
  | .nm i, d => some (setE ρ i d)
  | .tp is, .tup xs => setAll ρ is xs
  | _, _ => none
def IT.vars : IT → List Nat
  | .nm i => [i]
  | .tp is => is

/-! ### what is gone over: its items, and what must stay while it is gone over -/
structure Walked where
  items : List D
  hold : M → Bool
def held (m : M) (d : D) : M → Bool := match d with
  | .ref a => fun m' => (match m[a]?, m'[a]? with
    | some c, some c' => Cell.beq c c'
    | _, _ => false)
  | _ => fun _ => true
def zipD : List D → List D → List D
  | a :: r, b :: t => .tup [a, b] :: zipD r t
  | _, _ => []
def enumD : Nat → List D → List D
  | _, [] => []
  | n, a :: r => .tup [.int n, a] :: enumD (n + 1) r

section
variable (E : IE → Env → M → R D)
def evL : List IE → Env → M → R (List D)
  | [], _, m => .ok [] m
  | e :: r, ρ, m => (E e ρ m).bind fun d m => (evL r ρ m).bind fun ds m => .ok (d :: ds) m
def evA : List IA → Env → M → R (List D)
  | [], _, m => .ok [] m
  | .one e :: r, ρ, m => (E e ρ m).bind fun d m => (evA r ρ m).bind fun ds m => .ok (d :: ds) m
  | .star e :: r, ρ, m => (E e ρ m).bind fun d m => (match itemsOf m d with
    | some xs => (evA r ρ m).bind fun ds m => .ok (xs ++ ds) m
    | none => .bad)
def evO : Option IE → Env → M → R (Option Int)
  | none, _, m => .ok none m
  | some e, ρ, m => (E e ρ m).bind fun d m => (match d with
    | .int i => .ok (some i) m
    | _ => .bad)
def srcF (s : IS) (ρ : Env) (m : M) : R Walked := match s with
  | .val e => (E e ρ m).bind fun d m => (match walkOf m d with
    | some xs => .ok ⟨xs, held m d⟩ m
    | none => .bad)
  | .zip a b => (E a ρ m).bind fun d m => (E b ρ m).bind fun d' m => (match walkOf m d, walkOf m d' with
    | some xs, some ys => .ok ⟨zipD xs ys, fun m' => held m d m' && held m d' m'⟩ m
    | _, _ => .bad)
  | .enum a => (E a ρ m).bind fun d m => (match walkOf m d with
    | some xs => .ok ⟨enumD 0 xs, held m d⟩ m
    | _ => .bad)
  | .range es => (evL E es ρ m).bind fun ds m => (match ds with
    | [.int i] => bif decide (-10000 ≤ i) && decide (i ≤ 10000) then .ok ⟨rangeL 0 i, fun _ => true⟩ m else .bad
    | [.int i, .int j] => bif decide (-10000 ≤ i) && (decide (i ≤ 10000) && decide (j ≤ 10000)) then .ok ⟨rangeL i j, fun _ => true⟩ m else .bad
    | _ => .bad)
/-- a comprehension's turns: f gives an item, or none -/
def lcLoop (f : D → M → R (List D)) (h : M → Bool) : List D → M → R (List D)
  | [], m => .ok [] m
  | x :: r, m => (f x m).bind fun o m => bif h m then (lcLoop f h r m).bind fun ys m => .ok (o ++ ys) m else .bad
end

def dcLoop (f : D → M → R (Option (D × D))) (h : M → Bool) : List D → List (D × D) → M → R (List (D × D))
  | [], acc, m => .ok acc m
  | x :: r, acc, m => (f x m).bind fun o m => bif h m then dcLoop f h r (match o with
    | some (k, v) => dput acc k v
    | none => acc) m else .bad
structure Ev where
  E : IE → Env → M → R D
  T : IE → Env → M → R Bool
  S : ST → Env → M → R (Option D × Env)
def blk (S : ST → Env → M → R (Option D × Env)) : List ST → Env → M → R (Option D × Env)
  | [], ρ, m => .ok (none, ρ) m
  | s :: r, ρ, m => (S s ρ m).bind fun o m => (match o with
    | (some d, ρ) => .ok (some d, ρ) m
    | (none, ρ) => blk S r ρ m)
/-- a for's turns -/
def forLoop (f : D → Env → M → R (Option D × Env)) (h : M → Bool) : List D → Env → M → R (Option D × Env)
  | [], ρ, m => .ok (none, ρ) m
  | x :: r, ρ, m => (f x ρ m).bind fun o m => (match o with
    | (some d, ρ) => .ok (some d, ρ) m
    | (none, ρ) => bif h m then forLoop f h r ρ m else .bad)
def isBl (d : D) (m : M) : R Bool := match d with
  | .bl b => .ok b m
  | _ => .bad
def listOf (keep : Bool) (xs : List D) (m : M) : R D := bif okLen xs.length then (bif keep then .ok (.ref m.length) (m ++ [.lst xs]) else .ok (.fl xs) m) else .bad

section
variable (T : Tab) (cl : Call) (ev : Ev)
/-- one clause of a comprehension -/
def clause (t : IT) (c : Option IE) (x : IE) (ρ : Env) (d : D) (m : M) : R (List D) := match tgt t d ρ with
  | none => .bad
  | some ρ' => match c with
    | none => (closeR m (ev.E x ρ' m)).bind fun y m => .ok [y] m
    | some c => (ev.T c ρ' m).bind fun b m => bif b then (closeR m (ev.E x ρ' m)).bind fun y m => .ok [y] m else .ok [] m
/-- the comprehension is over: its own cell is forgotten, no new cell is left -/
def lcEnd (m : M) (r : R (List D)) : R (List D) := match r with
  | .ok xs m' => bif oldOk m.length m m' && D.unders m.length xs then .ok xs (m'.take m.length) else .bad
  | _ => .bad
def lcRun (f : D → M → R (List D)) (w : Walked) (m : M) : R (List D) := bif Nat.ble w.items.length 4000 && w.hold (m ++ [.hid]) then lcEnd m (lcLoop f w.hold w.items (m ++ [.hid])) else .bad
/-- the inner loop of two -/
def lcIn (f : D → M → R (List D)) (w : Walked) (m : M) : R (List D) := bif Nat.ble w.items.length 4000 && w.hold m then lcLoop f w.hold w.items m else .bad
def lcF (x : IE) (gs : List IG) (ρ : Env) (m : M) : R (List D) := match gs with
  | [.mk t s c] => (srcF ev.E s ρ m).bind fun w m => lcRun (clause ev t c x (wipeE ρ t.vars)) w m
  | [.mk t s none, .mk t2 s2 c2] => (srcF ev.E s ρ m).bind fun w m => lcRun (fun d m => match tgt t d (wipeE ρ (t.vars ++ t2.vars)) with
      | none => .bad
      | some ρ' => (srcF ev.E s2 ρ' m).bind fun w2 m => lcIn (clause ev t2 c2 x (wipeE ρ' t2.vars)) w2 m) w m
  | _ => .bad
def dcEnd (m : M) (r : R (List (D × D))) : R (List (D × D)) := match r with
  | .ok xs m' => bif oldOk m.length m m' && D.underk m.length xs then .ok xs (m'.take m.length) else .bad
  | _ => .bad
def dcRun (f : D → M → R (Option (D × D))) (w : Walked) (m : M) : R (List (D × D)) := bif Nat.ble w.items.length 4000 && w.hold (m ++ [.hid]) then dcEnd m (dcLoop f w.hold w.items [] (m ++ [.hid])) else .bad
def dclause (t : IT) (c : Option IE) (kx vx : IE) (ρ : Env) (d : D) (m : M) : R (Option (D × D)) := match tgt t d ρ with
  | none => .bad
  | some ρ' => match c with
    | none => (ev.E kx ρ' m).bind fun k m => (ev.E vx ρ' m).bind fun v m => bif keyOk k then .ok (some (k, v)) m else .bad
    | some c => (ev.T c ρ' m).bind fun b m => bif b then (ev.E kx ρ' m).bind fun k m => (ev.E vx ρ' m).bind fun v m => bif keyOk k then .ok (some (k, v)) m else .bad else .ok none m
def methR (d : D) (g : Option Nat) (Fr : Env → M → R (List D)) (ρ : Env) (m : M) : R D := match g with
  | some f => (Fr ρ m).bind fun ds m => callF T cl f (d :: ds) m
  | none => .bad
def bmR (b : BM) (d : D) (Fr : Env → M → R (List D)) (ρ : Env) (m : M) : R D := bif bmOk b d m then (Fr ρ m).bind fun ds m => bmF b d ds m else .bad
def varF (ρ : Env) (i : Nat) (m : M) : R D := match ρ[i]? with
  | some (some d) => .ok d m
  | _ => .bad
def globF (i : Nat) (m : M) : R D := match T.globs[i]? with
  | some (_, .c d) => .ok d m
  | some (_, .fn f) => .ok (.fn f) m
  | _ => .bad
def negF (x : D) (m : M) : R D := match x with
  | .int i => .ok (.int (-i)) m
  | x => specF T cl 2 x [] m
def isiR (d : D) (t : ITy) (m : M) : R D := match isiF d t with
  | some b => .ok (.bl b) m
  | none => .bad
def tupF (xs : List D) (m : M) : R D := bif okLen xs.length then .ok (.tup xs) m else .bad
def fsR (d : D) (m : M) : R (List Nat) := match fsF d with
  | some s => .ok s m
  | none => .bad
/-- a constant is what it is -/
def kE (E : IE → Env → M → R D) : IE → Env → M → R D
  | .k d, _, m => .ok d m
  | e, ρ, m => E e ρ m
/-- the parts of an f-string -/
def fsL (E : IE → Env → M → R D) : List IE → Env → M → R (List Nat)
  | [], _, m => .ok [] m
  | e :: r, ρ, m => (E e ρ m).bind fun d m => (fsR d m).bind fun s m => (fsL E r ρ m).bind fun ss m => .ok (s ++ ss) m
def stepE : IE → Env → M → R D
  | .var i, ρ, m => varF ρ i m
  | .k d, _, m => .ok d m
  | .g i, _, m => globF T i m
  | .attr e a, ρ, m => (ev.E e ρ m).bind fun d m => attrF T cl d a m
  | .bin op a b, ρ, m => (ev.E a ρ m).bind fun x m => (ev.E b ρ m).bind fun y m => binF T cl op x y m
  | .cmp op a b, ρ, m => (ev.E a ρ m).bind fun x m => (ev.E b ρ m).bind fun y m => (cmpF T cl op x y m).bind fun z m => .ok (.bl z) m
  | .cmp2 o1 o2 a b c, ρ, m => (ev.E a ρ m).bind fun x m => (ev.E b ρ m).bind fun y m => (cmpF T cl o1 x y m).bind fun z m =>
      bif z then (ev.E c ρ m).bind fun w m => (cmpF T cl o2 y w m).bind fun z m => .ok (.bl z) m else .ok (.bl false) m
  | .and a b, ρ, m => (ev.E a ρ m).bind fun x m => (isBl x m).bind fun z m => bif z then ev.E b ρ m else .ok (.bl false) m
  | .or a b, ρ, m => (ev.E a ρ m).bind fun x m => (isBl x m).bind fun z m => bif z then .ok (.bl true) m else ev.E b ρ m
  | .not a, ρ, m => (ev.E a ρ m).bind fun x m => (isBl x m).bind fun z m => .ok (.bl (!z)) m
  | .neg a, ρ, m => (ev.E a ρ m).bind fun x m => negF T cl x m
  | .inv a, ρ, m => (ev.E a ρ m).bind fun x m => specF T cl 4 x [] m
  | .ite c a b, ρ, m => (ev.T c ρ m).bind fun z m => bif z then ev.E a ρ m else ev.E b ρ m
  | .tup es, ρ, m => (evA ev.E es ρ m).bind fun xs m => tupF xs m
  | .lst keep es, ρ, m => (evA ev.E es ρ m).bind fun xs m => listOf keep xs m
  | .idx e i, ρ, m => (ev.E e ρ m).bind fun x m => (ev.E i ρ m).bind fun y m => idxF x y m
  | .sl e lo hi, ρ, m => (ev.E e ρ m).bind fun x m => (evO ev.E lo ρ m).bind fun a m => (evO ev.E hi ρ m).bind fun b m => slF x a b m
  | .stp e lo k, ρ, m => (ev.E e ρ m).bind fun x m => (evO ev.E lo ρ m).bind fun a m => (ev.E k ρ m).bind fun z m => stpF x a z m
  | .call f es, ρ, m => (evL ev.E es ρ m).bind fun ds m => callF T cl f ds m
  | .make c es, ρ, m => (evL ev.E es ρ m).bind fun ds m => makeF T cl c ds m
  | .bi b es, ρ, m => (evL ev.E es ρ m).bind fun ds m => biF T cl b ds m
  | .bm b e es, ρ, m => (ev.E e ρ m).bind fun d m => bmR b d (evL ev.E es) ρ m
  | .meth e a es, ρ, m => (ev.E e ρ m).bind fun d m => methR T cl d (methG T d a m) (evL ev.E es) ρ m
  | .isi e t, ρ, m => (ev.E e ρ m).bind fun d m => isiR d t m
  | .lc keep x gs, ρ, m => (lcF ev x gs ρ m).bind fun xs m => listOf keep xs m
  | .fs es, ρ, m => (fsL (kE ev.E) es ρ m).bind fun ss m => .ok (.str ss) m
  | .dic _ _ _, _, _ => .bad
  | .dc kx vx (.mk t s c), ρ, m => (srcF ev.E s ρ m).bind fun w m => (dcRun (dclause ev t c kx vx (wipeE ρ t.vars)) w m).bind fun kvs m => .ok (.fd kvs) m
def stepT : IE → Env → M → R Bool
  | .and a b, ρ, m => (ev.T a ρ m).bind fun z m => bif z then ev.T b ρ m else .ok false m
  | .or a b, ρ, m => (ev.T a ρ m).bind fun z m => bif z then .ok true m else ev.T b ρ m
  | .not a, ρ, m => (ev.T a ρ m).bind fun z m => .ok (!z) m
  | e, ρ, m => (stepE T cl ev e ρ m).bind fun d m => isBl d m
def stepS : ST → Env → M → R (Option D × Env)
  | .asg t e, ρ, m => (stepE T cl ev e ρ m).bind fun d m => (match tgt t d ρ with
    | some ρ' => .ok (none, ρ') m
    | none => .bad)
  | .fld o a e, ρ, m => (ev.E e ρ m).bind fun d m => (ev.E o ρ m).bind fun x m => (match x with
    | .ref r => (match m[r]? with
      | some (.ins c fs) => (match (T.clss[c]?).bind fun k => idxN k.slots a with
        | some i => .ok (none, ρ) (m.set r (.ins c (fs.set i (some d))))
        | none => .bad)
      | _ => .bad)
    | _ => .bad)
  | .sub o i e, ρ, m => (ev.E e ρ m).bind fun d m => (ev.E o ρ m).bind fun x m => (ev.E i ρ m).bind fun y m => (match x, y with
    | .ref r, .int i => (match m[r]? with
      | some (.lst xs) => (match placeOf xs.length i with
        | some j => .ok (none, ρ) (m.set r (.lst (xs.set j d)))
        | none => .bad)
      | _ => .bad)
    | _, _ => .bad)
  | .aug i op e, ρ, m => (match ρ[i]? with
    | some (some (.int a)) => (ev.E e ρ m).bind fun d m => (match d with
      | .int b => (binF T cl op (.int a) (.int b) m).bind fun z m => .ok (none, setE ρ i z) m
      | _ => .bad)
    | _ => .bad)
  | .drop e, ρ, m => (ev.E e ρ m).bind fun _ m => .ok (none, ρ) m
  | .ret e, ρ, m => (ev.E e ρ m).bind fun d m => .ok (some d, ρ) m
  | .retN, ρ, m => .ok (some .non, ρ) m
  | .ifs c a b, ρ, m => (ev.T c ρ m).bind fun z m => bif z then blk ev.S a ρ m else blk ev.S b ρ m
  | .for_ t s b, ρ, m => (srcF ev.E s ρ m).bind fun w m => forLoop (fun d ρ m => match tgt t d ρ with
    | some ρ' => blk ev.S b ρ' m
    | none => .bad) w.hold w.items ρ m
  | .while_ c b, ρ, m => (ev.T c ρ m).bind fun z m => bif z then (blk ev.S b ρ m).bind fun o m => (match o with
    | (some d, ρ) => .ok (some d, ρ) m
    | (none, ρ) => ev.S (.while_ c b) ρ m) else .ok (none, ρ) m
  | .pass, ρ, m => .ok (none, ρ) m
  | .never, _, _ => .bad
def step : Ev := ⟨stepE T cl ev, stepT T cl ev, stepS T cl ev⟩
end
def Ev.none : Ev := ⟨fun _ _ _ => .bad, fun _ _ _ => .bad, fun _ _ _ => .bad⟩
def evn (T : Tab) (cl : Call) : Nat → Ev
  | 0 => .none
  | n + 1 => step T cl (evn T cl n)
/-- how deep a body's parts may lie, how often a while may turn -/
def fuel : Nat := 5000
/-- a function's body run on all its arguments, the callees a level below -/
def runF (T : Tab) : Nat → Call
  | 0, _, _, _ => .bad
  | k + 1, i, ds, m => match T.fns[i]? with
    | none => .bad
    | some f => (blk (evn T (runF T k) fuel).S f.body (ds.map some ++ List.replicate (f.names.length - ds.length) none) m).bind fun o m => (match o with
      | (some d, _) => .ok d m
      | (none, _) => .ok .non m)
end Pd

set_option maxHeartbeats 4000000
/-! Pd1: how plain data and the store lie in the abstract heap. -/
namespace Pd
open PySem PySem.Spec PyProof.Rows L2
abbrev SS (l : List Nat) : Str := ⟨l.toArray⟩
/-- the cells' addresses: an object, and its dict (or itself again); whether the cell is hidden -/
abbrev Foot := List (Addr × Addr × Bool)
def inFt (φ : Foot) (p : Addr) : Prop := ∃ (a : Nat) (q : Addr × Addr × Bool), φ[a]? = some q ∧ (q.1 = p ∨ q.2.1 = p)
def hidFt (φ : Foot) (p : Addr) : Prop := ∃ (a : Nat) (q : Addr × Addr × Bool), φ[a]? = some q ∧ q.2.2 = true ∧ (q.1 = p ∨ q.2.1 = p)
def clsA (K : PySem.W.Frag) (T : Tab) (c : Nat) : Addr := match T.clss[c]? with
  | some k => He.ga K (SS k.name)
  | none => 0
def atS (p : List Nat × Option (List Nat)) : Str × Option Str := (SS p.1, p.2.map SS)
/-- where a def stands: a global's, a method, what a property gets by -/
def pAd (K : PySem.W.Frag) (p : Str × Option Str) : Addr := match PySem.W.recIn K (He.fAd K p) "property" with
  | some (.ref f :: _) => f
  | _ => He.fAd K p
def fnA (K : PySem.W.Frag) (T : Tab) (i : Nat) : Addr := match T.fns[i]? with
  | some f => pAd K (atS f.at_)
  | none => 0
/-- a written dict of the text whose keys are texts -/
def WDict (K : PySem.W.Frag) (w : World) (p : Addr) (kvs : List (D × D)) : Prop := strKeys kvs = true ∧ (p == sysModules) = false ∧ ∀ z : List Nat, match dget kvs (.str z) with
  | some (.str y) => KDct K w p (SS z) (.str (SS y))
  | some _ => False
  | none => KMiss K w p (SS z)
/-- a written dict of the text whose keys are tuples of bools -/
def WDictB (K : PySem.W.Frag) (w : World) (p : Addr) (kvs : List (D × D)) : Prop := (kvs.all fun kv => blTup kv.1) = true ∧ (∃ o, K.lookup p = some o ∧ o.cls = .type "dict" ∧ o.dict = none) ∧ ∀ bs : List Bool, match dget kvs (.tup (bs.map .bl)) with
  | some (.str y) => ∀ (X : Cx) (pins : List (Addr × Obj)) (σ : L2.St) (H : Hp) (s : Shared) (a : Addr) (Q : Value → Shared → Prop), X.K = K → X.w = w → X.A.units + 64 < cLine → Inv X pins σ H s → SqT X.K H a (bs.map .bl) →
      (∀ t' t, Inv X pins σ H { s with toks := t' } → Q (.str (SS y) t) { s with toks := t' }) → wpAny (model X.prog X.w) X.A (getItem (.ref p) (.ref a)) Q X.xe s
  | some _ => False
  | none => True

/-- a tuple: tracked and no cell, or of the text -/
def TupAt (K : PySem.W.Frag) (H : Hp) (φ : Foot) (p : Addr) (vs : List V) : Prop :=
  (¬ inFt φ p ∧ Rd H p (.tup vs)) ∨ ∃ (o : Obj) (its : Array Value) (n : Nat), K.lookup p = some o ∧ o.cls = .type "tuple" ∧ o.data = .seq its n ∧ its.size ≤ sizeLine ∧ Vals vs its.toList
def LstAt (K : PySem.W.Frag) (H : Hp) (φ : Foot) (p : Addr) (vs : List V) : Prop := ¬ inFt φ p ∧ H p = some (.lst vs)
def ScrAt (K : PySem.W.Frag) (H : Hp) (φ : Foot) (p : Addr) (vs : List V) : Prop :=
  (¬ inFt φ p ∧ Rd H p (.lst vs)) ∨ ∃ (o : Obj) (its : Array Value) (n : Nat), K.lookup p = some o ∧ o.cls = .type "list" ∧ o.dict = none ∧ o.data = .seq its n ∧ its.size ≤ sizeLine ∧ Vals vs its.toList
theorem ScrAt.sq {K : PySem.W.Frag} {H : Hp} {φ : Foot} {p : Addr} {vs : List V} (h : ScrAt K H φ p vs) : SqL K H p vs := h.imp (·.2) id
theorem TupAt.sq {K : PySem.W.Frag} {H : Hp} {φ : Foot} {p : Addr} {vs : List V} (h : TupAt K H φ p vs) : SqT K H p vs := h.imp (·.2) id
theorem LstAt.sq {K : PySem.W.Frag} {H : Hp} {φ : Foot} {p : Addr} {vs : List V} (h : LstAt K H φ p vs) : SqL K H p vs := .inl (.inl h.2)

mutual
inductive Rel (K : PySem.W.Frag) (w : World) (T : Tab) (H : Hp) (φ : Foot) : D → V → Prop
  | non : Rel K w T H φ .non .non
  | bl (b : Bool) : Rel K w T H φ (.bl b) (.bl b)
  | int (i : Int) : Rel K w T H φ (.int i) (.int i)
  | str (x : List Nat) : Rel K w T H φ (.str x) (.str (SS x))
  | tup {p : Addr} {xs : List D} {vs : List V} : TupAt K H φ p vs → Rels K w T H φ xs vs → Rel K w T H φ (.tup xs) (.ref p)
  | fl {p : Addr} {xs : List D} {vs : List V} : LstAt K H φ p vs → Rels K w T H φ xs vs → Rel K w T H φ (.fl xs) (.ref p)
  | scr {p : Addr} {xs : List D} {vs : List V} : ScrAt K H φ p vs → Rels K w T H φ xs vs → Rel K w T H φ (.scr xs) (.ref p)
  | fdK {p : Addr} {kvs : List (D × D)} {ks : List (Key × V)} : ¬ inFt φ p → H p = some (.dK ks) → RelK K w T H φ kvs ks → Rel K w T H φ (.fd kvs) (.ref p)
  | wdS {p : Addr} {kvs : List (D × D)} : WDict K w p kvs → Rel K w T H φ (.wd kvs) (.ref p)
  | wdB {p : Addr} {kvs : List (D × D)} : WDictB K w p kvs → Rel K w T H φ (.wd kvs) (.ref p)
  | obj {p dx : Addr} {c : Nat} {k : Cls} {fs : List D} {vs : List V} {sl : List (Option V)} : ¬ inFt φ p → ¬ inFt φ dx → T.clss[c]? = some k → k.kind = 0 → H p = some (SlX.SlO p (clsA K T c) dx sl) → H dx = some (.xd []) → Rels K w T H φ fs vs → fs.length = k.slots.length →
      (∀ (i : Nat) v, vs[i]? = some v → sl[i]? = some (some v)) → Rel K w T H φ (.obj c fs) (.ref p)
  | ref {a : Nat} {p q : Addr} {b : Bool} : φ[a]? = some (p, q, b) → Rel K w T H φ (.ref a) (.ref p)
  | fn (i : Nat) : Rel K w T H φ (.fn i) (.ref (fnA K T i))
inductive Rels (K : PySem.W.Frag) (w : World) (T : Tab) (H : Hp) (φ : Foot) : List D → List V → Prop
  | nil : Rels K w T H φ [] []
  | cons {d : D} {ds : List D} {v : V} {vs : List V} : Rel K w T H φ d v → Rels K w T H φ ds vs → Rels K w T H φ (d :: ds) (v :: vs)
inductive RelK (K : PySem.W.Frag) (w : World) (T : Tab) (H : Hp) (φ : Foot) : List (D × D) → List (Key × V) → Prop
  | nil : RelK K w T H φ [] []
  | consS {x : List Nat} {d : D} {ds : List (D × D)} {v : V} {vs : List (Key × V)} : Rel K w T H φ d v → RelK K w T H φ ds vs → RelK K w T H φ ((.str x, d) :: ds) ((Sum.inr (SS x), v) :: vs)
  | consI {x : Int} {d : D} {ds : List (D × D)} {v : V} {vs : List (Key × V)} : Rel K w T H φ d v → RelK K w T H φ ds vs → RelK K w T H φ ((.int x, d) :: ds) ((Sum.inl x, v) :: vs)
end

/-- later: every known object but the cells is as it was, no known object has become a cell -/
structure Ext (H : Hp) (φ : Foot) (H' : Hp) (φ' : Foot) : Prop where
  pre : ∃ ψ, φ' = φ ++ ψ
  keep : ∀ p o, H p = some o → ¬ inFt φ p → H' p = some o
  hid : ∀ p o, H p = some o → hidFt φ p → H' p = some o
  new : ∀ p, inFt φ' p → inFt φ p ∨ H p = none
section
variable {K : PySem.W.Frag} {w : World} {T : Tab} {H H' H1 H2 : Hp} {φ φ' φ1 φ2 : Foot} {d : D} {ds : List D} {v : V} {vs : List V} {p : Addr}
theorem Ext.refl (H : Hp) (φ : Foot) : Ext H φ H φ := ⟨⟨[], by simp⟩, fun _ _ h _ => h, fun _ _ h _ => h, fun _ h => .inl h⟩
theorem Ext.nin (e : Ext H φ H' φ') {o : HO} (h : H p = some o) (n : ¬ inFt φ p) : ¬ inFt φ' p := fun q => by
  rcases e.new p q with q | q
  · exact n q
  · rw [h] at q; cases q
theorem Ext.at (e : Ext H φ H' φ') {a : Nat} {q : Addr × Addr × Bool} (h : φ[a]? = some q) : φ'[a]? = some q := by
  obtain ⟨ψ, rfl⟩ := e.pre
  rw [List.getElem?_append_left (by
    have := List.getElem?_eq_some_iff.mp h
    exact this.1)]
  exact h
theorem Ext.trans (a : Ext H φ H1 φ1) (b : Ext H1 φ1 H2 φ2) : Ext H φ H2 φ2 where
  pre := by
    obtain ⟨x, ex⟩ := a.pre
    obtain ⟨y, ey⟩ := b.pre
    exact ⟨x ++ y, by rw [ey, ex, List.append_assoc]⟩
  keep := fun p o h n => b.keep p o (a.keep p o h n) (a.nin h n)
  hid := fun p o h ⟨i, q, h1, h2⟩ => b.hid p o (a.hid p o h ⟨i, q, h1, h2⟩) ⟨i, q, a.at h1, h2⟩
  new := fun p q => by
    rcases b.new p q with q | q
    · exact a.new p q
    · by_cases n : inFt φ p
      · exact .inl n
      · refine .inr ?_
        cases h : H p with
        | none => rfl
        | some o => rw [a.keep p o h n] at q; cases q
/-- what is told of objects that are no cells stays -/
structure Mo (H : Hp) (φ : Foot) (H' : Hp) (φ' : Foot) : Prop where
  at_ : ∀ (a : Nat) p q b, φ[a]? = some (p, q, b) → ∃ q' b', φ'[a]? = some (p, q', b')
  keep : ∀ p o, H p = some o → ¬ inFt φ p → H' p = some o ∧ ¬ inFt φ' p
theorem Ext.mo (e : Ext H φ H' φ') : Mo H φ H' φ' := ⟨fun a p q b h => ⟨q, b, e.at h⟩, fun p o h n => ⟨e.keep p o h n, e.nin h n⟩⟩
theorem Mo.rd (e : Mo H φ H' φ') {u : HO} (n : ¬ inFt φ p) (h : Rd H p u) : Rd H' p u ∧ ¬ inFt φ' p := by
  rcases h with h | ⟨o, h⟩
  · exact ⟨.inl (e.keep p _ h n).1, (e.keep p _ h n).2⟩
  · exact ⟨.inr ⟨o, (e.keep p _ h n).1⟩, (e.keep p _ h n).2⟩
theorem Mo.tup (e : Mo H φ H' φ') (h : TupAt K H φ p vs) : TupAt K H' φ' p vs := by
  rcases h with ⟨n, h⟩ | h
  · obtain ⟨a, b⟩ := e.rd n h
    exact .inl ⟨b, a⟩
  · exact .inr h
theorem Mo.lst (e : Mo H φ H' φ') (h : LstAt K H φ p vs) : LstAt K H' φ' p vs := ⟨(e.keep _ _ h.2 h.1).2, (e.keep _ _ h.2 h.1).1⟩
theorem Mo.scr (e : Mo H φ H' φ') (h : ScrAt K H φ p vs) : ScrAt K H' φ' p vs := by
  rcases h with ⟨n, h⟩ | h
  · obtain ⟨a, b⟩ := e.rd n h
    exact .inl ⟨b, a⟩
  · exact .inr h
mutual
theorem Rel.mo (e : Mo H φ H' φ') : ∀ (d : D) (v : V), Rel K w T H φ d v → Rel K w T H' φ' d v
  | .non, _, h => by cases h; exact .non
  | .bl _, _, h => by cases h; exact .bl _
  | .int _, _, h => by cases h; exact .int _
  | .str _, _, h => by cases h; exact .str _
  | .tup xs, _, h => by
    cases h with
    | tup h1 h2 => exact .tup (e.tup h1) (Rels.mo e xs _ h2)
  | .fl xs, _, h => by
    cases h with
    | fl h1 h2 => exact .fl (e.lst h1) (Rels.mo e xs _ h2)
  | .scr xs, _, h => by
    cases h with
    | scr h1 h2 => exact .scr (e.scr h1) (Rels.mo e xs _ h2)
  | .fd kvs, _, h => by
    cases h with
    | fdK h1 h2 h3 => exact .fdK (e.keep _ _ h2 h1).2 (e.keep _ _ h2 h1).1 (RelK.mo e kvs _ h3)
  | .wd kvs, _, h => by
    cases h with
    | wdS h1 => exact .wdS h1
    | wdB h1 => exact .wdB h1
  | .obj c fs, _, h => by
    cases h with
    | obj h1 h2 h3 h4 h5 h6 h7 h8 h9 => exact .obj (e.keep _ _ h5 h1).2 (e.keep _ _ h6 h2).2 h3 h4 (e.keep _ _ h5 h1).1 (e.keep _ _ h6 h2).1 (Rels.mo e fs _ h7) h8 h9
  | .ref a, _, h => by
    cases h with
    | ref h1 =>
      obtain ⟨q', b', h2⟩ := e.at_ _ _ _ _ h1
      exact .ref h2
  | .fn i, _, h => by cases h; exact .fn _
  | .exn _ _, _, h => by cases h
theorem Rels.mo (e : Mo H φ H' φ') : ∀ (ds : List D) (vs : List V), Rels K w T H φ ds vs → Rels K w T H' φ' ds vs
  | [], _, h => by cases h; exact .nil
  | d :: ds, _, h => by
    cases h with
    | cons h1 h2 => exact .cons (Rel.mo e d _ h1) (Rels.mo e ds _ h2)
theorem RelK.mo (e : Mo H φ H' φ') : ∀ (ds : List (D × D)) (vs : List (Key × V)), RelK K w T H φ ds vs → RelK K w T H' φ' ds vs
  | [], _, h => by cases h; exact .nil
  | (k, d) :: ds, _, h => by
    cases h with
    | consS h1 h2 => exact .consS (Rel.mo e d _ h1) (RelK.mo e ds _ h2)
    | consI h1 h2 => exact .consI (Rel.mo e d _ h1) (RelK.mo e ds _ h2)
end
theorem Rel.mono (e : Ext H φ H' φ') (d : D) (v : V) (h : Rel K w T H φ d v) : Rel K w T H' φ' d v := h.mo e.mo d v
theorem Rels.mono (e : Ext H φ H' φ') (ds : List D) (vs : List V) (h : Rels K w T H φ ds vs) : Rels K w T H' φ' ds vs := h.mo e.mo ds vs
theorem RelK.mono (e : Ext H φ H' φ') (ds : List (D × D)) (vs : List (Key × V)) (h : RelK K w T H φ ds vs) : RelK K w T H' φ' ds vs := h.mo e.mo ds vs
theorem Rels.length : ∀ {ds : List D} {vs : List V}, Rels K w T H φ ds vs → ds.length = vs.length
  | [], _, h => by cases h; rfl
  | d :: ds, _, h => by
    cases h with
    | cons h1 h2 => simp [Rels.length h2]
theorem Rels.get : ∀ {ds : List D} {vs : List V} {i : Nat} {d : D}, Rels K w T H φ ds vs → ds[i]? = some d → ∃ v, vs[i]? = some v ∧ Rel K w T H φ d v
  | [], _, _, _, h, q => by simp at q
  | x :: ds, _, 0, d, h, q => by
    cases h with
    | cons h1 h2 =>
      simp at q
      subst q
      exact ⟨_, rfl, h1⟩
  | x :: ds, _, i + 1, d, h, q => by
    cases h with
    | cons h1 h2 =>
      obtain ⟨v, a, b⟩ := Rels.get h2 (by simpa using q)
      exact ⟨v, by simpa using a, b⟩
theorem Rels.append : ∀ {ds es : List D} {vs ws : List V}, Rels K w T H φ ds vs → Rels K w T H φ es ws → Rels K w T H φ (ds ++ es) (vs ++ ws)
  | [], _, _, _, h, q => by cases h; exact q
  | x :: ds, _, _, _, h, q => by
    cases h with
    | cons h1 h2 => exact .cons h1 (Rels.append h2 q)
theorem Rels.one (h : Rel K w T H φ d v) : Rels K w T H φ [d] [v] := .cons h .nil
theorem Rels.drop : ∀ {ds : List D} {vs : List V} (n : Nat), Rels K w T H φ ds vs → Rels K w T H φ (ds.drop n) (vs.drop n)
  | _, _, 0, h => h
  | [], _, n + 1, h => by cases h; exact .nil
  | x :: ds, _, n + 1, h => by
    cases h with
    | cons h1 h2 => exact Rels.drop n h2
theorem Rels.take : ∀ {ds : List D} {vs : List V} (n : Nat), Rels K w T H φ ds vs → Rels K w T H φ (ds.take n) (vs.take n)
  | _, _, 0, h => by simpa using Rels.nil
  | [], _, n + 1, h => by cases h; exact .nil
  | x :: ds, _, n + 1, h => by
    cases h with
    | cons h1 h2 => exact .cons h1 (Rels.take n h2)
theorem Rels.set {v' : V} {d' : D} : ∀ {ds : List D} {vs : List V} (n : Nat), Rels K w T H φ ds vs → Rel K w T H φ d' v' → Rels K w T H φ (ds.set n d') (vs.set n v')
  | [], _, n, h, q => by cases h; exact .nil
  | x :: ds, _, 0, h, q => by
    cases h with
    | cons h1 h2 => exact .cons q h2
  | x :: ds, _, n + 1, h, q => by
    cases h with
    | cons h1 h2 => exact .cons h1 (Rels.set n h2 q)
theorem Rels.rev : ∀ {ds : List D} {vs : List V}, Rels K w T H φ ds vs → Rels K w T H φ ds.reverse vs.reverse
  | [], _, h => by cases h; exact .nil
  | x :: ds, _, h => by
    cases h with
    | cons h1 h2 => simpa using Rels.append (Rels.rev h2) (Rels.one h1)

/-! ### names, cells, the store -/
def EnvR (K : PySem.W.Frag) (w : World) (T : Tab) (H : Hp) (φ : Foot) (ρ : Env) (σ : L2.St) : Prop := ∀ (i : Nat) (d : D), ρ[i]? = some (some d) → ∃ v, σ[i]? = some (some v) ∧ Rel K w T H φ d v
theorem EnvR.mono (e : Ext H φ H' φ') {ρ : Env} {σ : L2.St} (h : EnvR K w T H φ ρ σ) : EnvR K w T H' φ' ρ σ := fun i d q => by
  obtain ⟨v, a, b⟩ := h i d q
  exact ⟨v, a, b.mono e⟩
/-- an instance with slots that may still change: fresh, or stored into -/
def SltC (H : Hp) (p C q : Addr) (sl : List (Option V)) : Prop := (H p = some (.ins C q []) ∧ H q = some (.own p) ∧ sl = []) ∨ (H p = some (SlX.SlO p C q sl) ∧ H q = some (.xd []))
theorem SltC.slt {C q : Addr} {sl : List (Option V)} (h : SltC H p C q sl) : SlX.Slt H p C q sl := h.imp (fun h => ⟨h.1, h.2.2⟩) id
def CellR (K : PySem.W.Frag) (w : World) (T : Tab) (H : Hp) (φ : Foot) : Cell → Addr × Addr × Bool → Prop
  | .hid, (p, q, b) => b = true ∧ (∃ o, H p = some o) ∧ ∃ o, H q = some o
  | .lst xs, (p, q, b) => b = false ∧ q = p ∧ ∃ vs, H p = some (.lst vs) ∧ Rels K w T H φ xs vs
  | .dic kvs, (p, q, b) => b = false ∧ q = p ∧ ∃ ks, H p = some (.dK ks) ∧ RelK K w T H φ kvs ks
  | .ins c fs, (p, q, b) => b = false ∧ q ≠ p ∧ (∃ k, T.clss[c]? = some k ∧ k.kind = 0 ∧ fs.length = k.slots.length) ∧ ∃ sl, SltC H p (clsA K T c) q sl ∧ ∀ (i : Nat) d, fs[i]? = some (some d) → ∃ v, sl[i]? = some (some v) ∧ Rel K w T H φ d v
structure Sim (K : PySem.W.Frag) (w : World) (T : Tab) (H : Hp) (φ : Foot) (m : M) : Prop where
  len : φ.length = m.length
  cell : ∀ (a : Nat) c q, m[a]? = some c → φ[a]? = some q → CellR K w T H φ c q
  sep : ∀ (a b : Nat) q r, φ[a]? = some q → φ[b]? = some r → a ≠ b → q.1 ≠ r.1 ∧ q.1 ≠ r.2.1 ∧ q.2.1 ≠ r.1 ∧ q.2.1 ≠ r.2.1
theorem CellR.known {c : Cell} {q : Addr × Addr × Bool} (h : CellR K w T H φ c q) : (∃ o, H q.1 = some o) ∧ ∃ o, H q.2.1 = some o := by
  obtain ⟨p, q, b⟩ := q
  cases c with
  | hid => exact h.2
  | lst xs =>
    obtain ⟨_, rfl, vs, h, _⟩ := h
    exact ⟨⟨_, h⟩, _, h⟩
  | dic xs =>
    obtain ⟨_, rfl, vs, h, _⟩ := h
    exact ⟨⟨_, h⟩, _, h⟩
  | ins c fs =>
    obtain ⟨_, ne, _, sl, h, _⟩ := h
    rcases h with ⟨h1, h2, _⟩ | ⟨h1, h2⟩
    · exact ⟨⟨_, h1⟩, _, h2⟩
    · exact ⟨⟨_, h1⟩, _, h2⟩
theorem CellR.mo {c : Cell} {q : Addr × Addr × Bool} (h : CellR K w T H φ c q) (e : Mo H φ H' φ') (h1 : H' q.1 = H q.1) (h2 : H' q.2.1 = H q.2.1) : CellR K w T H' φ' c q := by
  obtain ⟨p, q, b⟩ := q
  have h1 : H' p = H p := h1
  have h2 : H' q = H q := h2
  cases c with
  | hid =>
    obtain ⟨hb, k1, k2⟩ := h
    exact ⟨hb, by rw [h1]; exact k1, by rw [h2]; exact k2⟩
  | lst xs =>
    obtain ⟨hb, rfl, vs, h, r⟩ := h
    exact ⟨hb, rfl, vs, h1.trans h, r.mo e⟩
  | dic xs =>
    obtain ⟨hb, rfl, vs, h, r⟩ := h
    exact ⟨hb, rfl, vs, h1.trans h, r.mo e⟩
  | ins c fs =>
    obtain ⟨hb, ne, k, sl, h, r⟩ := h
    refine ⟨hb, ne, k, sl, ?_, fun i d q => ?_⟩
    · rcases h with ⟨a, b, c⟩ | ⟨a, b⟩
      · exact .inl ⟨h1.trans a, h2.trans b, c⟩
      · exact .inr ⟨h1.trans a, h2.trans b⟩
    · obtain ⟨v, a, b⟩ := r i d q
      exact ⟨v, a, b.mo e⟩
theorem CellR.mono {c : Cell} {q : Addr × Addr × Bool} (h : CellR K w T H φ c q) (e : Ext H φ H' φ') (h1 : H' q.1 = H q.1) (h2 : H' q.2.1 = H q.2.1) : CellR K w T H' φ' c q := h.mo e.mo h1 h2
theorem Sim.at {m : M} (S : Sim K w T H φ m) {a : Nat} {c : Cell} (h : m[a]? = some c) : ∃ q, φ[a]? = some q ∧ CellR K w T H φ c q := by
  have hl : a < φ.length := by rw [S.len]; exact (List.getElem?_eq_some_iff.mp h).1
  exact ⟨φ[a], by simp [hl], S.cell a c _ h (by simp [hl])⟩
theorem Sim.there {m : M} (S : Sim K w T H φ m) {a : Nat} {q : Addr × Addr × Bool} (h : φ[a]? = some q) : ∃ c, m[a]? = some c ∧ CellR K w T H φ c q := by
  have hl : a < m.length := by rw [← S.len]; exact (List.getElem?_eq_some_iff.mp h).1
  exact ⟨m[a], by simp [hl], S.cell a _ q (by simp [hl]) h⟩
theorem Sim.known {m : M} (S : Sim K w T H φ m) (h : inFt φ p) : ∃ o, H p = some o := by
  obtain ⟨a, q, h, r⟩ := h
  obtain ⟨c, _, C⟩ := S.there h
  rcases r with rfl | rfl
  · exact C.known.1
  · exact C.known.2
/-- more objects, the old ones as they are -/
theorem Ext.more (h : ∀ p o, H p = some o → H' p = some o) : Ext H φ H' φ := ⟨⟨[], by simp⟩, fun p o q _ => h p o q, fun p o q _ => h p o q, fun _ q => .inl q⟩
theorem Sim.more {m : M} (S : Sim K w T H φ m) (h : ∀ p o, H p = some o → H' p = some o) : Sim K w T H' φ m where
  len := S.len
  cell := fun a c q h1 h2 => by
    have C := S.cell a c q h1 h2
    obtain ⟨⟨o1, k1⟩, o2, k2⟩ := C.known
    exact C.mono (Ext.more h) (by rw [k1]; exact h _ _ k1) (by rw [k2]; exact h _ _ k2)
  sep := S.sep
theorem upd_more {o : HO} (h : H p = none) : ∀ q u, H q = some u → upd H p o q = some u := fun q u e => by
  rw [upd_ne (ne_of_none e h)]
  exact e
theorem Ext.upd {o : HO} (h : H p = none) : Ext H φ (upd H p o) φ := Ext.more (upd_more h)
theorem Sim.upd {m : M} {o : HO} (S : Sim K w T H φ m) (h : H p = none) : Sim K w T (upd H p o) φ m := S.more (upd_more h)
theorem Sim.nin {m : M} (S : Sim K w T H φ m) (h : H p = none) : ¬ inFt φ p := fun q => by
  obtain ⟨o, e⟩ := S.known q
  rw [h] at e
  cases e
/-- one cell is written: only its own addresses change -/
theorem Sim.write {m : M} {a : Nat} {q : Addr × Addr × Bool} {c : Cell} (S : Sim K w T H φ m) (ha : φ[a]? = some q) (hb : q.2.2 = false) (h : ∀ p, p ≠ q.1 → p ≠ q.2.1 → H' p = H p) (C : CellR K w T H' φ c q) :
    Ext H φ H' φ ∧ Sim K w T H' φ (m.set a c) := by
  have e : Ext H φ H' φ := ⟨⟨[], by simp⟩, fun p o k n => by
    rw [h p (fun z => n ⟨a, q, ha, .inl z.symm⟩) fun z => n ⟨a, q, ha, .inr z.symm⟩]
    exact k, fun p o k ⟨b, r, h1, h2, h3⟩ => by
    have hab : a ≠ b := fun z => by
      subst z
      rw [ha] at h1
      cases h1
      rw [hb] at h2
      cases h2
    obtain ⟨s1, s2, s3, s4⟩ := S.sep a b q r ha h1 hab
    rw [h p (fun z => by rcases h3 with h3 | h3
                         · exact s1 (z.symm.trans h3.symm)
                         · exact s2 (z.symm.trans h3.symm)) fun z => by rcases h3 with h3 | h3
                                                                        · exact s3 (z.symm.trans h3.symm)
                                                                        · exact s4 (z.symm.trans h3.symm)]
    exact k, fun _ k => .inl k⟩
  refine ⟨e, ⟨by rw [List.length_set]; exact S.len, fun b c' r h1 h2 => ?_, S.sep⟩⟩
  by_cases hb : a = b
  · subst hb
    have hl : a < m.length := by rw [← S.len]; exact (List.getElem?_eq_some_iff.mp ha).1
    rw [List.getElem?_set_self hl] at h1
    cases h1
    rw [ha] at h2
    cases h2
    exact C
  · rw [List.getElem?_set_ne hb] at h1
    obtain ⟨s1, s2, s3, s4⟩ := S.sep a b q r ha h2 hb
    exact (S.cell b c' r h1 h2).mono e (h _ (Ne.symm s1) (Ne.symm s3)) (h _ (Ne.symm s2) (Ne.symm s4))
/-- a new cell -/
theorem Sim.alloc {m : M} {q : Addr × Addr × Bool} {c : Cell} (S : Sim K w T H φ m) (n1 : H q.1 = none) (n2 : H q.2.1 = none) (h : ∀ p o, H p = some o → H' p = some o) (C : CellR K w T H' (φ ++ [q]) c q) :
    Ext H φ H' (φ ++ [q]) ∧ Sim K w T H' (φ ++ [q]) (m ++ [c]) := by
  have nin : ∀ p, inFt (φ ++ [q]) p → inFt φ p ∨ p = q.1 ∨ p = q.2.1 := fun p ⟨a, r, k, z⟩ => by
    by_cases hl : a < φ.length
    · rw [List.getElem?_append_left hl] at k
      exact .inl ⟨a, r, k, z⟩
    · rw [List.getElem?_append_right (by omega)] at k
      cases e : a - φ.length with
      | zero =>
        rw [e] at k
        simp at k
        subst k
        exact .inr (z.imp Eq.symm Eq.symm)
      | succ j =>
        rw [e] at k
        simp at k
  have e : Ext H φ H' (φ ++ [q]) := ⟨⟨[q], rfl⟩, fun p o k _ => h p o k, fun p o k _ => h p o k, fun p k => by
    rcases nin p k with k | rfl | rfl
    · exact .inl k
    · exact .inr n1
    · exact .inr n2⟩
  have kn : ∀ (b : Nat) r, φ[b]? = some r → r.1 ≠ q.1 ∧ r.1 ≠ q.2.1 ∧ r.2.1 ≠ q.1 ∧ r.2.1 ≠ q.2.1 := fun b r k => by
    obtain ⟨c', _, C'⟩ := S.there k
    obtain ⟨⟨o1, k1⟩, o2, k2⟩ := C'.known
    exact ⟨ne_of_none k1 n1, ne_of_none k1 n2, ne_of_none k2 n1, ne_of_none k2 n2⟩
  have pt : ∀ (b : Nat) r, (φ ++ [q])[b]? = some r → φ[b]? = some r ∨ (b = φ.length ∧ r = q) := fun b r k => by
    by_cases hl : b < φ.length
    · rw [List.getElem?_append_left hl] at k
      exact .inl k
    · rw [List.getElem?_append_right (by omega)] at k
      cases z : b - φ.length with
      | zero =>
        rw [z] at k
        simp at k
        exact .inr ⟨by omega, k.symm⟩
      | succ j =>
        rw [z] at k
        simp at k
  refine ⟨e, ⟨by simp [S.len], fun b c' r h1 h2 => ?_, fun b b' r r' h1 h2 ne => ?_⟩⟩
  · rcases pt b r h2 with k | ⟨rfl, rfl⟩
    · have hl : b < m.length := by rw [← S.len]; exact (List.getElem?_eq_some_iff.mp k).1
      rw [List.getElem?_append_left hl] at h1
      have C' := S.cell b c' r h1 k
      obtain ⟨⟨o1, k1⟩, o2, k2⟩ := C'.known
      exact C'.mono e (by rw [k1]; exact h _ _ k1) (by rw [k2]; exact h _ _ k2)
    · rw [S.len, List.getElem?_append_right (Nat.le_refl _)] at h1
      simp at h1
      subst h1
      exact C
  · rcases pt b r h1 with k | ⟨rfl, rfl⟩
    · rcases pt b' r' h2 with k' | ⟨rfl, rfl⟩
      · exact S.sep b b' r r' k k' ne
      · exact kn b r k
    · rcases pt b' r' h2 with k' | ⟨rfl, rfl⟩
      · obtain ⟨a1, a2, a3, a4⟩ := kn b' r' k'
        exact ⟨Ne.symm a1, Ne.symm a3, Ne.symm a2, Ne.symm a4⟩
      · exact absurd rfl ne

/-! ### what is wanted behind a part -/
/-- an exception of the class c: its own dict holds its value -/
def ExcR (K : PySem.W.Frag) (w : World) (T : Tab) (H : Hp) (φ : Foot) (d : D) (od : Option Addr) : Prop := ∃ q v, od = some q ∧ ¬ inFt φ q ∧ H q = some (.xd [(SS [118, 97, 108, 117, 101], v)]) ∧ Rel K w T H φ d v
def Post (K : PySem.W.Frag) (w : World) (T : Tab) (W : WX) (σ : L2.St) (H : Hp) (φ : Foot) {α : Type} (r : R α) (Q : α → M → Hp → Foot → Prop) : Prop := match r with
  | .ok d m => ∀ H' φ', Ext H φ H' φ' → Sim K w T H' φ' m → Q d m H' φ'
  | .exc c d m => ∀ od H' φ', Ext H φ H' φ' → Sim K w T H' φ' m → ExcR K w T H' φ' d od → W (.ref (clsA K T c)) od σ H'
  | .bad => False
theorem Post.mono {α : Type} {W : WX} {σ : L2.St} {r : R α} {Q Q' : α → M → Hp → Foot → Prop} (h : Post K w T W σ H φ r Q) (e : Ext H φ H' φ') (hq : ∀ d m H1 φ1, Ext H' φ' H1 φ1 → Sim K w T H1 φ1 m → Q d m H1 φ1 → Q' d m H1 φ1) :
    Post K w T W σ H' φ' r Q' := by
  cases r with
  | ok d m => exact fun H1 φ1 e1 s1 => hq _ _ _ _ e1 s1 (h H1 φ1 (e.trans e1) s1)
  | exc c d m => exact fun od H1 φ1 e1 s1 x1 => h od H1 φ1 (e.trans e1) s1 x1
  | bad => exact h
theorem Post.bind {α β : Type} {W : WX} {σ : L2.St} {r : R α} {f : α → M → R β} {Q : β → M → Hp → Foot → Prop} (h : Post K w T W σ H φ (r.bind f) Q) :
    Post K w T W σ H φ r fun a m H1 φ1 => Post K w T W σ H1 φ1 (f a m) Q := by
  cases r with
  | ok d m => exact fun H1 φ1 e1 s1 => Post.mono (r := f d m) h e1 fun _ _ _ _ _ _ z => z
  | exc c d m => exact h
  | bad => exact h
end
/-- an expression, by what the evaluator makes of it -/
def tE (K : PySem.W.Frag) (w : World) (T : Tab) (W : WX) (F : Env → M → R D) : TE := fun σ H Q => ∃ ρ m φ, EnvR K w T H φ ρ σ ∧ Sim K w T H φ m ∧ Post K w T W σ H φ (F ρ m) fun d m H' φ' => ∀ v, Rel K w T H' φ' d v → Q v H'
def tT (K : PySem.W.Frag) (w : World) (T : Tab) (W : WX) (F : Env → M → R Bool) : TT := fun σ H Q => ∃ ρ m φ, EnvR K w T H φ ρ σ ∧ Sim K w T H φ m ∧ Post K w T W σ H φ (F ρ m) fun b m H' φ' => Q b H'
def tA (K : PySem.W.Frag) (w : World) (T : Tab) (W : WX) (F : Env → M → R (List D)) : TA := fun σ H Q => ∃ ρ m φ, EnvR K w T H φ ρ σ ∧ Sim K w T H φ m ∧ Post K w T W σ H φ (F ρ m) fun ds m H' φ' => ∀ vs, Rels K w T H' φ' ds vs → Q vs H'
theorem PE_imp {X : Cx} {e : Expr} {t t' : TE} (h : PE X e t) (i : ∀ σ H Q, t' σ H Q → t σ H Q) : PE X e t' := ⟨fun pins s σ H Q I q => h.run pins s σ H Q I (i σ H Q q)⟩
theorem PT_imp {X : Cx} {e : Expr} {t t' : TT} (h : PT X e t) (i : ∀ σ H Q, t' σ H Q → t σ H Q) : PT X e t' := ⟨fun pins s σ H Q I q => h.run pins s σ H Q I (i σ H Q q)⟩
theorem PA_imp {X : Cx} {es : List Expr} {t t' : TA} (h : PA X es t) (i : ∀ σ H Q, t' σ H Q → t σ H Q) : PA X es t' := ⟨fun p pins s σ H Q I q => h.run p pins s σ H Q I (i σ H Q q)⟩
section
variable {K : PySem.W.Frag} {w : World} {T : Tab} {W : WX} {σ : L2.St} {H : Hp} {φ : Foot} {ρ : Env} {m : M}
/-- the first part of a row of parts -/
theorem first {F : Env → M → R D} {β : Type} {G : D → M → R β} {Q : β → M → Hp → Foot → Prop} {Qv : VK} (hρ : EnvR K w T H φ ρ σ) (S : Sim K w T H φ m) (h : Post K w T W σ H φ ((F ρ m).bind G) Q)
    (k : ∀ d m1 v H1 φ1, Ext H φ H1 φ1 → Sim K w T H1 φ1 m1 → EnvR K w T H1 φ1 ρ σ → Rel K w T H1 φ1 d v → Post K w T W σ H1 φ1 (G d m1) Q → Qv v H1) : tE K w T W F σ H Qv :=
  ⟨ρ, m, φ, hρ, S, h.bind.mono (Ext.refl _ _) fun d m1 H1 φ1 e1 s1 q v r => k d m1 v H1 φ1 e1 s1 (hρ.mono e1) r q⟩
theorem firstT {F : Env → M → R Bool} {β : Type} {G : Bool → M → R β} {Q : β → M → Hp → Foot → Prop} {Qv : Bool → Hp → Prop} (hρ : EnvR K w T H φ ρ σ) (S : Sim K w T H φ m) (h : Post K w T W σ H φ ((F ρ m).bind G) Q)
    (k : ∀ d m1 H1 φ1, Ext H φ H1 φ1 → Sim K w T H1 φ1 m1 → EnvR K w T H1 φ1 ρ σ → Post K w T W σ H1 φ1 (G d m1) Q → Qv d H1) : tT K w T W F σ H Qv :=
  ⟨ρ, m, φ, hρ, S, h.bind.mono (Ext.refl _ _) fun d m1 H1 φ1 e1 s1 q => k d m1 H1 φ1 e1 s1 (hρ.mono e1) q⟩
theorem firstA {F : Env → M → R (List D)} {β : Type} {G : List D → M → R β} {Q : β → M → Hp → Foot → Prop} {Qv : List V → Hp → Prop} (hρ : EnvR K w T H φ ρ σ) (S : Sim K w T H φ m) (h : Post K w T W σ H φ ((F ρ m).bind G) Q)
    (k : ∀ d m1 v H1 φ1, Ext H φ H1 φ1 → Sim K w T H1 φ1 m1 → EnvR K w T H1 φ1 ρ σ → Rels K w T H1 φ1 d v → Post K w T W σ H1 φ1 (G d m1) Q → Qv v H1) : tA K w T W F σ H Qv :=
  ⟨ρ, m, φ, hρ, S, h.bind.mono (Ext.refl _ _) fun d m1 H1 φ1 e1 s1 q v r => k d m1 v H1 φ1 e1 s1 (hρ.mono e1) r q⟩
/-- the last part -/
theorem last {F : Env → M → R D} {Q : D → M → Hp → Foot → Prop} {Qv : VK} (hρ : EnvR K w T H φ ρ σ) (S : Sim K w T H φ m) (h : Post K w T W σ H φ (F ρ m) Q)
    (k : ∀ d m1 v H1 φ1, Ext H φ H1 φ1 → Sim K w T H1 φ1 m1 → EnvR K w T H1 φ1 ρ σ → Rel K w T H1 φ1 d v → Q d m1 H1 φ1 → Qv v H1) : tE K w T W F σ H Qv :=
  ⟨ρ, m, φ, hρ, S, h.mono (Ext.refl _ _) fun d m1 H1 φ1 e1 s1 q v r => k d m1 v H1 φ1 e1 s1 (hρ.mono e1) r q⟩
theorem lastT {F : Env → M → R Bool} {Q : Bool → M → Hp → Foot → Prop} {Qv : Bool → Hp → Prop} (hρ : EnvR K w T H φ ρ σ) (S : Sim K w T H φ m) (h : Post K w T W σ H φ (F ρ m) Q)
    (k : ∀ d m1 H1 φ1, Ext H φ H1 φ1 → Sim K w T H1 φ1 m1 → EnvR K w T H1 φ1 ρ σ → Q d m1 H1 φ1 → Qv d H1) : tT K w T W F σ H Qv :=
  ⟨ρ, m, φ, hρ, S, h.mono (Ext.refl _ _) fun d m1 H1 φ1 e1 s1 q => k d m1 H1 φ1 e1 s1 (hρ.mono e1) q⟩
/-- a value is there -/
theorem Post.here {α : Type} {d : α} {Q : α → M → Hp → Foot → Prop} (S : Sim K w T H φ m) (h : Post K w T W σ H φ (.ok d m) Q) : Q d m H φ := h H φ (Ext.refl _ _) S
end
end Pd

set_option maxHeartbeats 4000000
/-! Pd2: names, constants, truth, displays, operators. -/
namespace Pd
open PySem PySem.Spec PyProof.Rows L2

/-- what a callee promises: what the evaluator makes of it -/
def spF (K : PySem.W.Frag) (w : World) (T : Tab) (cl : Call) (i : Nat) : Sp := fun vs H Q E => ∃ ds l m φ f, T.fns[i]? = some f ∧ Rels K w T H φ ds vs ∧ Sim K w T H φ m ∧ defaults f ds = some l ∧
  Post K w T (fun c d _ H => E c d H) [] H φ (cl i l m) fun d m' H' φ' => ∀ v, Rel K w T H' φ' d v → Q v H'
/-- the built-in names that may be called -/
def bltns : List Str := ["len", "int", "bool", "tuple", "list", "all", "any", "abs", "min", "max", "sum", "str", "range", "isinstance", "zip", "enumerate", "set", "sorted", "dict", "repr"]
/-- the specials by number -/
def spName : Nat → Str
  | 0 => "__eq__"
  | 1 => "__len__"
  | 2 => "__neg__"
  | 3 => "__mul__"
  | _ => "__invert__"
/-- the attribute with a number -/
def attrS (T : Tab) (a : Nat) : Str := match T.attrs[a]? with
  | some x => SS x
  | none => SS []
/-- a class with slots -/
structure ClsOk (K : PySem.W.Frag) (T : Tab) (c : Nat) (k : Cls) : Prop where
  sc : SlX.SCls K (clsA K T c)
  si : SlX.SIsi K (clsA K T c)
  kp : PySem.W.keepIn K (.ref (clsA K T c)) = true
  mks : PySem.W.makesIn K (clsA K T c) = true
  nf : ∀ c' k', T.clss[c']? = some k' → k'.kind = 0 → PySem.W.notFirst K (clsA K T c) (.ref (clsA K T c')) = true
  sf : PySem.W.selfFirst K (clsA K T c) = true
  ne : PySem.W.findIn K (.ref (clsA K T c)) "__ne__" = some (some (.builtin "object.__ne__"))
  init : ∀ i, k.init = some i → PySem.W.findIn K (.ref (clsA K T c)) "__init__" = some (some (.ref (fnA K T i))) ∧ PySem.W.isFn K (.ref (fnA K T i)) = true
  slot : ∀ a i, idxN k.slots a = some i → ∃ p, SlX.Slot1 K (clsA K T c) (attrS T a) p i
  meth : ∀ a f, lookM k.meths a = some (0, f) → Meth K (clsA K T c) (attrS T a) (fnA K T f)
  prop : ∀ a f, idxN k.slots a = none → lookM k.meths a = some (1, f) → ∃ p, PySem.W.findIn K (.ref (clsA K T c)) (attrS T a) = some (some (.ref p)) ∧ PySem.W.specialIn K (.ref p) "__get__" = some (some (.builtin "property.__get__")) ∧
    PySem.W.takesIn K (.ref p) = some true ∧ ∃ rest, PySem.W.recIn K p "property" = some (.ref (fnA K T f) :: rest)
  sp : ∀ s f, s < 5 → lookN k.sp s = some f → PySem.W.findIn K (.ref (clsA K T c)) (spName s) = some (some (.ref (fnA K T f))) ∧ PySem.W.isFn K (.ref (fnA K T f)) = true
/-- what isinstance says about a class and the built-in types, and among classes -/
structure IsiOk (K : PySem.W.Frag) (T : Tab) (c : Nat) : Prop where
  ty : ∀ n ∈ (["int", "bool", "str", "tuple"] : List String), PySem.W.kitOne K (.ref (clsA K T c)) (.type n) = some false
  of : ∀ n ∈ (["NoneType", "bool", "int", "str", "tuple", "list", "dict"] : List String), PySem.W.kitOne K (.type n) (.ref (clsA K T c)) = some false
  cls : ∀ c' k', T.clss[c']? = some k' → k'.kind = 0 → PySem.W.kitOne K (.ref (clsA K T c')) (.ref (clsA K T c)) = some (Nat.beq c c')
structure TabOk (K : PySem.W.Frag) (w : World) (mg : Str → Option Value) (T : Tab) : Prop where
  gc : ∀ (i : Nat) x d, T.globs[i]? = some (x, .c d) → ∃ u v, mg (SS x) = some u ∧ RelV v u ∧ ∀ H φ, Rel K w T H φ d v
  gf : ∀ (i : Nat) x f, T.globs[i]? = some (x, .fn f) → mg (SS x) = some (.ref (fnA K T f))
  gk : ∀ (i : Nat) x c, T.globs[i]? = some (x, .cls c) → mg (SS x) = some (.ref (clsA K T c))
  free : ∀ x ∈ bltns, mg x = none
  cls : ∀ (c : Nat) k, T.clss[c]? = some k → k.kind = 0 → ClsOk K T c k
  isi : ∀ (c : Nat) k, T.clss[c]? = some k → k.kind = 0 → IsiOk K T c
  kp : ∀ (i : Nat) f, T.fns[i]? = some f → PySem.W.keepIn K (.ref (fnA K T i)) = true
structure Fx (X : Cx) (T : Tab) (W : WX) (lv : Nat) (cl : Call) : Prop where
  nd : X.N.Nodup
  calm : X.calm = true
  room : Room (lv + 9) X.A
  tk : Takes X W
  fn : ∀ i, FnR X.prog X.w X.K X.mg X.base (CX X.prog X.w) lv (fnA X.K T i) (spF X.K X.w T cl i)
  tb : TabOk X.K X.w X.mg T
/-- a wish that does not ask for the slots, or no wish at all -/
def Flat (W : WX) : Prop := ∀ c d σ σ' H, W c d σ H → W c d σ' H

section
variable {X : Cx} {T : Tab} {W : WX} {lv : Nat} {cl : Call} {pos : Pos} {e a b c : Expr} {Fa Fb Fc : Env → M → R D} {Ta Tb : Env → M → R Bool}

theorem c_var {i : Nat} {x : Str} (hN : X.N[i]? = some x) (hv : Vis X.env.scope x) (hd : (x == ("__debug__" : Str)) = false) (hcd : (x == ("__classdict__" : Str)) = false) : PE X (.Name x pos) (tE X.K X.w T W fun ρ m => varF ρ i m) := by
  refine PE_imp (pe_var (i := i) hN hv hd hcd) fun σ H Q ⟨ρ, m, φ, hρ, S, h⟩ => ?_
  dsimp only [varF] at h
  cases e : ρ[i]? with
  | none =>
    rw [e] at h
    exact h.elim
  | some o => cases o with
    | none =>
      rw [e] at h
      exact h.elim
    | some d =>
      rw [e] at h
      obtain ⟨v, h1, h2⟩ := hρ i d e
      exact ⟨v, h1, Post.here S h v h2⟩
theorem c_k {d : D} {v : V} (he : PE X e (tC v)) (hr : ∀ H φ, Rel X.K X.w T H φ d v) : PE X e (tE X.K X.w T W fun _ m => .ok d m) :=
  PE_imp he fun σ H Q ⟨ρ, m, φ, hρ, S, h⟩ => Post.here S h v (hr _ _)
theorem c_int {i : Int} {j} : PE X (.Constant (.int i) j pos) (tE X.K X.w T W fun _ m => .ok (.int i) m) := c_k pe_int fun _ _ => .int i
theorem c_bl {i : Bool} {j} : PE X (.Constant (.bool i) j pos) (tE X.K X.w T W fun _ m => .ok (.bl i) m) := c_k pe_bl fun _ _ => .bl i
theorem c_non {j} : PE X (.Constant .none j pos) (tE X.K X.w T W fun _ m => .ok .non m) := c_k pe_non fun _ _ => .non
theorem c_str {x : Str} {j} : PE X (.Constant (.str x) j pos) (tE X.K X.w T W fun _ m => .ok (.str x.cps.toList) m) := c_k pe_str fun _ _ => by
  have h := Rel.str (K := X.K) (w := X.w) (T := T) (H := ‹_›) (φ := ‹_›) x.cps.toList
  exact h
theorem c_glob {x : Str} {i : Nat} {y : List Nat} {g : GV} (F : Fx X T W lv cl) (hg : Gl X x) (hx : x = SS y) (h : T.globs[i]? = some (y, g)) (hd : (x == ("__debug__" : Str)) = false) : PE X (.Name x pos) (tE X.K X.w T W fun _ m => globF T i m) := by
  unfold globF
  rw [h]
  cases g with
  | c d =>
    obtain ⟨u, v, h1, h2, h3⟩ := F.tb.gc i y d h
    exact c_k (pe_glob hg (by rw [hx]; exact h1) h2 hd) h3
  | fn f => exact c_k (v := .ref (fnA X.K T f)) (pe_glob hg (by rw [hx]; exact F.tb.gf i y f h) rfl hd) fun _ _ => .fn f
  | cls c => exact ⟨fun _ _ _ _ _ _ ⟨_, _, _, _, _, h⟩ => h.elim⟩
  | free => exact ⟨fun _ _ _ _ _ _ ⟨_, _, _, _, _, h⟩ => h.elim⟩

/-! ### truth -/
/-- an expression's value, a bool, as a test -/
theorem t_val (ha : PE X a (tE X.K X.w T W Fa)) (he : ∀ whole, isTrue a X.env whole = (do let v ← whole; standAt a.pos; holding [v] (truthy v))) : PT X a (tT X.K X.w T W fun ρ m => (Fa ρ m).bind isBl) := by
  refine PT_imp (pt_val ha he) fun σ H Q ⟨ρ, m, φ, hρ, S, h⟩ => ?_
  refine first hρ S h fun d m1 v H1 φ1 e1 S1 _ r q => ?_
  cases d with
  | bl b =>
    cases r
    exact ⟨b, rfl, Post.here S1 q⟩
  | _ => exact q.elim
theorem t_not (ha : PT X a (tT X.K X.w T W Ta)) : PT X (.UnaryOp .Not a pos) (tT X.K X.w T W fun ρ m => (Ta ρ m).bind fun z m => .ok (!z) m) := by
  refine PT_imp (pt_not ha) fun σ H Q ⟨ρ, m, φ, hρ, S, h⟩ => ?_
  exact firstT hρ S h fun d m1 H1 φ1 e1 S1 _ q => Post.here S1 q
theorem c_not (ha : PE X a (tE X.K X.w T W Fa)) : PE X (.UnaryOp .Not a pos) (tE X.K X.w T W fun ρ m => (Fa ρ m).bind fun x m => (isBl x m).bind fun z m => .ok (.bl (!z)) m) := by
  refine PE_imp (pe_not ha) fun σ H Q ⟨ρ, m, φ, hρ, S, h⟩ => ?_
  refine first hρ S h fun d m1 v H1 φ1 e1 S1 _ r q => ?_
  cases d with
  | bl b =>
    cases r
    exact ⟨b, rfl, Post.here (d := D.bl (!b)) S1 q _ (.bl _)⟩
  | _ => exact q.elim
theorem c_and {r : List Expr} (ha : PE X a (tE X.K X.w T W Fa)) (hb : PE X (.BoolOp .And (b :: r) pos) (tE X.K X.w T W Fb)) : PE X (.BoolOp .And (a :: b :: r) pos) (tE X.K X.w T W fun ρ m => (Fa ρ m).bind fun x m => (isBl x m).bind fun z m => bif z then Fb ρ m else .ok (.bl false) m) := by
  refine PE_imp (pe_and ha hb) fun σ H Q ⟨ρ, m, φ, hρ, S, h⟩ => ?_
  refine first hρ S h fun d m1 v H1 φ1 e1 S1 ρ1 r q => ?_
  cases d with
  | bl z =>
    cases r
    refine ⟨z, rfl, ?_⟩
    cases z with
    | true =>
      rw [if_pos rfl]
      exact last ρ1 S1 q fun d m2 v H2 φ2 _ _ _ r z => z v r
    | false =>
      rw [if_neg Bool.false_ne_true]
      exact Post.here (d := D.bl false) S1 q _ (.bl _)
  | _ => exact q.elim
theorem c_or {r : List Expr} (ha : PE X a (tE X.K X.w T W Fa)) (hb : PE X (.BoolOp .Or (b :: r) pos) (tE X.K X.w T W Fb)) : PE X (.BoolOp .Or (a :: b :: r) pos) (tE X.K X.w T W fun ρ m => (Fa ρ m).bind fun x m => (isBl x m).bind fun z m => bif z then .ok (.bl true) m else Fb ρ m) := by
  refine PE_imp (pe_or ha hb) fun σ H Q ⟨ρ, m, φ, hρ, S, h⟩ => ?_
  refine first hρ S h fun d m1 v H1 φ1 e1 S1 ρ1 r q => ?_
  cases d with
  | bl z =>
    cases r
    refine ⟨z, rfl, ?_⟩
    cases z with
    | true =>
      rw [if_pos rfl]
      exact Post.here (d := D.bl true) S1 q _ (.bl _)
    | false =>
      rw [if_neg Bool.false_ne_true]
      exact last ρ1 S1 q fun d m2 v H2 φ2 _ _ _ r z => z v r
  | _ => exact q.elim
theorem t_and {r : List Expr} (ha : PT X a (tT X.K X.w T W Ta)) (hb : PW X (.BoolOp .And (b :: r) pos) (tT X.K X.w T W Tb)) : PW X (.BoolOp .And (a :: b :: r) pos) (tT X.K X.w T W fun ρ m => (Ta ρ m).bind fun z m => bif z then Tb ρ m else .ok false m) := by
  refine ⟨fun whole pins s σ H Q I ⟨ρ, m, φ, hρ, S, h⟩ => (pw_and ha hb).run whole pins s σ H Q I ?_⟩
  refine firstT hρ S h fun z m1 H1 φ1 e1 S1 ρ1 q => ?_
  cases z with
  | true =>
    rw [if_pos rfl]
    exact lastT ρ1 S1 q fun d m2 H2 φ2 _ _ _ z => z
  | false =>
    rw [if_neg Bool.false_ne_true]
    exact Post.here S1 q
theorem t_or {r : List Expr} (ha : PT X a (tT X.K X.w T W Ta)) (hb : PW X (.BoolOp .Or (b :: r) pos) (tT X.K X.w T W Tb)) : PW X (.BoolOp .Or (a :: b :: r) pos) (tT X.K X.w T W fun ρ m => (Ta ρ m).bind fun z m => bif z then .ok true m else Tb ρ m) := by
  refine ⟨fun whole pins s σ H Q I ⟨ρ, m, φ, hρ, S, h⟩ => (pw_or ha hb).run whole pins s σ H Q I ?_⟩
  refine firstT hρ S h fun z m1 H1 φ1 e1 S1 ρ1 q => ?_
  cases z with
  | true =>
    rw [if_pos rfl]
    exact Post.here S1 q
  | false =>
    rw [if_neg Bool.false_ne_true]
    exact lastT ρ1 S1 q fun d m2 H2 φ2 _ _ _ z => z
theorem c_ite (hc : PT X c (tT X.K X.w T W Ta)) (ha : PE X a (tE X.K X.w T W Fa)) (hb : PE X b (tE X.K X.w T W Fb)) : PE X (.IfExp c a b pos) (tE X.K X.w T W fun ρ m => (Ta ρ m).bind fun z m => bif z then Fa ρ m else Fb ρ m) := by
  refine PE_imp (pe_ifExp hc ha hb) fun σ H Q ⟨ρ, m, φ, hρ, S, h⟩ => ?_
  refine firstT hρ S h fun z m1 H1 φ1 e1 S1 r1 q => ?_
  cases z with
  | true =>
    rw [if_pos rfl]
    exact last r1 S1 q fun d m2 v H2 φ2 _ _ _ r z => z v r
  | false =>
    rw [if_neg Bool.false_ne_true]
    exact last r1 S1 q fun d m2 v H2 φ2 _ _ _ r z => z v r

/-! ### argument lists, tuples, lists -/
theorem a_nil : PA X [] (tA X.K X.w T W fun _ m => .ok [] m) := PA_imp pa_nil fun σ H Q ⟨ρ, m, φ, hρ, S, h⟩ => Post.here S h _ .nil
theorem a_cons {es : List Expr} {Fr : Env → M → R (List D)} (ha : PE X a (tE X.K X.w T W Fa)) (hr : PA X es (tA X.K X.w T W Fr)) (hs : starEach (a :: es) X.env = (false, eval a X.env) :: starEach es X.env) :
    PA X (a :: es) (tA X.K X.w T W fun ρ m => (Fa ρ m).bind fun d m => (Fr ρ m).bind fun ds m => .ok (d :: ds) m) := by
  refine PA_imp (pa_cons ha hr hs) fun σ H Q ⟨ρ, m, φ, hρ, S, h⟩ => ?_
  refine first hρ S h fun d m1 v H1 φ1 e1 S1 ρ1 r q => ?_
  exact firstA ρ1 S1 q fun ds m2 vs H2 φ2 e2 S2 ρ2 r2 q2 => Post.here (d := d :: ds) S2 q2 _ (.cons (r.mono e2) r2)
theorem line_size {n : Nat} (h : okLen n = true) : n ≤ sizeLine := Nat.le_trans (Nat.le_of_ble_eq_true h) (by decide)
theorem line_lt {n : Nat} (h : okLen n = true) : n < sizeLine := Nat.lt_of_le_of_lt (Nat.le_of_ble_eq_true h) (by decide)
theorem Rels.size {K : PySem.W.Frag} {w : World} {H : Hp} {φ : Foot} {ds : List D} {vs : List V} (r : Rels K w T H φ ds vs) (h : okLen ds.length = true) : vs.length ≤ sizeLine := by
  rw [← r.length]
  exact line_size h
/-- a new tuple, a new list that nobody changes, a new cell -/
theorem new_tup {K : PySem.W.Frag} {w : World} {σ : L2.St} {H : Hp} {φ : Foot} {m : M} {ds : List D} {vs : List V} {Q : VK} (S : Sim K w T H φ m) (r : Rels K w T H φ ds vs) (h : Post K w T W σ H φ (.ok (.tup ds) m) fun d m H' φ' => ∀ v, Rel K w T H' φ' d v → Q v H')
    (p : Addr) (hp : H p = none) : Q (.ref p) (upd H p (.tup vs)) :=
  h _ φ (Ext.upd hp) (S.upd hp) _ (.tup (.inl ⟨S.nin hp, .inl upd_same⟩) (r.mono (Ext.upd hp)))
theorem new_fl {K : PySem.W.Frag} {w : World} {σ : L2.St} {H : Hp} {φ : Foot} {m : M} {ds : List D} {vs : List V} {Q : VK} (S : Sim K w T H φ m) (r : Rels K w T H φ ds vs) (h : Post K w T W σ H φ (.ok (.fl ds) m) fun d m H' φ' => ∀ v, Rel K w T H' φ' d v → Q v H')
    (p : Addr) (hp : H p = none) : Q (.ref p) (upd H p (.lst vs)) :=
  h _ φ (Ext.upd hp) (S.upd hp) _ (.fl ⟨S.nin hp, upd_same⟩ (r.mono (Ext.upd hp)))
theorem new_cell {K : PySem.W.Frag} {w : World} {σ : L2.St} {H : Hp} {φ : Foot} {m : M} {ds : List D} {vs : List V} {Q : VK} (S : Sim K w T H φ m) (r : Rels K w T H φ ds vs) (h : Post K w T W σ H φ (.ok (.ref m.length) (m ++ [.lst ds])) fun d m H' φ' => ∀ v, Rel K w T H' φ' d v → Q v H')
    (p : Addr) (hp : H p = none) : Q (.ref p) (upd H p (.lst vs)) := by
  have e0 : Ext H φ (upd H p (.lst vs)) (φ ++ [(p, p, false)]) := (S.alloc (c := .lst []) (q := (p, p, false)) (H' := upd H p (.lst [])) hp hp (upd_more hp) ⟨rfl, rfl, [], upd_same, .nil⟩).1 |> fun e => ⟨e.pre, fun q o h1 h2 => upd_more hp q o h1, fun q o h1 h2 => upd_more hp q o h1, e.new⟩
  obtain ⟨e, S'⟩ := S.alloc (c := .lst ds) (q := (p, p, false)) (H' := upd H p (.lst vs)) hp hp (upd_more hp) ⟨rfl, rfl, vs, upd_same, r.mono e0⟩
  exact h _ _ e S' _ (.ref (q := p) (b := false) (by rw [← S.len]; simp))
theorem c_tup {es : List Expr} {k} {Fr : Env → M → R (List D)} (ha : PA X es (tA X.K X.w T W Fr)) : PE X (.Tuple es k pos) (tE X.K X.w T W fun ρ m => (Fr ρ m).bind fun xs m => tupF xs m) := by
  refine PE_imp (pe_tup ha) fun σ H Q ⟨ρ, m, φ, hρ, S, h⟩ => ?_
  refine firstA hρ S h fun ds m1 vs H1 φ1 e1 S1 ρ1 r q => ?_
  unfold tupF at q
  cases z : okLen ds.length with
  | true =>
    rw [z] at q
    exact ⟨r.size z, fun p hp => new_tup S1 r q p hp⟩
  | false =>
    rw [z] at q
    exact q.elim
theorem c_lst {es : List Expr} {keep : Bool} {Fr : Env → M → R (List D)} (ha : PA X es (tA X.K X.w T W Fr)) : PE X (.List es pos) (tE X.K X.w T W fun ρ m => (Fr ρ m).bind fun xs m => listOf keep xs m) := by
  refine PE_imp (pe_lst ha) fun σ H Q ⟨ρ, m, φ, hρ, S, h⟩ => ?_
  refine firstA hρ S h fun ds m1 vs H1 φ1 e1 S1 ρ1 r q => ?_
  unfold listOf at q
  cases z : okLen ds.length with
  | true =>
    rw [z] at q
    refine ⟨r.size z, fun p hp => ?_⟩
    cases keep with
    | true => exact new_cell S1 r q p hp
    | false => exact new_fl S1 r q p hp
  | false =>
    rw [z] at q
    exact q.elim
end
end Pd

set_option maxHeartbeats 4000000
/-! Pd3: calls of the text's defs. -/
namespace Pd
open PySem PySem.Spec PyProof.Rows L2

/-! ### equal, under, restricted -/
mutual
theorem D.beq_eq : ∀ (a b : D), D.beq a b = true → a = b
  | .non, b, h => by cases b <;> first | rfl | cases h
  | .bl x, b, h => by
    cases b with
    | bl y => exact congrArg D.bl (eq_of_beq h)
    | _ => cases h
  | .int x, b, h => by
    cases b with
    | int y => exact congrArg D.int (eq_of_beq h)
    | _ => cases h
  | .str x, b, h => by
    cases b with
    | str y => exact congrArg D.str (eq_of_beq h)
    | _ => cases h
  | .tup x, b, h => by
    cases b with
    | tup y => exact congrArg D.tup (D.beqs_eq x y h)
    | _ => cases h
  | .fl x, b, h => by
    cases b with
    | fl y => exact congrArg D.fl (D.beqs_eq x y h)
    | _ => cases h
  | .scr x, b, h => by
    cases b with
    | scr y => exact congrArg D.scr (D.beqs_eq x y h)
    | _ => cases h
  | .fd x, b, h => by
    cases b with
    | fd y => exact congrArg D.fd (D.beqk_eq x y h)
    | _ => cases h
  | .wd x, b, h => by
    cases b with
    | wd y => exact congrArg D.wd (D.beqk_eq x y h)
    | _ => cases h
  | .obj c x, b, h => by
    cases b with
    | obj d y =>
      have h := Bool.and_eq_true_iff.mp h
      rw [eq_of_beq h.1, D.beqs_eq x y h.2]
    | _ => cases h
  | .ref x, b, h => by
    cases b with
    | ref y => exact congrArg D.ref (eq_of_beq h)
    | _ => cases h
  | .fn x, b, h => by
    cases b with
    | fn y => exact congrArg D.fn (eq_of_beq h)
    | _ => cases h
  | .exn c x, b, h => by
    cases b with
    | exn d y =>
      have h := Bool.and_eq_true_iff.mp h
      rw [eq_of_beq h.1, D.beq_eq x y h.2]
    | _ => cases h
theorem D.beqs_eq : ∀ (a b : List D), D.beqs a b = true → a = b
  | [], b, h => by cases b <;> first | rfl | cases h
  | x :: xs, b, h => by
    cases b with
    | nil => cases h
    | cons y ys =>
      have h := Bool.and_eq_true_iff.mp h
      rw [D.beq_eq x y h.1, D.beqs_eq xs ys h.2]
theorem D.beqk_eq : ∀ (a b : List (D × D)), D.beqk a b = true → a = b
  | [], b, h => by cases b <;> first | rfl | cases h
  | (x, x') :: xs, b, h => by
    cases b with
    | nil => cases h
    | cons y ys =>
      obtain ⟨y, y'⟩ := y
      have h := Bool.and_eq_true_iff.mp h
      have h2 := Bool.and_eq_true_iff.mp h.2
      rw [D.beq_eq x y h.1, D.beq_eq x' y' h2.1, D.beqk_eq xs ys h2.2]
end
theorem optBeq_eq : ∀ (a b : List (Option D)), optBeq a b = true → a = b
  | [], b, h => by cases b <;> first | rfl | cases h
  | none :: xs, b, h => by
    cases b with
    | nil => cases h
    | cons y ys => cases y with
      | none => rw [optBeq_eq xs ys h]
      | some _ => cases h
  | some x :: xs, b, h => by
    cases b with
    | nil => cases h
    | cons y ys => cases y with
      | none => cases h
      | some y =>
        have h := Bool.and_eq_true_iff.mp h
        rw [D.beq_eq x y h.1, optBeq_eq xs ys h.2]
theorem Cell.beq_eq : ∀ (a b : Cell), Cell.beq a b = true → a = b
  | .lst x, b, h => by
    cases b with
    | lst y => exact congrArg Cell.lst (D.beqs_eq x y h)
    | _ => cases h
  | .dic x, b, h => by
    cases b with
    | dic y => exact congrArg Cell.dic (D.beqk_eq x y h)
    | _ => cases h
  | .ins c x, b, h => by
    cases b with
    | ins d y =>
      have h := Bool.and_eq_true_iff.mp h
      rw [eq_of_beq h.1, optBeq_eq x y h.2]
    | _ => cases h
  | .hid, b, h => by cases b <;> first | rfl | cases h
section
variable {K : PySem.W.Frag} {w : World} {T : Tab} {H H' : Hp} {φ φ' ψ : Foot} {n : Nat}
theorem at_lt {a : Nat} {q : Addr × Addr × Bool} (h : φ[a]? = some q) : a < φ.length := (List.getElem?_eq_some_iff.mp h).1
mutual
theorem Rel.under (hn : φ.length ≤ n) : ∀ (d : D) (v : V), Rel K w T H φ d v → D.under n d = true
  | .non, _, h => rfl
  | .bl _, _, h => rfl
  | .int _, _, h => rfl
  | .str _, _, h => rfl
  | .fn _, _, h => rfl
  | .tup xs, _, h => by
    cases h with
    | tup _ h2 => exact Rels.under hn xs _ h2
  | .fl xs, _, h => by
    cases h with
    | fl _ h2 => exact Rels.under hn xs _ h2
  | .scr xs, _, h => by
    cases h with
    | scr _ h2 => exact Rels.under hn xs _ h2
  | .fd kvs, _, h => by
    cases h with
    | fdK h1 h2 h3 => exact RelK.under hn kvs _ h3
  | .wd kvs, _, h => rfl
  | .obj c fs, _, h => by
    cases h with
    | obj h1 h2 h3 h4 h5 h6 h7 h8 h9 => exact Rels.under hn fs _ h7
  | .ref a, _, h => by
    cases h with
    | ref h1 => exact Nat.ble_eq_true_of_le (Nat.lt_of_lt_of_le (at_lt h1) hn)
  | .exn _ _, _, h => by cases h
theorem Rels.under (hn : φ.length ≤ n) : ∀ (ds : List D) (vs : List V), Rels K w T H φ ds vs → D.unders n ds = true
  | [], _, h => rfl
  | d :: ds, _, h => by
    cases h with
    | cons h1 h2 => exact Bool.and_eq_true_iff.mpr ⟨Rel.under hn d _ h1, Rels.under hn ds _ h2⟩
theorem RelK.under (hn : φ.length ≤ n) : ∀ (ds : List (D × D)) (vs : List (Key × V)), RelK K w T H φ ds vs → D.underk n ds = true
  | [], _, h => rfl
  | (k, d) :: ds, _, h => by
    cases h with
    | consS h1 h2 => exact Bool.and_eq_true_iff.mpr ⟨rfl, Bool.and_eq_true_iff.mpr ⟨Rel.under hn d _ h1, RelK.under hn ds _ h2⟩⟩
    | consI h1 h2 => exact Bool.and_eq_true_iff.mpr ⟨rfl, Bool.and_eq_true_iff.mpr ⟨Rel.under hn d _ h1, RelK.under hn ds _ h2⟩⟩
end
theorem nin_pre (h : ¬ inFt (φ ++ ψ) p') : ¬ inFt φ p' := fun ⟨a, q, h1, h2⟩ => h ⟨a, q, by rw [List.getElem?_append_left (at_lt h1)]; exact h1, h2⟩
mutual
theorem Rel.restrict : ∀ (d : D) (v : V), Rel K w T H (φ ++ ψ) d v → D.under φ.length d = true → Rel K w T H φ d v
  | .non, _, h, _ => by cases h; exact .non
  | .bl _, _, h, _ => by cases h; exact .bl _
  | .int _, _, h, _ => by cases h; exact .int _
  | .str _, _, h, _ => by cases h; exact .str _
  | .fn _, _, h, _ => by cases h; exact .fn _
  | .tup xs, _, h, u => by
    cases h with
    | tup h1 h2 => exact .tup (h1.imp (fun z => ⟨nin_pre z.1, z.2⟩) id) (Rels.restrict xs _ h2 u)
  | .fl xs, _, h, u => by
    cases h with
    | fl h1 h2 => exact .fl ⟨nin_pre h1.1, h1.2⟩ (Rels.restrict xs _ h2 u)
  | .scr xs, _, h, u => by
    cases h with
    | scr h1 h2 => exact .scr (h1.imp (fun z => ⟨nin_pre z.1, z.2⟩) id) (Rels.restrict xs _ h2 u)
  | .fd kvs, _, h, u => by
    cases h with
    | fdK h1 h2 h3 => exact .fdK (nin_pre h1) h2 (RelK.restrict kvs _ h3 u)
  | .wd kvs, _, h, u => by
    cases h with
    | wdS h1 => exact .wdS h1
    | wdB h1 => exact .wdB h1
  | .obj c fs, _, h, u => by
    cases h with
    | obj h1 h2 h3 h4 h5 h6 h7 h8 h9 => exact .obj (nin_pre h1) (nin_pre h2) h3 h4 h5 h6 (Rels.restrict fs _ h7 u) h8 h9
  | .ref a, _, h, u => by
    cases h with
    | ref h1 => 
      have hl : a < φ.length := Nat.le_of_ble_eq_true u
      rw [List.getElem?_append_left hl] at h1
      exact .ref h1
  | .exn _ _, _, h, _ => by cases h
theorem Rels.restrict : ∀ (ds : List D) (vs : List V), Rels K w T H (φ ++ ψ) ds vs → D.unders φ.length ds = true → Rels K w T H φ ds vs
  | [], _, h, _ => by cases h; exact .nil
  | d :: ds, _, h, u => by
    cases h with
    | cons h1 h2 =>
      have u := Bool.and_eq_true_iff.mp u
      exact .cons (Rel.restrict d _ h1 u.1) (Rels.restrict ds _ h2 u.2)
theorem RelK.restrict : ∀ (ds : List (D × D)) (vs : List (Key × V)), RelK K w T H (φ ++ ψ) ds vs → D.underk φ.length ds = true → RelK K w T H φ ds vs
  | [], _, h, _ => by cases h; exact .nil
  | (k, d) :: ds, _, h, u => by
    have u1 : (D.under φ.length k && (D.under φ.length d && D.underk φ.length ds)) = true := u
    have u2 := Bool.and_eq_true_iff.mp (Bool.and_eq_true_iff.mp u1).2
    have ud := u2.1
    have ur := u2.2
    cases h with
    | consS h1 h2 => exact .consS (Rel.restrict d _ h1 ud) (RelK.restrict ds _ h2 ur)
    | consI h1 h2 => exact .consI (Rel.restrict d _ h1 ud) (RelK.restrict ds _ h2 ur)
end
theorem optUnder_at {n : Nat} : ∀ {fs : List (Option D)} {i : Nat} {d : D}, optUnder n fs = true → fs[i]? = some (some d) → D.under n d = true
  | [], _, _, _, h => by simp at h
  | none :: r, 0, _, u, h => by simp at h
  | some x :: r, 0, d, u, h => by
    simp at h
    subst h
    exact (Bool.and_eq_true_iff.mp u).1
  | none :: r, i + 1, _, u, h => optUnder_at (fs := r) u (by simpa using h)
  | some x :: r, i + 1, d, u, h => optUnder_at (fs := r) (Bool.and_eq_true_iff.mp u).2 (by simpa using h)
theorem optUnder_of {n : Nat} : ∀ {fs : List (Option D)}, (∀ (i : Nat) (d : D), fs[i]? = some (some d) → D.under n d = true) → optUnder n fs = true
  | [], _ => rfl
  | none :: r, h => optUnder_of (fs := r) fun i d q => h (i + 1) d (by simpa using q)
  | some x :: r, h => Bool.and_eq_true_iff.mpr ⟨h 0 x rfl, optUnder_of (fs := r) fun i d q => h (i + 1) d (by simpa using q)⟩
theorem CellR.under {c : Cell} {q : Addr × Addr × Bool} (h : CellR K w T H φ c q) : Cell.under φ.length c = true := by
  obtain ⟨p, q, b⟩ := q
  cases c with
  | hid => rfl
  | lst xs =>
    obtain ⟨_, _, vs, _, r⟩ := h
    exact Rels.under (Nat.le_refl _) xs vs r
  | dic xs =>
    obtain ⟨_, _, vs, _, r⟩ := h
    exact RelK.under (Nat.le_refl _) xs vs r
  | ins c fs =>
    obtain ⟨_, _, _, sl, _, r⟩ := h
    exact optUnder_of fun i d q => by
      obtain ⟨v, _, r⟩ := r i d q
      exact Rel.under (Nat.le_refl _) d v r
theorem CellR.restrict {c : Cell} {q : Addr × Addr × Bool} (h : CellR K w T H (φ ++ ψ) c q) (u : Cell.under φ.length c = true) : CellR K w T H φ c q := by
  obtain ⟨p, q, b⟩ := q
  cases c with
  | hid => exact h
  | lst xs =>
    obtain ⟨hb, e, vs, h1, r⟩ := h
    exact ⟨hb, e, vs, h1, r.restrict _ _ u⟩
  | dic xs =>
    obtain ⟨hb, e, vs, h1, r⟩ := h
    exact ⟨hb, e, vs, h1, r.restrict _ _ u⟩
  | ins c fs =>
    obtain ⟨hb, e, k, sl, h1, r⟩ := h
    refine ⟨hb, e, k, sl, h1, fun i d q => ?_⟩
    obtain ⟨v, a, b⟩ := r i d q
    exact ⟨v, a, b.restrict _ _ (optUnder_at u q)⟩
theorem oldOk_at {n : Nat} : ∀ {m m' : M} {a : Nat} {c : Cell}, oldOk n m m' = true → m[a]? = some c → ∃ c', m'[a]? = some c' ∧ (c' = c ∨ Cell.under n c' = true)
  | [], _, _, _, _, h => by simp at h
  | _ :: _, [], _, _, h, _ => by cases h
  | c :: r, d :: t, 0, c0, h, e => by
    simp at e
    subst e
    have h := (Bool.and_eq_true_iff.mp h).1
    rcases Bool.or_eq_true_iff.mp h with h | h
    · exact ⟨d, rfl, .inr h⟩
    · exact ⟨d, rfl, .inl (Cell.beq_eq _ _ h).symm⟩
  | c :: r, d :: t, a + 1, c0, h, e => by
    obtain ⟨c', e', q⟩ := oldOk_at (m := r) (m' := t) (Bool.and_eq_true_iff.mp h).2 (by simpa using e)
    exact ⟨c', by simpa using e', q⟩
/-- the cells made since are forgotten -/
theorem Sim.forget {m m' : M} (S : Sim K w T H φ m) (e : Ext H φ H' (φ ++ ψ)) (S' : Sim K w T H' (φ ++ ψ) m') (o : oldOk m.length m m' = true) : Ext H φ H' φ ∧ Sim K w T H' φ (m'.take m.length) := by
  have hl : m.length ≤ m'.length := by
    rw [← S.len, ← S'.len, List.length_append]
    omega
  refine ⟨⟨⟨[], by simp⟩, e.keep, e.hid, fun p h => .inl h⟩, ⟨by rw [List.length_take, S.len, Nat.min_eq_left hl], fun a c q h1 h2 => ?_, fun a b q r h1 h2 => S.sep a b q r h1 h2⟩⟩
  have ha : a < m.length := by
    rw [← S.len]
    exact at_lt h2
  rw [List.getElem?_take_of_lt ha] at h1
  have C' := S'.cell a c q h1 (by rw [List.getElem?_append_left (at_lt h2)]; exact h2)
  obtain ⟨c0, e0⟩ : ∃ c0, m[a]? = some c0 := ⟨m[a], by simp [ha]⟩
  obtain ⟨c', e1, z⟩ := oldOk_at o e0
  rw [h1] at e1
  cases e1
  refine C'.restrict ?_
  rcases z with rfl | z
  · exact (S.cell a _ q e0 h2).under
  · rw [S.len]
    exact z
theorem closeD_ok {m m' : M} {d d' : D} {v : V} (S : Sim K w T H φ m) (e : Ext H φ H' (φ ++ ψ)) (S' : Sim K w T H' (φ ++ ψ) m') (h : closeD m' m.length d = some d') (r : Rel K w T H' (φ ++ ψ) d v) : Rel K w T H' φ d' v := by
  have hn : m.length = φ.length := S.len.symm
  have other : ∀ {d : D}, (bif D.under m.length d then some d else none) = some d' → Rel K w T H' (φ ++ ψ) d v → Rel K w T H' φ d' v := fun {d} h r => by
    cases z : D.under m.length d with
    | true =>
      rw [z] at h
      cases h
      exact r.restrict _ _ (by rw [← hn]; exact z)
    | false =>
      rw [z] at h
      cases h
  cases d with
  | ref a =>
    have h : (bif Nat.blt a m.length then some (D.ref a) else match m'[a]? with
        | some (.lst xs) => bif D.unders m.length xs then some (.fl xs) else none
        | some (.dic kvs) => bif D.underk m.length kvs then some (.fd kvs) else none
        | _ => none) = some d' := h
    cases z : Nat.blt a m.length with
    | true =>
      rw [z] at h
      cases h
      exact r.restrict _ _ (by rw [← hn]; exact z)
    | false =>
      rw [z] at h
      have h : (match m'[a]? with
        | some (.lst xs) => bif D.unders m.length xs then some (.fl xs) else none
        | some (.dic kvs) => bif D.underk m.length kvs then some (.fd kvs) else none
        | _ => none) = some d' := h
      have ha : m.length ≤ a := by
        have q : ¬ a < m.length := fun q => by
          rw [show Nat.blt a m.length = true from Nat.ble_eq_true_of_le q] at z
          cases z
        omega
      cases r with
      | @ref _ p q b h1 =>
        obtain ⟨c, ec, C⟩ := S'.there h1
        have np : ∀ x, (p = x ∨ q = x) → ¬ inFt φ x := fun x hx ⟨b, y, hb, hy⟩ => by
          have hb' : (φ ++ ψ)[b]? = some y := by rw [List.getElem?_append_left (at_lt hb)]; exact hb
          have ne : a ≠ b := by
            have := at_lt hb
            omega
          obtain ⟨s1, s2, s3, s4⟩ := S'.sep a b (p, q, _) y h1 hb' ne
          rcases hx with rfl | rfl <;> rcases hy with hy | hy
          · exact s1 hy.symm
          · exact s2 hy.symm
          · exact s3 hy.symm
          · exact s4 hy.symm
        rw [ec] at h
        cases c with
        | hid => cases h
        | lst xs =>
          obtain ⟨_, _, vs, hp, rs⟩ := C
          cases u : D.unders m.length xs with
          | true =>
            have h : (bif D.unders m.length xs then some (D.fl xs) else none) = some d' := h
            rw [u] at h
            cases h
            exact .fl ⟨np p (.inl rfl), hp⟩ (rs.restrict _ _ (by rw [← hn]; exact u))
          | false =>
            have h : (bif D.unders m.length xs then some (D.fl xs) else none) = some d' := h
            rw [u] at h
            cases h
        | dic xs =>
          obtain ⟨_, _, vs, hp, rs⟩ := C
          cases u : D.underk m.length xs with
          | true =>
            have h : (bif D.underk m.length xs then some (D.fd xs) else none) = some d' := h
            rw [u] at h
            cases h
            exact .fdK (np p (.inl rfl)) hp (rs.restrict _ _ (by rw [← hn]; exact u))
          | false =>
            have h : (bif D.underk m.length xs then some (D.fd xs) else none) = some d' := h
            rw [u] at h
            cases h
        | ins _ _ => cases h
  | non => exact other (d := .non) h r
  | bl b => exact other (d := .bl b) h r
  | int b => exact other (d := .int b) h r
  | str b => exact other (d := .str b) h r
  | fn b => exact other (d := .fn b) h r
  | tup b => exact other (d := .tup b) h r
  | fl b => exact other (d := .fl b) h r
  | scr b => exact other (d := .scr b) h r
  | fd b => exact other (d := .fd b) h r
  | wd b => exact other (d := .wd b) h r
  | obj c b => exact other (d := .obj c b) h r
  | exn c b => exact other (d := .exn c b) h r
/-- a value handed back, its own lists closed -/
theorem closeR_ok {W : WX} {σ : L2.St} {m : M} {r : R D} {Q : VK} (S : Sim K w T H φ m) (h : Post K w T W σ H φ (closeR m r) fun d m' H' φ' => ∀ v, Rel K w T H' φ' d v → Q v H') :
    Post K w T W σ H φ r fun d m' H' φ' => ∀ v, Rel K w T H' φ' d v → Q v H' := by
  cases r with
  | exc c d m' => exact h
  | bad => exact h
  | ok d m' =>
    intro H' φ' e S' v rv
    unfold closeR at h
    cases o : oldOk m.length m m' with
    | false =>
      have h : Post K w T W σ H φ (bif oldOk m.length m m' then (match closeD m' m.length d with
        | some d' => R.ok d' (m'.take m.length)
        | none => .ok d m') else .ok d m') _ := h
      rw [o] at h
      exact h H' φ' e S' v rv
    | true =>
      have h : Post K w T W σ H φ (bif oldOk m.length m m' then (match closeD m' m.length d with
        | some d' => R.ok d' (m'.take m.length)
        | none => .ok d m') else .ok d m') _ := h
      rw [o] at h
      cases z : closeD m' m.length d with
      | none =>
        rw [z] at h
        exact h H' φ' e S' v rv
      | some d' =>
        rw [z] at h
        obtain ⟨ψ, rfl⟩ := e.pre
        obtain ⟨e2, S2⟩ := S.forget e S' o
        exact h H' φ e2 S2 v (closeD_ok S e S' z rv)
/-- every cell hidden -/
def hideF (φ : Foot) : Foot := φ.map fun q => (q.1, q.2.1, true)
theorem hideF_len : (hideF φ).length = φ.length := List.length_map _
theorem hideM_len {m : M} : (hideM m).length = m.length := List.length_map _
theorem hideF_at {a : Nat} {q : Addr × Addr × Bool} (h : (hideF φ)[a]? = some q) : ∃ b, φ[a]? = some (q.1, q.2.1, b) ∧ q.2.2 = true := by
  unfold hideF at h
  rw [List.getElem?_map] at h
  cases e : φ[a]? with
  | none =>
    rw [e] at h
    cases h
  | some r =>
    rw [e] at h
    cases h
    exact ⟨r.2.2, rfl, rfl⟩
theorem hideF_of {a : Nat} {q : Addr × Addr × Bool} (h : φ[a]? = some q) : (hideF φ)[a]? = some (q.1, q.2.1, true) := by
  unfold hideF
  rw [List.getElem?_map, h]
  rfl
theorem hide_in {p : Addr} : inFt (hideF φ) p ↔ inFt φ p := ⟨fun ⟨a, q, h, z⟩ => by
  obtain ⟨b, h, _⟩ := hideF_at h
  exact ⟨a, _, h, z⟩, fun ⟨a, q, h, z⟩ => ⟨a, _, hideF_of h, z⟩⟩
theorem hide_mo : Mo H φ H (hideF φ) := ⟨fun a p q b h => ⟨q, true, hideF_of h⟩, fun p o h n => ⟨h, fun z => n (hide_in.mp z)⟩⟩
theorem show_mo : Mo H (hideF φ) H φ := ⟨fun a p q b h => by
  obtain ⟨b, h, _⟩ := hideF_at h
  exact ⟨q, b, h⟩, fun p o h n => ⟨h, fun z => n (hide_in.mpr z)⟩⟩
theorem Sim.hide {m : M} (S : Sim K w T H φ m) : Sim K w T H (hideF φ) (hideM m) := by
  refine ⟨by rw [hideF_len, hideM_len]; exact S.len, fun a c q h1 h2 => ?_, fun a b q r h1 h2 ne => ?_⟩
  · unfold hideM at h1
    rw [List.getElem?_map] at h1
    cases e : m[a]? with
    | none =>
      rw [e] at h1
      cases h1
    | some c0 =>
      rw [e] at h1
      cases h1
      obtain ⟨b, h2, hb⟩ := hideF_at h2
      have C := (S.cell a c0 _ e h2).known
      exact ⟨hb, C.1, C.2⟩
  · obtain ⟨b1, h1, _⟩ := hideF_at h1
    obtain ⟨b2, h2, _⟩ := hideF_at h2
    exact S.sep a b (q.1, q.2.1, b1) (r.1, r.2.1, b2) h1 h2 ne
/-- the cells that were hidden are as they were -/
theorem Sim.unhide {m : M} (S : Sim K w T H φ m) (e : Ext H (hideF φ) H' (hideF φ)) : Ext H φ H' φ ∧ Sim K w T H' φ m := by
  have hk : ∀ p o, H p = some o → inFt φ p → H' p = some o := fun p o h ⟨a, q, h1, h2⟩ => e.hid p o h ⟨a, _, hideF_of h1, rfl, h2⟩
  have hall : ∀ p o, H p = some o → H' p = some o := fun p o h => by
    by_cases z : inFt φ p
    · exact hk p o h z
    · exact e.keep p o h fun y => z (hide_in.mp y)
  exact ⟨Ext.more hall, S.more hall⟩
theorem shown_ok {W : WX} {σ : L2.St} {m : M} {r : R D} {Q : VK} (S : Sim K w T H φ m) (h : Post K w T W σ H φ (shown m r) fun d m' H' φ' => ∀ v, Rel K w T H' φ' d v → Q v H') :
    Post K w T W σ H (hideF φ) r fun d m' H' φ' => ∀ v, Rel K w T H' φ' d v → Q v H' := by
  cases r with
  | bad => exact h
  | ok d m' =>
    have h : Post K w T W σ H φ (bif Nat.beq m'.length m.length && oldOk m.length (hideM m) m' then .ok d m else .bad) fun d m' H' φ' => ∀ v, Rel K w T H' φ' d v → Q v H' := h
    cases z : Nat.beq m'.length m.length && oldOk m.length (hideM m) m' with
    | false =>
      rw [z] at h
      exact h.elim
    | true =>
      rw [z] at h
      obtain ⟨z1, z2⟩ := Bool.and_eq_true_iff.mp z
      intro H' φ1 e S' v rv
      obtain ⟨ψ, ep⟩ := e.pre
      have hl : ψ = [] := by
        have h1 := S'.len
        rw [Nat.eq_of_beq_eq_true z1, ep, List.length_append, hideF_len, S.len] at h1
        exact List.eq_nil_of_length_eq_zero (by omega)
      rw [hl, List.append_nil] at ep
      subst ep
      obtain ⟨e2, S2⟩ := S.unhide e
      exact h H' φ e2 S2 v (rv.mo show_mo)
  | exc c v m' =>
    have h : Post K w T W σ H φ (bif oldOk m.length (hideM m) m' && D.under m.length v then (.exc c v m : R D) else .bad) fun d m' H' φ' => ∀ v, Rel K w T H' φ' d v → Q v H' := h
    cases z : oldOk m.length (hideM m) m' && D.under m.length v with
    | false =>
      rw [z] at h
      exact h.elim
    | true =>
      rw [z] at h
      obtain ⟨z1, z2⟩ := Bool.and_eq_true_iff.mp z
      intro od H' φ1 e S' ⟨q, u, e1, n1, h1, r1⟩
      obtain ⟨ψ, rfl⟩ := e.pre
      obtain ⟨e5, S5⟩ := S.hide.forget e S' (by rw [hideM_len]; exact z1)
      obtain ⟨e2, S2⟩ := S.unhide e5
      refine h od H' φ e2 S2 ⟨q, u, e1, fun y => nin_pre n1 (hide_in.mpr y), h1, ?_⟩
      exact (r1.restrict _ _ (by rw [hideF_len, S.len]; exact z2)).mo show_mo
end
theorem sp_post {K : PySem.W.Frag} {w : World} {T : Tab} {W : WX} {σ : L2.St} {H : Hp} {φ : Foot} {r : R D} {Q : D → M → Hp → Foot → Prop} (h : Post K w T W σ H φ r Q) : Post K w T (fun c d _ H => W c d σ H) [] H φ r Q := by
  cases r with
  | ok d m => exact h
  | exc c d m => exact h
  | bad => exact h
/-- what a call of the evaluator promises is what the callee promises -/
theorem callF_sp {K : PySem.W.Frag} {w : World} {T : Tab} {cl : Call} {W : WX} {σ : L2.St} {H : Hp} {φ : Foot} {m : M} {i : Nat} {ds : List D} {vs : List V} {Q : VK} (S : Sim K w T H φ m) (r : Rels K w T H φ ds vs)
    (h : Post K w T W σ H φ (callF T cl i ds m) fun d m' H' φ' => ∀ v, Rel K w T H' φ' d v → Q v H') : spF K w T cl i vs H Q fun c d H => W c d σ H := by
  unfold callF at h
  cases ef : T.fns[i]? with
  | none =>
    rw [ef] at h
    exact h.elim
  | some f =>
    rw [ef] at h
    have h : Post K w T W σ H φ (match defaults f ds with
      | none => R.bad
      | some l => bif f.keep then cl i l m else bif D.unders 0 l then shown m (closeR (hideM m) (cl i l (hideM m))) else closeR m (cl i l m)) _ := h
    cases el : defaults f ds with
    | none =>
      rw [el] at h
      exact h.elim
    | some l =>
      rw [el] at h
      have h : Post K w T W σ H φ (bif f.keep then cl i l m else bif D.unders 0 l then shown m (closeR (hideM m) (cl i l (hideM m))) else closeR m (cl i l m)) _ := h
      cases z : f.keep with
      | true =>
        rw [z] at h
        exact ⟨ds, l, m, φ, f, ef, r, S, el, sp_post h⟩
      | false =>
        rw [z] at h
        have h : Post K w T W σ H φ (bif D.unders 0 l then shown m (closeR (hideM m) (cl i l (hideM m))) else closeR m (cl i l m)) _ := h
        cases y : D.unders 0 l with
        | false =>
          rw [y] at h
          exact ⟨ds, l, m, φ, f, ef, r, S, el, sp_post (closeR_ok S h)⟩
        | true =>
          rw [y] at h
          exact ⟨ds, l, hideM m, hideF φ, f, ef, r.mo hide_mo, S.hide, el, sp_post (closeR_ok S.hide (shown_ok S h))⟩
section
variable {X : Cx} {T : Tab} {W : WX} {lv : Nat} {cl : Call} {pos p : Pos} {pins : List (Addr × Obj)} {σ : L2.St} {H : Hp} {s : Shared} {φ : Foot} {m : M} {i : Nat} {ds : List D} {vs : List V} {us : List Value} {Q : VK}
theorem room_down {k : Nat} {A : Around} (r : Room (k + 9) A) : Room k A := r.mono (by omega)
theorem Fx.pass (F : Fx X T W lv cl) (I : Inv X pins σ H s) {e : Value} {s' : Shared} (c : CX X.prog X.w X.stack H s (fun c d H => W c d σ H) e s') : X.xe e s' :=
  F.tk e s' (XE.of_call (W := W) I (fun _ _ _ h => h) c)
/-- the callee runs, anywhere below the body's own place -/
theorem run_code (F : Fx X T W lv cl) {A : Around} (hr : Room lv A) (e0 : Env0 X.prog X.w X.K X.mg X.base A X.stack s H) (I : Inv X pins σ H s) (S : Sim X.K X.w T H φ m) (r : Rels X.K X.w T H φ ds vs) (rv : Vals vs us)
    (h : Post X.K X.w T W σ H φ (callF T cl i ds m) fun d m' H' φ' => ∀ v, Rel X.K X.w T H' φ' d v → Q v H') :
    codeAny (model X.prog X.w) A (.call (.ref (fnA X.K T i)) ⟨us, []⟩) (fun r s' => match r with | .ok (.ret v) => EP X pins σ Q v s' | .ok _ => False | .error e => X.xe e s') s := by
  refine codeAny_mono (F.fn i A X.stack s H us vs Q _ hr e0 rv (callF_sp S r h)) fun r s' hq => ?_
  cases r with
  | error e => exact F.pass I hq
  | ok fl =>
    cases fl with
    | ret u => exact I.after hq
    | next => exact False.elim hq
    | brk => exact False.elim hq
    | cont => exact False.elim hq
theorem run_call (F : Fx X T W lv cl) (I : Inv X pins σ H s) (S : Sim X.K X.w T H φ m) (r : Rels X.K X.w T H φ ds vs) (rv : Vals vs us)
    (h : Post X.K X.w T W σ H φ (callF T cl i ds m) fun d m' H' φ' => ∀ v, Rel X.K X.w T H' φ' d v → Q v H') :
    wpAny (model X.prog X.w) X.A (call (.ref (fnA X.K T i)) us) (EP X pins σ Q) X.xe s := wpAny_call (run_code F (room_down F.room) I.env0 I S r rv h)
variable {x : Str} {y : List Nat} {f : Nat} {e : Expr} {es : List Expr} {Fr : Env → M → R (List D)}
theorem callF_there (h : Post X.K X.w T W σ H φ (callF T cl i ds m) fun d m' H' φ' => ∀ v, Rel X.K X.w T H' φ' d v → Q v H') : ∃ fn, T.fns[i]? = some fn := by
  unfold callF at h
  cases e : T.fns[i]? with
  | none =>
    rw [e] at h
    exact h.elim
  | some fn => exact ⟨fn, rfl⟩
/-- f(e, ..) -/
theorem c_call (F : Fx X T W lv cl) (hg : Gl X x) (hx : x = SS y) {j : Nat} (hj : T.globs[j]? = some (y, .fn f)) (hf : f < T.fns.length) (ha : PA X (e :: es) (tA X.K X.w T W Fr)) (hdb : (x == ("__debug__" : Str)) = false)
    (he : starEach (e :: es) X.env = (false, eval e X.env) :: starEach es X.env) (hpl : (backTo pos (starEach es X.env)).any (·.1) = false) :
    PE X (.Call (.Name x p) (e :: es) [] pos) (tE X.K X.w T W fun ρ m => (Fr ρ m).bind fun ds m => callF T cl f ds m) := by
  refine ⟨fun pins s σ H Q I ⟨ρ, m, φ, hρ, S, h⟩ => ?_⟩
  have hm : X.mg x = some (.ref (fnA X.K T f)) := by
    rw [hx]
    exact F.tb.gf j y f hj
  have hk : PySem.W.keepIn X.K (.ref (fnA X.K T f)) = true := F.tb.kp f T.fns[f] (by simp [hf])
  refine wpAny_Call_Name_kw (ld_glob I hg hm ?_ hdb)
  have q := firstA (Qv := fun vs H1 => ∃ ds m1 φ1, Sim X.K X.w T H1 φ1 m1 ∧ Rels X.K X.w T H1 φ1 ds vs ∧ Post X.K X.w T W σ H1 φ1 (callF T cl f ds m1) fun d m' H' φ' => ∀ v, Rel X.K X.w T H' φ' d v → Q v H') hρ S h
    fun ds m1 vs H1 φ1 e1 S1 ρ1 r q => ⟨ds, m1, φ1, S1, r, q⟩
  refine PySem.W.callWith_K (h₀ := X.base) I.ok.mod.kin hk (thn (ha.run pos pins s σ H _ I q) fun us s1 ⟨vs, H1, I1, r, ds, m1, φ1, S1, rr, q⟩ => ⟨I1.kIn, ?_⟩) he hpl
  exact run_call F I1 S1 rr r q
theorem c_call0 (F : Fx X T W lv cl) (hg : Gl X x) (hx : x = SS y) {j : Nat} (hj : T.globs[j]? = some (y, .fn f)) (hf : f < T.fns.length) (hdb : (x == ("__debug__" : Str)) = false) :
    PE X (.Call (.Name x p) [] [] pos) (tE X.K X.w T W fun ρ m => (R.ok [] m : R (List D)).bind fun ds m => callF T cl f ds m) := by
  refine ⟨fun pins s σ H Q I ⟨ρ, m, φ, hρ, S, h⟩ => ?_⟩
  have hm : X.mg x = some (.ref (fnA X.K T f)) := by
    rw [hx]
    exact F.tb.gf j y f hj
  have hk : PySem.W.keepIn X.K (.ref (fnA X.K T f)) = true := F.tb.kp f T.fns[f] (by simp [hf])
  refine wpAny_Call_Name_kw (ld_glob I hg hm ?_ hdb)
  exact PySem.W.callWith_K0 I.kIn hk (run_call F I S .nil .nil h)
end
end Pd

set_option maxHeartbeats 4000000
/-! Pd4: instances made, their attributes, their methods. -/
namespace Pd
open PySem PySem.Spec PyProof.Rows L2
section
variable {X : Cx} {T : Tab} {W : WX} {lv : Nat} {cl : Call} {pos p : Pos} {pins : List (Addr × Obj)} {σ : L2.St} {H : Hp} {s : Shared} {φ : Foot} {m : M} {i c : Nat} {ds : List D} {vs : List V} {us : List Value} {Q : VK}
/-- the fields by their places -/
theorem fields_rel {K : PySem.W.Frag} {w : World} : ∀ (ds : List D) (sl : List (Option V)), (∀ (i : Nat) d, ds[i]? = some d → ∃ v, sl[i]? = some (some v) ∧ Rel K w T H φ d v) →
    ∃ vs, Rels K w T H φ ds vs ∧ ∀ (i : Nat) v, vs[i]? = some v → sl[i]? = some (some v)
  | [], sl, h => ⟨[], .nil, fun i v q => by simp at q⟩
  | d :: ds, sl, h => by
    obtain ⟨v, e, r⟩ := h 0 d rfl
    obtain ⟨vs, rs, q⟩ := fields_rel ds sl.tail fun i d' z => by
      obtain ⟨v', e', r'⟩ := h (i + 1) d' (by simpa using z)
      exact ⟨v', by simpa using e', r'⟩
    refine ⟨v :: vs, .cons r rs, fun i v' z => ?_⟩
    cases i with
    | zero =>
      simp at z
      subst z
      exact e
    | succ i => simpa using q i v' (by simpa using z)
theorem somes_at : ∀ {fs : List (Option D)} {ds : List D} {i : Nat} {d : D}, somes fs = some ds → ds[i]? = some d → fs[i]? = some (some d)
  | [], _, _, _, h, q => by
    cases h
    simp at q
  | none :: r, _, _, _, h, q => by cases h
  | some x :: r, ds, i, d, h, q => by
    have h : (somes r).map (x :: ·) = some ds := h
    cases e : somes r with
    | none =>
      rw [e] at h
      cases h
    | some l =>
      rw [e] at h
      cases h
      cases i with
      | zero => simpa using q
      | succ i => simpa using somes_at (fs := r) e (by simpa using q)
theorem somes_len : ∀ {fs : List (Option D)} {ds : List D}, somes fs = some ds → ds.length = fs.length
  | [], _, h => by
    cases h
    rfl
  | none :: r, _, h => by cases h
  | some x :: r, ds, h => by
    have h : (somes r).map (x :: ·) = some ds := h
    cases e : somes r with
    | none =>
      rw [e] at h
      cases h
    | some l =>
      rw [e] at h
      cases h
      simp [somes_len e]
theorem unders_at {n : Nat} : ∀ {ds : List D} {i : Nat} {d : D}, D.unders n ds = true → ds[i]? = some d → D.under n d = true
  | [], _, _, _, h => by simp at h
  | x :: r, 0, d, u, h => by
    simp at h
    subst h
    exact (Bool.and_eq_true_iff.mp u).1
  | x :: r, i + 1, d, u, h => unders_at (ds := r) (Bool.and_eq_true_iff.mp u).2 (by simpa using h)
theorem run_makeR {C f : Addr} {k : Nat} {sp : Sp} {E : XK} (hmk : PySem.W.makesIn X.K C = true) (hin : PySem.W.findIn X.K (.ref C) "__init__" = some (some (.ref f))) (hfn : PySem.W.isFn X.K (.ref f) = true)
    (F : FnR X.prog X.w X.K X.mg X.base (CX X.prog X.w) k f sp) (hr : Room (k + 1) X.A) (hx : ∀ (H : Hp) (s : Shared) (e : Value) (s' : Shared), Inv X pins σ H s → CX X.prog X.w X.stack H s E e s' → X.xe e s') (I : Inv X pins σ H s) (r : Vals vs us)
    (h : ∀ x dx, H x = none → H dx = none → dx ≠ x → sp (.ref x :: vs) (upd (upd H dx (.own x)) x (.ins C dx [])) (fun v H2 => v = .non ∧ Q (.ref x) H2) E) :
    wpAny (model X.prog X.w) X.A (call (.ref C) us) (EP X pins σ Q) X.xe s := by
  have hq := h (s.heap.objs.size + 1) s.heap.objs.size (I.hok.fresh (Nat.le_succ _)) (I.hok.fresh (Nat.le_refl _)) (Nat.ne_of_lt (Nat.lt_succ_self _))
  have I2 := Inv.made (C := C) I
  refine wpAny_call (make_map (f := f) I.kIn hmk hin (beq_iff_eq.mp hfn) (codeAny_mono (F _ X.stack _ _ (Value.ref (s.heap.objs.size + 1) :: us) _ _ E (hr.make C us [])
    (I2.env0.make C us []) (.cons (show RelV (V.ref (s.heap.objs.size + 1)) (Value.ref (s.heap.objs.size + 1)) from rfl) r) hq) fun r s' hq' => ?_))
  cases r with
  | error e => exact hx _ _ e s' I2 hq'
  | ok fl =>
    cases fl with
    | ret u =>
      obtain ⟨v, H', I3, rv, ev, q3⟩ := I2.after hq'
      subst ev
      exact ⟨rv, ⟨V.ref (s.heap.objs.size + 1), H', I3, rfl, q3⟩⟩
    | next => exact False.elim hq'
    | brk => exact False.elim hq'
    | cont => exact False.elim hq'
theorem mkRoom {k : Nat} {A : Around} (r : Room (k + 9) A) : Room (k + 1) A := r.mono (by omega)
/-- what the made instance is -/
theorem madeF_ok {k : Cls} {r : R D} {x dx : Addr} (ek : T.clss[c]? = some k) (k0 : k.kind = 0) (S : Sim X.K X.w T H φ m) (hx : H x = none) (hd : H dx = none) {H2 : Hp} {ψ : Foot} (e2 : Ext H φ H2 (φ ++ [(x, dx, false)]))
    (h : Post X.K X.w T W σ H φ (madeF c m r) fun d m' H' φ' => ∀ v, Rel X.K X.w T H' φ' d v → Q v H') :
    Post X.K X.w T (fun c d _ H => W c d σ H) [] H2 (φ ++ [(x, dx, false)]) r fun d m' H' φ' => ∀ v, Rel X.K X.w T H' φ' d v → v = .non ∧ Q (.ref x) H' := by
  cases r with
  | bad => exact h
  | exc c' v m' => exact fun od H' φ' e S' x => h od H' φ' (e2.trans e) S' x
  | ok d m' =>
    cases d with
    | non =>
      intro H' φ' e3 S3 v rv'
      cases rv'
      refine ⟨rfl, ?_⟩
      have h : Post X.K X.w T W σ H φ (bif oldOk m.length m m' then (match insAt c m.length m' with
        | some ds => bif !ds.isEmpty && D.unders m.length ds then R.ok (D.obj c ds) (m'.take m.length) else R.bad
        | none => R.bad) else R.bad) fun d m' H' φ' => ∀ v, Rel X.K X.w T H' φ' d v → Q v H' := h
      cases eo : oldOk m.length m m' with
      | false =>
        rw [eo] at h
        exact h.elim
      | true =>
        rw [eo] at h
        cases ei : insAt c m.length m' with
        | none =>
          rw [ei] at h
          exact h.elim
        | some ds' =>
          rw [ei] at h
          have h : Post X.K X.w T W σ H φ (bif !ds'.isEmpty && D.unders m.length ds' then R.ok (D.obj c ds') (m'.take m.length) else R.bad) fun d m' H' φ' => ∀ v, Rel X.K X.w T H' φ' d v → Q v H' := h
          cases eb : !ds'.isEmpty && D.unders m.length ds' with
          | false =>
            rw [eb] at h
            exact h.elim
          | true =>
            rw [eb] at h
            obtain ⟨b2, b3⟩ := Bool.and_eq_true_iff.mp eb
            have e4 := e2.trans e3
            have hat : φ'[m.length]? = some (x, dx, false) := e3.at (by rw [← S.len]; simp)
            obtain ⟨c0, ec, C0⟩ := S3.there hat
            unfold insAt at ei
            rw [ec] at ei
            cases c0 with
            | hid => cases ei
            | lst _ => cases ei
            | dic _ => cases ei
            | ins c' fs =>
              have ei : (bif Nat.beq c' c then somes fs else none) = some ds' := ei
              cases eq : Nat.beq c' c with
              | false =>
                rw [eq] at ei
                cases ei
              | true =>
                rw [eq] at ei
                have es : somes fs = some ds' := ei
                have ecc : c' = c := Nat.eq_of_beq_eq_true eq
                subst ecc
                obtain ⟨ψ, ep⟩ := e4.pre
                rw [ep] at e4 S3 C0
                obtain ⟨e5, S5⟩ := S.forget e4 S3 eo
                obtain ⟨_, _, ⟨k', ek', _, hl⟩, sl, hs, hf⟩ := C0
                rw [ek] at ek'
                cases ek'
                have hall : ∀ (j : Nat) d, ds'[j]? = some d → ∃ v, sl[j]? = some (some v) ∧ Rel X.K X.w T H' φ d v := fun j d z => by
                  obtain ⟨v, a, b⟩ := hf j d (somes_at es z)
                  exact ⟨v, a, b.restrict _ _ (by rw [S.len]; exact unders_at b3 z)⟩
                obtain ⟨ws, rw_, hw⟩ := fields_rel ds' sl hall
                rcases hs with ⟨_, _, e0⟩ | ⟨h1, h2⟩
                · cases ds' with
                  | nil => cases b2
                  | cons d0 dr =>
                    obtain ⟨v, a, _⟩ := hall 0 d0 rfl
                    rw [e0] at a
                    simp at a
                · exact h H' φ e5 S5 _ (.obj (S.nin hx) (S.nin hd) ek k0 h1 h2 rw_ (by rw [somes_len es]; exact hl) hw)
    | _ => exact h.elim
theorem makeF_there (h : Post X.K X.w T W σ H φ (makeF T cl c ds m) fun d m' H' φ' => ∀ v, Rel X.K X.w T H' φ' d v → Q v H') : ∃ k i f l, T.clss[c]? = some k ∧ k.init = some i ∧ k.kind = 0 ∧ T.fns[i]? = some f ∧ defaults f (.ref m.length :: ds) = some l ∧
    Post X.K X.w T W σ H φ (bif D.unders 0 l.tail then shown m (madeF c (hideM m) (cl i l (hideM m ++ [.ins c (k.slots.map fun _ => Option.none)]))) else madeF c m (cl i l (m ++ [.ins c (k.slots.map fun _ => Option.none)]))) fun d m' H' φ' => ∀ v, Rel X.K X.w T H' φ' d v → Q v H' := by
  unfold makeF at h
  cases ek : T.clss[c]? with
  | none =>
    rw [ek] at h
    exact h.elim
  | some k =>
    rw [ek] at h
    cases ei : k.init with
    | none =>
      simp only [ei] at h
      exact h.elim
    | some i =>
      simp only [ei] at h
      cases eb : Nat.beq k.kind 0 with
      | false =>
        rw [eb] at h
        exact h.elim
      | true =>
        rw [eb] at h
        have h : Post X.K X.w T W σ H φ (newF T cl c i k ds m) _ := h
        unfold newF at h
        cases ef : T.fns[i]? with
        | none =>
          rw [ef] at h
          exact h.elim
        | some f =>
          rw [ef] at h
          cases el : defaults f (.ref m.length :: ds) with
          | none =>
            simp only [el] at h
            exact h.elim
          | some l =>
            simp only [el] at h
            exact ⟨k, i, f, l, rfl, ei, Nat.eq_of_beq_eq_true eb, ef, el, h⟩
theorem run_madeF {k : Cls} {i : Nat} {f : Fn} {l : List D} (F : Fx X T W lv cl) (ek : T.clss[c]? = some k) (ei : k.init = some i) (k0 : k.kind = 0) (ef : T.fns[i]? = some f) (el : defaults f (.ref m.length :: ds) = some l) (I : Inv X pins σ H s) (S : Sim X.K X.w T H φ m) (r : Rels X.K X.w T H φ ds vs) (rv : Vals vs us)
    (h : Post X.K X.w T W σ H φ (madeF c m (cl i l (m ++ [.ins c (k.slots.map fun _ => Option.none)]))) fun d m' H' φ' => ∀ v, Rel X.K X.w T H' φ' d v → Q v H') :
    wpAny (model X.prog X.w) X.A (call (.ref (clsA X.K T c)) us) (EP X pins σ Q) X.xe s := by
  have K0 := F.tb.cls c k ek k0
  obtain ⟨hin, hfn⟩ := K0.init i ei
  refine run_makeR (E := fun c d H => W c d σ H) K0.mks hin hfn (F.fn i) (mkRoom F.room) (fun _ _ _ _ I c => F.pass I c) I rv fun x dx hx hd ne => ?_
  have more : ∀ p o, H p = some o → upd (upd H dx (.own x)) x (.ins (clsA X.K T c) dx []) p = some o := fun p o e => by
    rw [upd_ne (ne_of_none e hx), upd_ne (ne_of_none e hd)]
    exact e
  obtain ⟨e2, S2⟩ := S.alloc (q := (x, dx, false)) (c := .ins c (k.slots.map fun _ => Option.none)) (H' := upd (upd H dx (.own x)) x (.ins (clsA X.K T c) dx [])) hx hd more
    ⟨rfl, ne, ⟨k, ek, k0, by simp⟩, [], .inl ⟨upd_same, by rw [upd_ne ne, upd_same], rfl⟩, fun j d q => by
      rw [List.getElem?_map] at q
      cases z : k.slots[j]? with
      | none =>
        rw [z] at q
        cases q
      | some _ =>
        rw [z] at q
        cases q⟩
  have rself : Rel X.K X.w T (upd (upd H dx (.own x)) x (.ins (clsA X.K T c) dx [])) (φ ++ [(x, dx, false)]) (.ref m.length) (.ref x) := .ref (q := dx) (b := false) (by rw [← S.len]; simp)
  exact ⟨.ref m.length :: ds, l, _, _, f, ef, .cons rself (r.mono e2), S2, el, madeF_ok (ψ := []) ek k0 S hx hd e2 h⟩
theorem Post.sub {r : R D} {P P' : D → M → Hp → Foot → Prop} (h : Post X.K X.w T W σ H φ r P) (k : ∀ d m H φ, P d m H φ → P' d m H φ) : Post X.K X.w T W σ H φ r P' := by
  cases r with
  | ok d m => exact fun H' φ' e s => k _ _ _ _ (h H' φ' e s)
  | exc c d m => exact h
  | bad => exact h
/-- a new instance -/
theorem run_makeF (F : Fx X T W lv cl) (I : Inv X pins σ H s) (S : Sim X.K X.w T H φ m) (r : Rels X.K X.w T H φ ds vs) (rv : Vals vs us)
    (h : Post X.K X.w T W σ H φ (makeF T cl c ds m) fun d m' H' φ' => ∀ v, Rel X.K X.w T H' φ' d v → Q v H') :
    wpAny (model X.prog X.w) X.A (call (.ref (clsA X.K T c)) us) (EP X pins σ Q) X.xe s := by
  obtain ⟨k, i, f, l, ek, ei, k0, ef, el, h⟩ := makeF_there h
  cases y : D.unders 0 l.tail with
  | false =>
    rw [y] at h
    exact run_madeF F ek ei k0 ef el I S r rv h
  | true =>
    rw [y] at h
    exact run_madeF F ek ei k0 ef (by rw [hideM_len]; exact el) I S.hide (r.mo hide_mo) rv (shown_ok S h)
variable {x : Str} {y : List Nat} {e : Expr} {es : List Expr} {Fr : Env → M → R (List D)}
/-- C(e, ..) -/
theorem c_make (F : Fx X T W lv cl) (hg : Gl X x) (hx : x = SS y) {j : Nat} (hj : T.globs[j]? = some (y, .cls c)) {k : Cls} (hk : T.clss[c]? = some k) (hk0 : k.kind = 0) (ha : PA X (e :: es) (tA X.K X.w T W Fr)) (hdb : (x == ("__debug__" : Str)) = false)
    (he : starEach (e :: es) X.env = (false, eval e X.env) :: starEach es X.env) (hpl : (backTo pos (starEach es X.env)).any (·.1) = false) :
    PE X (.Call (.Name x p) (e :: es) [] pos) (tE X.K X.w T W fun ρ m => (Fr ρ m).bind fun ds m => makeF T cl c ds m) := by
  refine ⟨fun pins s σ H Q I ⟨ρ, m, φ, hρ, S, h⟩ => ?_⟩
  have hm : X.mg x = some (.ref (clsA X.K T c)) := by
    rw [hx]
    exact F.tb.gk j y c hj
  refine wpAny_Call_Name_kw (ld_glob I hg hm ?_ hdb)
  have q := firstA (Qv := fun vs H1 => ∃ ds m1 φ1, Sim X.K X.w T H1 φ1 m1 ∧ Rels X.K X.w T H1 φ1 ds vs ∧ Post X.K X.w T W σ H1 φ1 (makeF T cl c ds m1) fun d m' H' φ' => ∀ v, Rel X.K X.w T H' φ' d v → Q v H') hρ S h
    fun ds m1 vs H1 φ1 e1 S1 ρ1 r q => ⟨ds, m1, φ1, S1, r, q⟩
  refine PySem.W.callWith_K (h₀ := X.base) I.ok.mod.kin (F.tb.cls c k hk hk0).kp (thn (ha.run pos pins s σ H _ I q) fun us s1 ⟨vs, H1, I1, r, ds, m1, φ1, S1, rr, q⟩ => ⟨I1.kIn, ?_⟩) he hpl
  exact run_makeF F I1 S1 rr r q
/-! ### attributes -/
theorem noexc_post {W' : WX} {σ' : L2.St} {α : Type} {r : R α} {P : α → M → Hp → Foot → Prop} (h : Post X.K X.w T W σ H φ (noexc r) P) : Post X.K X.w T W' σ' H φ r P := by
  cases r with
  | ok d m => exact h
  | exc c d m => exact False.elim h
  | bad => exact h
theorem callF_sp0 (S : Sim X.K X.w T H φ m) (r : Rels X.K X.w T H φ ds vs) {f : Nat} (h : Post X.K X.w T W σ H φ (noexc (callF T cl f ds m)) fun d m' H' φ' => ∀ v, Rel X.K X.w T H' φ' d v → Q v H') :
    spF X.K X.w T cl f vs H Q fun _ _ _ => False := callF_sp (W := fun _ _ _ _ => False) (σ := σ) S r (noexc_post h)
theorem CX_false {outer : List PySem.Env} {H : Hp} {s : Shared} {e : Value} {s' : Shared} (h : CX X.prog X.w outer H s (fun _ _ _ => False) e s') : False := by
  obtain ⟨_, _, _, _, _, _, _, _, _, _, _, _, z⟩ := h
  exact z
theorem run_attr (F : Fx X T W lv cl) {a : Nat} {d : D} {x : V} {u : Value} {b : Bool} (I : Inv X pins σ H s) (rx : RelV x u) (S : Sim X.K X.w T H φ m) (r : Rel X.K X.w T H φ d x)
    (h : Post X.K X.w T W σ H φ (attrF T cl d a m) fun d m' H' φ' => ∀ v, Rel X.K X.w T H' φ' d v → Q v H') : wpAny (model X.prog X.w) X.A (getAttr u (attrS T a) b) (EP X pins σ Q) X.xe s := by
  cases d with
  | obj c fs =>
    have hr := r
    cases r with
    | @obj p dx _ k _ vs sl h1 h2 h3 h4 h5 h6 h7 h8 h9 =>
      obtain rfl : u = Value.ref p := rx
      have h : Post X.K X.w T W σ H φ (match T.clss[c]? with
        | none => .bad
        | some k => attrO T cl k (.obj c fs) fs a m) _ := h
      rw [h3] at h
      have h : Post X.K X.w T W σ H φ (attrO T cl k (.obj c fs) fs a m) _ := h
      have K0 := F.tb.cls c k h3 h4
      unfold attrO at h
      cases ei : idxN k.slots a with
      | some i =>
        rw [ei] at h
        cases ef : fs[i]? with
        | none =>
          simp only [ef] at h
          exact h.elim
        | some v =>
          simp only [ef] at h
          obtain ⟨w', e1, r1⟩ := h7.get ef
          obtain ⟨q, hq⟩ := K0.slot a i ei
          exact SlX.getslot_ok I (.inr ⟨h5, h6⟩) K0.sc hq (h9 i w' e1) fun u' s2 I2 ru => ⟨w', H, I2, ru, Post.here S h w' r1⟩
      | none =>
        rw [ei] at h
        cases em : lookM k.meths a with
        | none =>
          simp only [em] at h
          exact h.elim
        | some q =>
          obtain ⟨kd, f⟩ := q
          simp only [em] at h
          cases kd with
          | zero => exact h.elim
          | succ n => cases n with
            | succ n => exact h.elim
            | zero =>
              obtain ⟨pa, g1, g2, g3, g4⟩ := K0.prop a f ei em
              exact SlX.getprop_sl (E := fun _ _ _ => False) I (.inr ⟨h5, h6⟩) K0.sc g1 g2 g3 g4 (F.fn f) (mkRoom F.room) (fun _ _ _ _ z => CX_false z) (callF_sp0 S (.one hr) h)
  | ref a' =>
    cases r with
    | @ref _ p q b hq =>
      obtain rfl : u = Value.ref p := rx
      obtain ⟨c0, ec, C0⟩ := S.there hq
      have h : Post X.K X.w T W σ H φ (match m[a']? with
        | some (.ins c fs) => (match T.clss[c]? with
          | none => R.bad
          | some k => attrC k fs a m)
        | _ => .bad) _ := h
      rw [ec] at h
      cases c0 with
      | hid => exact h.elim
      | lst _ => exact h.elim
      | dic _ => exact h.elim
      | ins c fs =>
        obtain ⟨_, _, ⟨k, ek, k0, _⟩, sl, hs, hf⟩ := C0
        have h : Post X.K X.w T W σ H φ (match T.clss[c]? with
          | none => R.bad
          | some k => attrC k fs a m) _ := h
        rw [ek] at h
        have h : Post X.K X.w T W σ H φ (attrC k fs a m) _ := h
        have K0 := F.tb.cls c k ek k0
        unfold attrC at h
        cases ei : idxN k.slots a with
        | none =>
          rw [ei] at h
          exact h.elim
        | some i =>
          rw [ei] at h
          cases ef : fs[i]? with
          | none =>
            simp only [ef] at h
            exact h.elim
          | some o => cases o with
            | none =>
              simp only [ef] at h
              exact h.elim
            | some v =>
              simp only [ef] at h
              obtain ⟨w', e1, r1⟩ := hf i v ef
              obtain ⟨pd, hp⟩ := K0.slot a i ei
              exact SlX.getslot_ok I hs.slt K0.sc hp e1 fun u' s2 I2 ru => ⟨w', H, I2, ru, Post.here S h w' r1⟩
  | _ => exact h.elim
variable {Fe : Env → M → R D} {f : Str}
/-- o.a -/
theorem c_attr (F : Fx X T W lv cl) {a : Nat} (hf : f = attrS T a) (he : PE X e (tE X.K X.w T W Fe)) (hb : attributeBase e f X.env (eval e X.env) = eval e X.env) :
    PE X (.Attribute e f pos) (tE X.K X.w T W fun ρ m => (Fe ρ m).bind fun d m => attrF T cl d a m) := by
  refine ⟨fun pins s σ H Q I ⟨ρ, m, φ, hρ, S, h⟩ => ?_⟩
  have q := first (Qv := fun v H1 => ∃ d m1 φ1, Sim X.K X.w T H1 φ1 m1 ∧ Rel X.K X.w T H1 φ1 d v ∧ Post X.K X.w T W σ H1 φ1 (attrF T cl d a m1) fun d m' H' φ' => ∀ v, Rel X.K X.w T H' φ' d v → Q v H') hρ S h
    fun d m1 v H1 φ1 e1 S1 ρ1 r q => ⟨d, m1, φ1, S1, r, q⟩
  subst hf
  exact attr_of hb (thn (he.run pins s σ H _ I q) fun u s1 ⟨x, H1, I1, rx, d, m1, φ1, S1, r, q⟩ => run_attr F I1 rx S1 r q)
end
end Pd

set_option maxHeartbeats 4000000
/-! Pd5: operators. -/
namespace Pd
open PySem PySem.Spec PyProof.Rows L2
def BO.py : BO → Operator
  | .add => .Add
  | .sub => .Sub
  | .mul => .Mult
  | .mod => .Mod
  | .fdiv => .FloorDiv
  | .pow => .Pow
def CO.py : CO → CmpOp
  | .eq => .Eq
  | .ne => .NotEq
  | .lt => .Lt
  | .le => .LtE
  | .gt => .Gt
  | .ge => .GtE
  | .is => .Is
  | .isnot => .IsNot
  | .in_ => .In
  | .notin => .NotIn
theorem okInt_nat {i : Int} (h : okInt i = true) : i.natAbs < 2 ^ 4000 := by
  have h := Bool.and_eq_true_iff.mp h
  have h1 := of_decide_eq_true h.1
  have h2 := of_decide_eq_true h.2
  have e : big = ((2 ^ 4000 : Nat) : Int) := by unfold big; rw [Int.natCast_pow]; rfl
  rw [e] at h1 h2
  omega
theorem okMul {i j : Int} (h : (okInt i && okInt j) = true) : CMulW i j := by
  have h := Bool.and_eq_true_iff.mp h
  exact wide_mul (okInt_nat h.1) (okInt_nat h.2) (by omega) (by omega) (by omega)
theorem okDiv {j : Int} (h : (decide (0 < j) && okInt j) = true) : CDivW 0 j := by
  have h := Bool.and_eq_true_iff.mp h
  exact wide_div (of_decide_eq_true h.1) (okInt_nat h.2) (by omega) (by omega)
section
variable {X : Cx} {T : Tab} {W : WX} {lv : Nat} {cl : Call} {pos p : Pos} {pins : List (Addr × Obj)} {σ : L2.St} {H : Hp} {s : Shared} {φ : Foot} {m : M} {i c : Nat} {d e : D} {x y : V} {v u : Value} {Q : VK}
theorem ite_b {b : Bool} {r : R D} {P : D → M → Hp → Foot → Prop} (h : Post X.K X.w T W σ H φ (bif b then r else .bad) P) : b = true ∧ Post X.K X.w T W σ H φ r P := by
  cases b with
  | true => exact ⟨rfl, h⟩
  | false => exact False.elim h
/-- an instance that nobody changes: its class, its object -/
theorem obj_inst {fs : List D} (I : Inv X pins σ H s) (r : Rel X.K X.w T H φ (.obj c fs) x) (rx : RelV x v) : ∃ p k ox od, x = .ref p ∧ v = .ref p ∧ T.clss[c]? = some k ∧ k.kind = 0 ∧
    PySem.W.InstAt s.heap p ox (clsA X.K T c) (some od) := by
  cases r with
  | @obj p dx _ k _ vs sl h1 h2 h3 h4 h5 h6 h7 h8 h9 =>
    obtain ⟨sl', od, _, J, _⟩ := SlX.slt_inst I (.inr ⟨h5, h6⟩)
    exact ⟨p, k, _, od, rfl, rx, h3, h4, J⟩
theorem spec_there {n : Nat} {fs ds : List D} (h : Post X.K X.w T W σ H φ (specF T cl n (.obj c fs) ds m) fun d m' H' φ' => ∀ v, Rel X.K X.w T H' φ' d v → Q v H') : ∃ k f, T.clss[c]? = some k ∧ lookN k.sp n = some f ∧
    Post X.K X.w T W σ H φ (callF T cl f (.obj c fs :: ds) m) fun d m' H' φ' => ∀ v, Rel X.K X.w T H' φ' d v → Q v H' := by
  unfold specF at h
  cases ek : T.clss[c]? with
  | none =>
    simp only [ek] at h
    exact h.elim
  | some k =>
    simp only [ek] at h
    cases ef : lookN k.sp n with
    | none =>
      simp only [ef] at h
      exact h.elim
    | some f =>
      simp only [ef] at h
      exact ⟨k, f, rfl, ef, h⟩
theorem EP_back {s' : Shared} {u : Value} (z : EP X pins σ Q u s') : PySem.W.CmpBack (EP X pins σ Q) u s' := by
  obtain ⟨w, H', I', rw_, q⟩ := z
  exact SlX.cmpback rw_ ⟨w, H', I', rw_, q⟩
theorem notLongS {n : Nat} (h : n ≤ sizeLine) : Builtin.Str.tooLong n = false := by
  cases e : Builtin.Str.tooLong n with
  | false => rfl
  | true =>
    have := of_decide_eq_true e
    omega
theorem repL_nil {α : Type} (a : List α) : (List.replicate 0 a).flatten = [] := rfl
theorem rep_len {α : Type} (a : List α) : ∀ n : Nat, (List.replicate n a).flatten.length = a.length * n
  | 0 => by simp
  | n + 1 => by rw [List.replicate_succ, List.flatten_cons, List.length_append, rep_len a n, Nat.mul_succ]; omega
theorem Rels.rep {K : PySem.W.Frag} {w : World} {ds : List D} {vs : List V} (r : Rels K w T H φ ds vs) : ∀ n : Nat, Rels K w T H φ (List.replicate n ds).flatten (List.replicate n vs).flatten
  | 0 => .nil
  | n + 1 => by rw [List.replicate_succ, List.replicate_succ, List.flatten_cons, List.flatten_cons]; exact r.append (r.rep n)
theorem foldl_cat (a : Array Nat) : ∀ (n : Nat) (z : Array Nat), (List.replicate n a).foldl (· ++ ·) z = z ++ (List.replicate n a.toList).flatten.toArray
  | 0, z => by simp
  | n + 1, z => by
    rw [List.replicate_succ, List.foldl_cons, foldl_cat a n, List.replicate_succ, List.flatten_cons]
    apply Array.ext'
    simp
theorem okInt_bits {i : Int} (h : okInt i = true) : Builtin.Int.intBits i ≤ 4000 := by
  unfold Builtin.Int.intBits
  split
  · omega
  · rename_i z
    have hn : i.natAbs ≠ 0 := fun e => z (by
      have : i = 0 := by omega
      rw [this]; rfl)
    have := (Nat.log2_lt hn).mpr (okInt_nat h)
    omega
theorem run_pow {a b : Int} (I : Inv X pins σ H s) (hb : 0 ≤ b ∧ b ≤ 100 ∧ okInt a = true) {t t' : Tok} (q : Q (.int (a ^ b.toNat)) H) : wpAny (model X.prog X.w) X.A (binaryOp .Pow (.int a t) (.int b t')) (EP X pins σ Q) X.xe s := by
  refine pow_int hb.1 ?_ ⟨.int (a ^ b.toNat), H, I.tok (s.toks + 1), ⟨_, rfl⟩, q⟩
  have h1 : (Builtin.Int.intBits a : Int) * b ≤ 4000 * b := Int.mul_le_mul_of_nonneg_right (by have := okInt_bits hb.2.2; omega) hb.1
  have := hb.2.1
  omega
theorem run_mul_str {a : List Nat} {b : Int} (I : Inv X pins σ H s) (hb : 0 ≤ b ∧ b ≤ 1000 ∧ okLen (a.length * b.toNat) = true) {t t' : Tok} (q : Q (.str (SS (List.replicate b.toNat a).flatten)) H) :
    wpAny (model X.prog X.w) X.A (binaryOp .Mult (.str (SS a) t) (.int b t')) (EP X pins σ Q) X.xe s := by
  have hl : (SS a).length = a.length := SX.S_len _
  have mk : ∀ (S : Str), S = SS (List.replicate b.toNat a).flatten → EP X pins σ Q (.str S s.toks) { s with toks := s.toks + 1 } := fun S e => ⟨.str S, H, I.tok (s.toks + 1), ⟨_, rfl⟩, by rw [e]; exact q⟩
  have hsz : a.length * b.toNat ≤ sizeLine := line_size hb.2.2
  refine P.mul_str ?_ (fun h1 h2 => ?_) (fun h1 h2 => ?_) ?_
  · rw [decide_eq_false (by omega), decide_eq_false (by omega)]; rfl
  · have h1 : (SS a).length ≤ 2 ^ 30 := by
      rw [hl]
      have hk : 1 ≤ b.toNat := by omega
      have := Nat.le_trans (Nat.le_mul_of_pos_right a.length hk) hsz
      have : (sizeLine : Nat) ≤ 2 ^ 30 := by decide
      omega
    have h3 : (1000000000000 : Int) ≤ (2 ^ 63 - 1) / b := Int.le_ediv_of_mul_le (by omega) (by omega)
    omega
  · rw [hl]
    exact notLongS hsz
  · by_cases h0 : b < 1
    · rw [if_pos h0]
      refine ⟨by decide, mk _ ?_⟩
      rw [show b.toNat = 0 by omega]
      rfl
    · rw [if_neg h0]
      by_cases h1 : (b == 1 || (SS a).length == 0) = true
      · rw [if_pos h1]
        refine ⟨.str (SS a), H, I, ⟨_, rfl⟩, ?_⟩
        have e : (List.replicate b.toNat a).flatten = a := by
          rcases Bool.or_eq_true_iff.mp h1 with h1 | h1
          · rw [show b.toNat = 1 by have := eq_of_beq h1; omega]
            simp
          · have : a = [] := by rw [hl] at h1; exact List.eq_nil_of_length_eq_zero (eq_of_beq h1)
            rw [this]
            simp
        rw [e] at q
        exact q
      · rw [if_neg h1]
        have e : (⟨(List.replicate b.toNat (SS a).cps).foldl (· ++ ·) #[]⟩ : Str) = SS (List.replicate b.toNat a).flatten := by
          rw [foldl_cat]
          simp
        exact ⟨by rw [e, SX.S_len, rep_len]; exact hsz, mk _ e⟩
theorem run_bin (F : Fx X T W lv cl) (op : BO) (I : Inv X pins σ H s) (rx : RelV x v) (ry : RelV y u) (S : Sim X.K X.w T H φ m) (r : Rel X.K X.w T H φ d x) (r' : Rel X.K X.w T H φ e y)
    (h : Post X.K X.w T W σ H φ (binF T cl op d e m) fun d m' H' φ' => ∀ v, Rel X.K X.w T H' φ' d v → Q v H') : wpAny (model X.prog X.w) X.A (binaryOp op.py v u) (EP X pins σ Q) X.xe s := by
  have hi : ∀ i, Rel X.K X.w T H φ (.int i) (.int i) := fun i => .int i
  unfold binF at h
  split at h
  · cases r; cases r'
    exact op_add pins s σ H _ _ v u Q I rx ry ⟨_, _, rfl, rfl, Post.here S h _ (.int _)⟩
  · cases r; cases r'
    exact op_sub pins s σ H _ _ v u Q I rx ry ⟨_, _, rfl, rfl, Post.here S h _ (.int _)⟩
  · cases r; cases r'
    obtain ⟨b, h⟩ := ite_b h
    exact op_mulW pins s σ H _ _ v u Q I rx ry ⟨_, _, rfl, rfl, okMul b, Post.here S h _ (.int _)⟩
  · cases r; cases r'
    obtain ⟨b, h⟩ := ite_b h
    exact op_mod pins s σ H _ _ v u Q I rx ry ⟨_, _, rfl, rfl, of_decide_eq_true b, Post.here S h _ (.int _)⟩
  · cases r; cases r'
    obtain ⟨b, h⟩ := ite_b h
    exact op_fdivW pins s σ H _ _ v u Q I rx ry ⟨_, _, rfl, rfl, okDiv b, Post.here S h _ (.int _)⟩
  · cases r; cases r'
    obtain ⟨b, h⟩ := ite_b h
    obtain ⟨t, rfl⟩ := rx
    obtain ⟨t', rfl⟩ := ry
    have b1 := Bool.and_eq_true_iff.mp b
    have b2 := Bool.and_eq_true_iff.mp b1.2
    exact run_pow I ⟨of_decide_eq_true b1.1, of_decide_eq_true b2.1, b2.2⟩ (Post.here S h _ (.int _))
  · cases r; cases r'
    obtain ⟨b, h⟩ := ite_b h
    refine op_add_str pins s σ H _ _ v u Q I rx ry ⟨_, _, rfl, rfl, ?_, ?_⟩
    · rw [SX.S_len, SX.S_len]
      exact line_size b
    · rw [SX.S_cat]
      exact Post.here S h _ (.str _)
  · cases r; cases r'
    obtain ⟨b, h⟩ := ite_b h
    obtain ⟨t, rfl⟩ := rx
    obtain ⟨t', rfl⟩ := ry
    have b1 := Bool.and_eq_true_iff.mp b
    have b2 := Bool.and_eq_true_iff.mp b1.2
    exact run_mul_str I ⟨of_decide_eq_true b1.1, of_decide_eq_true b2.1, b2.2⟩ (Post.here S h _ (.str _))
  · cases r with
    | tup a1 a2 => cases r' with
      | tup b1 b2 =>
        obtain ⟨b, h⟩ := ite_b h
        have la := a2.length
        have lb := b2.length
        refine op_catA pins s σ H _ _ v u Q I rx ry ⟨_, _, _, _, rfl, rfl, a1.sq, b1.sq, ?_, fun e => ?_, fun _ e => ?_, fun _ _ p hp => new_tup S (a2.append b2) h p hp⟩
        · rw [← la, ← lb]
          exact line_size b
        · subst e
          cases a2
          exact Post.here S h _ (.tup b1 (by simpa using b2))
        · subst e
          cases b2
          exact Post.here S h _ (.tup a1 (by simpa using a2))
  · cases r with
    | fl a1 a2 => cases r' with
      | fl b1 b2 =>
        obtain ⟨b, h⟩ := ite_b h
        refine op_cat pins s σ H _ _ v u Q I rx ry ⟨_, _, _, _, rfl, rfl, a1.2, b1.2, ?_, fun p hp => new_fl S (a2.append b2) h p hp⟩
        rw [← a2.length, ← b2.length]
        exact line_size b
  · cases r with
    | fl a1 a2 =>
      cases r'
      obtain ⟨b, h⟩ := ite_b h
      have b1 := Bool.and_eq_true_iff.mp b
      have b2 := Bool.and_eq_true_iff.mp b1.2
      have c1 := of_decide_eq_true b1.1
      have c2 := of_decide_eq_true b2.1
      refine op_rep pins s σ H _ _ v u Q I rx ry ⟨_, _, _, rfl, rfl, a1.2, by omega, by omega, ?_, fun p hp => new_fl S (a2.rep _) h p hp⟩
      rw [← a2.length]
      exact line_size b2.2
  · obtain ⟨b, h⟩ := ite_b h
    have e := Nat.eq_of_beq_eq_true b
    subst e
    obtain ⟨k, f, ek, ef, h⟩ := spec_there h
    obtain ⟨p, k', ox, od, rfl, rfl, ek', k0, J⟩ := obj_inst I r rx
    obtain ⟨p2, k2, ox2, od2, rfl, rfl, _, _, J2⟩ := obj_inst I r' ry
    rw [ek] at ek'
    cases ek'
    have K0 := F.tb.cls _ k ek k0
    obtain ⟨g1, g2⟩ := K0.sp 3 f (by decide) ef
    obtain ⟨mm, hF⟩ := I.fr
    refine PySem.W.binop_K (op := .Mult) hF I.ok.mod.kin J J2.type K0.sf g1 g2 (wpAny_mono (run_call F I S (.cons r (.cons r' .nil)) (.cons rfl (.cons rfl .nil)) h) (fun _ _ z => EP_back z) fun _ _ z => z)
  · exact h.elim
end
end Pd

set_option maxHeartbeats 4000000
/-! Pd6: comparisons. -/
namespace PdK
open PySem PySem.Calls PyProof.Rows Builtin PySem.W
section
variable {prog : Program} {w : World} {A : Around} {E : Value → Shared → Prop} {s : Shared} {K : Frag} {x C L f : Addr} {h₀ : Heap} {m : Str → Option Value} {ox : Obj} {od : Option Obj} {b tb : Value}
theorem ne_bind (self : Value) : bindSpecial (.builtin "object.__ne__") self = pure (.builtin "object.__ne__", [self]) := PySem.F.slot_zip_ne.bind self
theorem ifBound_B {M : Model} {name : Str} {id : String} {args : List Value} {Q : Option Value → Shared → Prop} (X : K.In s.heap) (I : InstAt s.heap x ox C od) (hs : findIn K (.ref C) name = some (some (.builtin id)))
    (hb : ∀ self, bindSpecial (.builtin id) self = pure (.builtin id, [self]))
    (h : wpAny M A (call (.builtin id) (.ref x :: args)) (fun v => Q (some v)) E s) : wpAny M A (callSpecialIfBound? (.ref x) name args) Q E s := by
  simp only [callSpecialIfBound?, bindSpecialIfBound?]
  refine wpAny_holding (wpAny_bind (wpAny_bind (wpAny_bind (I.type.here ((looks_findIn X hs).here ?_)))))
  refine wpAny_bind (wpAny_askSetting (wpAny_ite ?_))
  have fin : wpAny M A (call (.builtin id) ([.ref x] ++ args) >>= fun v => pure (some v)) Q E s := wpAny_bind (wpAny_mono h (fun v s' h' => wpAny_pure h') fun _ _ h' => h')
  split
  · exact wpAny_bind ((Looks.of_pure (hb _)).here (wpAny_pure (by exact fin)))
  · exact wpAny_tryCatch (wpAny_bind ((Looks.of_pure (hb _)).here (wpAny_pure (by exact fin))))
theorem call_ne {Q : Value → Shared → Prop} (hu : A.in1.units < cLine) (X : K.In s.heap) (I : InstAt s.heap x ox C od) (hm : mroIn K C (.type "object") = some true) (hs : findIn K (.ref C) "__eq__" = some (some (.ref f))) (hf : isFn K (.ref f) = true)
    (h : wpAny (model prog w) A.in1 (call (.ref f) [.ref x, b]) (fun v s' => ∃ z, v = .bool z ∧ Q (.bool (!z)) s') E s) : wpAny (model prog w) A (call (.builtin "object.__ne__") [.ref x, b]) Q E s := by
  refine wpAny_call (codeAny_call_builtin PySem.F.slot_zip_ne.plain PySem.F.cmpEntry_ne (check_slot (i := "object.__ne__") (owner := "object") (n := "__ne__") PySem.F.cmpKind_ne PySem.F.cmpSplit_ne (I.type.andThen (looks_mroIn X hm)) (PySem.F.cmpArgs_ne _ _) ?_))
  unfold Builtin.«object.__ne__»
  refine wpAny_bind (m := slotArgs "__ne__" 1 _) (wpAny_pure ?_)
  refine wpAny_bind (m := cRoomFor _ _) (wpAny_cRoomFor hu ?_)
  refine wpAny_bind (m := callSpecialIfBound? (.ref x) (Str.ofString "__eq__") _) (ifBound_K X I hs hf (wpAny_mono h (fun r s' hq => ?_) fun _ _ y => y))
  obtain ⟨z, rfl, q⟩ := hq
  exact wpAny_bind (wpAny_truthy_bool (wpAny_pure q))
theorem ne_K {Q : Value → Shared → Prop} (hu : A.units < cLine) (hu1 : A.in1.units < cLine) (F : Fr h₀ L s.heap m) (X₀ : K.In h₀) (I : InstAt s.heap x ox C od) (hb : Looks (model prog w) s.heap (typeOf b) tb) (hn : notFirst K C tb = true)
    (hm : mroIn K C (.type "object") = some true) (hne : findIn K (.ref C) "__ne__" = some (some (.builtin "object.__ne__"))) (hs : findIn K (.ref C) "__eq__" = some (some (.ref f))) (hf : isFn K (.ref f) = true)
    (h : wpAny (model prog w) A.in1 (call (.ref f) [.ref x, b]) (fun v s' => ∃ z, v = .bool z ∧ Q (.bool (!z)) s') E s) : wpAny (model prog w) A (richCompare .NotEq (.ref x) b) Q E s := by
  have X := X₀.keeps F.keep
  have one : wpAny (model prog w) A (tryCompare (.ref x) (cmpInfo .NotEq).2.1 b) (fun r s' => ∃ v, r = some v ∧ Q v s') E s := by
    unfold tryCompare
    refine wpAny_bind (ifBound_B X I hne ne_bind (call_ne hu1 X I hm hs hf (wpAny_mono h (fun v s' hv => ?_) fun _ _ e => e)))
    obtain ⟨z, rfl, q⟩ := hv
    exact ⟨z, rfl, wpAny_pure ⟨_, rfl, q⟩⟩
  unfold richCompare
  simp only [oneThing_ref]
  refine wpAny_holding (wpAny_bind (wpAny_cRoomFor hu ?_))
  refine wpAny_bind (I.type.here (wpAny_bind (hb.here ?_)))
  split
  · rename_i q
    have e : subIn K tb (.ref C) = some false := by
      rcases Bool.or_eq_true_iff.mp hn with e | e
      · rw [beq_iff_eq.mp e] at q; simp at q
      · exact beq_iff_eq.mp e
    refine wpAny_bind ((looks_subIn X e).here ?_)
    simp only [Bool.false_eq_true, if_false]
    refine wpAny_bind (wpAny_mono one (fun r s' z => ?_) fun _ _ e => e)
    obtain ⟨v, rfl, hq⟩ := z
    exact wpAny_pure hq
  · refine wpAny_bind (wpAny_pure ?_)
    simp only [Bool.false_eq_true, if_false]
    refine wpAny_bind (wpAny_mono one (fun r s' z => ?_) fun _ _ e => e)
    obtain ⟨v, rfl, hq⟩ := z
    exact wpAny_pure hq
end
end PdK
namespace Pd
open PySem PySem.Spec PyProof.Rows L2
/-! ### data -/
mutual
def D.py : D → PyData
  | .bl b => .bool b
  | .int i => .int i
  | .str s => .str (SS s)
  | .tup xs => .tuple (D.pys xs)
  | .fl xs => .list (D.pys xs)
  | _ => .none
def D.pys : List D → List PyData
  | [] => []
  | x :: r => D.py x :: D.pys r
end
theorem SS_ok {s : List Nat} (h : s.all (Nat.blt · 128) = true) : PyData.strOk (SS s) = true := by
  unfold PyData.strOk
  rw [Array.all_eq_true']
  intro x hx
  have hx : x ∈ s := by simpa using hx
  have := List.all_eq_true.mp h x hx
  have : x < 128 := Nat.le_of_ble_eq_true this
  simp
  omega
theorem SS_beq (a b : List Nat) : (SS a == SS b) = (a == b) := by
  by_cases h : a = b
  · subst h
    simp
  · have h2 : SS a ≠ SS b := fun e => h (by
      have := congrArg (fun z : Str => z.cps.toList) e
      simpa using this)
    rw [beq_eq_false_iff_ne.mpr h, beq_eq_false_iff_ne.mpr h2]
mutual
theorem py_lay : ∀ (n : Nat) (d : D), D.plain n d = true → (D.py d).canLay0 = true ∧ (D.py d).depth ≤ n
  | n, .non, h => ⟨by simp [D.py, PyData.canLay0], by simp [D.py, PyData.depth]⟩
  | n, .bl _, h => ⟨by simp [D.py, PyData.canLay0], by simp [D.py, PyData.depth]⟩
  | n, .int _, h => ⟨by simp [D.py, PyData.canLay0], by simp [D.py, PyData.depth]⟩
  | n, .str s, h => ⟨by
      have h : s.all (Nat.blt · 128) = true := by cases n <;> exact h
      simp only [D.py, PyData.canLay0]
      exact SS_ok h, by simp [D.py, PyData.depth]⟩
  | 0, .tup xs, h => by cases h
  | 0, .fl xs, h => by cases h
  | n + 1, .tup xs, h => by
    obtain ⟨a, b⟩ := pys_lay n xs h
    exact ⟨by simp only [D.py, PyData.canLay0]; exact a, by simp only [D.py, PyData.depth]; omega⟩
  | n + 1, .fl xs, h => by
    obtain ⟨a, b⟩ := pys_lay n xs h
    exact ⟨by simp only [D.py, PyData.canLay0]; exact a, by simp only [D.py, PyData.depth]; omega⟩
  | n, .scr _, h => by cases n <;> cases h
  | n, .fd _, h => by cases n <;> cases h
  | n, .wd _, h => by cases n <;> cases h
  | n, .obj _ _, h => by cases n <;> cases h
  | n, .ref _, h => by cases n <;> cases h
  | n, .fn _, h => by cases n <;> cases h
  | n, .exn _ _, h => by cases n <;> cases h
theorem pys_lay : ∀ (n : Nat) (ds : List D), D.plains n ds = true → PyData.canLayAll0 (D.pys ds) = true ∧ PyData.depthAll (D.pys ds) ≤ n
  | n, [], h => ⟨by simp [D.pys, PyData.canLayAll0], by simp [D.pys, PyData.depthAll]⟩
  | n, d :: ds, h => by
    have h := Bool.and_eq_true_iff.mp (show (D.plain n d && D.plains n ds) = true by cases n <;> exact h)
    obtain ⟨a, b⟩ := py_lay n d h.1
    obtain ⟨a', b'⟩ := pys_lay n ds h.2
    exact ⟨by simp only [D.pys, PyData.canLayAll0]; rw [a, a']; rfl, by simp only [D.pys, PyData.depthAll]; omega⟩
end
theorem py_shaped {d : D} (h : D.plain 20 d = true) : SeqAt.shaped (D.py d) = true := by
  obtain ⟨a, b⟩ := py_lay 20 d h
  exact Bool.and_eq_true_iff.mpr ⟨a, decide_eq_true (by omega)⟩
section
variable {K : PySem.W.Frag} {w : World} {T : Tab} {H : Hp} {φ : Foot}
mutual
theorem Rel.dp : ∀ (n : Nat) (d : D) (v : V), D.plain n d = true → Rel K w T H φ d v → Dp K H v (D.py d)
  | n, .non, _, _, h => by cases h; exact .non
  | n, .bl _, _, _, h => by cases h; exact .bl _
  | n, .int _, _, _, h => by cases h; exact .int _
  | n, .str _, _, _, h => by cases h; exact .str _
  | 0, .tup xs, _, p, h => by cases p
  | 0, .fl xs, _, p, h => by cases p
  | n + 1, .tup xs, _, p, h => by
    cases h with
    | tup h1 h2 => exact .tup h1.sq (Rels.dp n xs _ p h2)
  | n + 1, .fl xs, _, p, h => by
    cases h with
    | fl h1 h2 => exact .lst h1.sq (Rels.dp n xs _ p h2)
  | n, .scr _, _, p, h => by cases n <;> cases p
  | n, .fd _, _, p, h => by cases n <;> cases p
  | n, .wd _, _, p, h => by cases n <;> cases p
  | n, .obj _ _, _, p, h => by cases n <;> cases p
  | n, .ref _, _, p, h => by cases n <;> cases p
  | n, .fn _, _, p, h => by cases n <;> cases p
  | n, .exn _ _, _, p, h => by cases n <;> cases p
theorem Rels.dp : ∀ (n : Nat) (ds : List D) (vs : List V), D.plains n ds = true → Rels K w T H φ ds vs → DpAll K H vs (D.pys ds)
  | n, [], _, _, h => by cases h; exact .nil
  | n, d :: ds, _, p, h => by
    have p := Bool.and_eq_true_iff.mp (show (D.plain n d && D.plains n ds) = true by cases n <;> exact p)
    cases h with
    | cons h1 h2 => exact .cons (Rel.dp n d _ p.1 h1) (Rels.dp n ds _ p.2 h2)
end
end
mutual
theorem deq_py : ∀ (n : Nat) (d e : D), D.plain n d = true → D.plain n e = true → PyData.eqv (D.py d) (D.py e) = D.deq d e
  | n, d, e, p, q => by
    cases n with
    | zero =>
      cases d <;> (try cases p) <;> cases e <;> (try cases q) <;> simp [D.py, D.deq, PyData.eqv, SS_beq, Bool.beq_eq_decide_eq]
    | succ n =>
      cases d <;> (try cases p) <;> cases e <;> (try cases q) <;> first
        | (simp only [D.py, D.deq, PyData.eqv]; exact deqs_py n _ _ p q)
        | simp [D.py, D.deq, PyData.eqv, SS_beq, Bool.beq_eq_decide_eq]
theorem deqs_py : ∀ (n : Nat) (ds es : List D), D.plains n ds = true → D.plains n es = true → PyData.eqvAll (D.pys ds) (D.pys es) = D.deqs ds es
  | n, ds, es, p, q => by
    cases ds with
    | nil => cases es <;> simp [D.pys, D.deqs, PyData.eqvAll]
    | cons d ds =>
      cases es with
      | nil => simp [D.pys, D.deqs, PyData.eqvAll]
      | cons e es =>
        have p := Bool.and_eq_true_iff.mp (show (D.plain n d && D.plains n ds) = true by cases n <;> exact p)
        have q := Bool.and_eq_true_iff.mp (show (D.plain n e && D.plains n es) = true by cases n <;> exact q)
        simp only [D.pys, D.deqs, PyData.eqvAll]
        rw [deq_py n d e p.1 q.1, deqs_py n ds es p.2 q.2]
end
end Pd

set_option maxHeartbeats 4000000
/-! Pd7: comparisons of instances, of tuples of such. -/
namespace PdK
open PySem PySem.SeqAt PyProof.Rows
open AutoSeq1 (wpAny_loadPart')
section
variable {prog : Program} {w : World} {A : Around} {R : Result → Shared → Prop}
theorem tuple_eqB (l b : Addr) (items items2 : Array Value) (n n2 : Nat) (dd dd2 : Option Addr) (sl sl2 : Array (Option Value)) (hsz : items.size = items2.size) (e : Nat → Bool) (I : Shared → Prop)
    (turn : ∀ i (h1 : i < items.size) (h2 : i < items2.size) s, (∀ j, j < i → e j = true) → I s → wpAny (model prog w) A.in1 (eqBool items[i] items2[i]) (fun r s' => r = e i ∧ I s') (fun e s' => R (.error e) s') s)
    (fin : ∀ s, I s → R (.ok (.ret (.bool ((List.range items.size).all e)))) s) {s : Shared} (hl1 : s.heap.get? l = some { cls := .type "tuple", dict := dd, data := .seq items n, slots := sl }) (hb1 : s.heap.get? b = some { cls := .type "tuple", dict := dd2, data := .seq items2 n2, slots := sl2 }) (h : I s) :
    wpAny (model prog w) A.in1 (Builtin.«tuple.__eq__» ⟨[.ref l, .ref b], []⟩) (GQ.FinOf prog w A R) (fun e s' => R (.error e) s') s := by
  have f2 := AutoSeq1.sub_tuple_tuple
  have hZ : (items.toList.zip items2.toList).length = items.size := by simp [hsz]
  have h0 := h
  obtain ⟨hp, g, d, tk, os⟩ := s
  wp_walk using wpAny_loadPart' hl1, wpAny_loadPart' hb1, wpAny_forIn_list _ (fun rest b s' => b.1 = none ∧ ∃ i, rest = (items.toList.zip items2.toList).drop i ∧ i ≤ items.size ∧ (∀ j, j < i → e j = true) ∧ I s') _
  case turn =>
    rintro ⟨y, x⟩ rest b s' ⟨hb', i, hz, hi, ha, hI⟩
    have hlt : i < (items.toList.zip items2.toList).length := by
      rcases Nat.lt_or_ge i (items.toList.zip items2.toList).length with h' | h'
      · exact h'
      · rw [List.drop_of_length_le h'] at hz; cases hz
    have h1 : i < items.size := hZ ▸ hlt
    have h2 : i < items2.size := hsz ▸ h1
    rw [List.drop_eq_getElem_cons hlt] at hz
    injection hz with hyx hrest
    have hy : y = items[i] := by have := congrArg Prod.fst hyx; simpa using this
    have hx : x = items2[i] := by have := congrArg Prod.snd hyx; simpa using this
    subst hy hx
    refine wpAny_bind (wpAny_mono (turn i h1 h2 s' ha hI) (fun r s2 q2 => ?_) fun _ _ x => x)
    obtain ⟨hr, q2⟩ := q2
    cases he : e i with
    | true =>
      rw [he] at hr
      subst hr
      wp_walk
      refine ⟨rfl, i + 1, hrest, h1, fun j hj => ?_, q2⟩
      by_cases hji : j = i
      · rw [hji]; exact he
      · exact ha j (by omega)
    | false =>
      rw [he] at hr
      subst hr
      have hR := fin s2 q2
      have : (List.range items.size).all e = false := by
        rw [List.all_eq_false]
        exact ⟨i, by simpa using h1, by rw [he]; exact Bool.false_ne_true⟩
      rw [this] at hR
      wp_walk
      simpa using hR
  case fin =>
    rintro ⟨b1, b2⟩ s' ⟨hb', i, hz, hi, ha, hI⟩
    simp only at hb'
    subst hb'
    have hge : items.size ≤ i := by
      rcases Nat.lt_or_ge i (items.toList.zip items2.toList).length with h' | h'
      · rw [List.drop_eq_getElem_cons h'] at hz; cases hz
      · exact hZ ▸ h'
    have hR := fin s' hI
    have : (List.range items.size).all e = true := by
      rw [List.all_eq_true]
      intro j hj
      exact ha j (by have : j < items.size := by simpa using hj
                     omega)
    rw [this] at hR
    wp_walk
    simpa [Builtin.Tuple.tupleCompareSizes, hsz] using hR
  case h =>
    exact ⟨rfl, 0, rfl, Nat.zero_le _, fun j hj => by omega, h0⟩
end
section
variable {prog : Program} {w : World} {A : Around} {E : Value → Shared → Prop} {s : Shared}
theorem rc_tupB {l b : Addr} {items items2 : Array Value} {Q : Value → Shared → Prop} (hsz : items.size = items2.size) (hu : A.units < cLine) (e : Nat → Bool) (I : Shared → Prop)
    (hl : s.heap.IsTuple l items) (hb : s.heap.IsTuple b items2)
    (turn : ∀ i (h1 : i < items.size) (h2 : i < items2.size) s, (∀ j, j < i → e j = true) → I s → wpAny (model prog w) A.in1 (eqBool items[i] items2[i]) (fun r s' => r = e i ∧ I s') E s)
    (fin : ∀ s, I s → Q (.bool ((List.range items.size).all e)) s) (h : I s) : wpAny (model prog w) A (richCompare .Eq (.ref l) (.ref b)) Q E s := by
  obtain ⟨⟨cls, dd, data, sl⟩, ho, hc, n, hd⟩ := id hl
  obtain ⟨⟨cls2, dd2, data2, sl2⟩, ho2, hc2, n2, hd2⟩ := id hb
  simp only at hc hd hc2 hd2
  subst hc hd hc2 hd2
  refine wpAny_richCompare_same_room (op := .Eq) ⟨_, ho, rfl⟩ ⟨_, ho2, rfl⟩ F.slot_tuple_eq (GQ.call_here F.slot_tuple_eq ⟨_, ho, rfl⟩ F.entry_tuple_eq (F.args_tuple_eq_2 _ _) ?_) hu
  exact tuple_eqB (R := wants (fun v s' => v ≠ .notImplemented ∧ Q v s') E) l b items items2 n n2 dd dd2 sl sl2 hsz e I turn (fun s' q => ⟨(fun x => nomatch x), fin s' q⟩) ho ho2 h
end
end PdK
namespace Pd
open PySem PySem.Spec PyProof.Rows L2
section
variable {X : Cx} {T : Tab} {W : WX} {lv : Nat} {cl : Call} {pins : List (Addr × Obj)} {σ : L2.St} {H : Hp} {s : Shared} {φ : Foot} {m : M} {d e : D} {x y : V} {v u : Value} {A : Around}
/-- what a comparison leaves behind -/
def After (X : Cx) (T : Tab) (pins : List (Addr × Obj)) (σ : L2.St) (H : Hp) (φ : Foot) (m : M) (s' : Shared) : Prop := ∃ H', Inv X pins σ H' s' ∧ Ext H φ H' φ ∧ Sim X.K X.w T H' φ m
theorem sameM_eq : ∀ {m m' : M}, sameM m m' = true → m' = m
  | [], [], _ => rfl
  | [], _ :: _, h => by cases h
  | _ :: _, [], h => by cases h
  | c :: r, d :: t, h => by
    have h := Bool.and_eq_true_iff.mp h
    rw [Cell.beq_eq _ _ h.1, sameM_eq h.2]
theorem shown_m {m m1 : M} {r : R D} {d : D} (h : shown m r = .ok d m1) : m1 = m := by
  cases r with
  | bad => cases h
  | exc c v m' =>
    have h : (bif oldOk m.length (hideM m) m' && D.under m.length v then (R.exc c v m : R D) else .bad) = .ok d m1 := h
    cases z : oldOk m.length (hideM m) m' && D.under m.length v with
    | true =>
      rw [z] at h
      cases h
    | false =>
      rw [z] at h
      cases h
  | ok d' m' =>
    have h : (bif Nat.beq m'.length m.length && oldOk m.length (hideM m) m' then (R.ok d' m : R D) else .bad) = .ok d m1 := h
    cases z : Nat.beq m'.length m.length && oldOk m.length (hideM m) m' with
    | true =>
      rw [z] at h
      cases h
      rfl
    | false =>
      rw [z] at h
      cases h
theorem eq_closed {c : Nat} {fs fs' : List D} {d : D} {m1 : M} (h1 : D.unders 0 fs = true) (h2 : D.unders 0 fs' = true) (h3 : eqPl T c = true) (h : specF T cl 0 (.obj c fs) [.obj c fs'] m = .ok d m1) : m1 = m := by
  unfold eqPl at h3
  unfold specF at h
  cases ek : T.clss[c]? with
  | none =>
    simp only [ek] at h
    cases h
  | some k =>
    simp only [ek] at h h3
    cases ef : lookN k.sp 0 with
    | none =>
      simp only [ef] at h
      cases h
    | some f =>
      simp only [ef] at h h3
      unfold callF at h
      cases eg : T.fns[f]? with
      | none =>
        simp only [eg] at h3
        cases h3
      | some g =>
        simp only [eg] at h h3
        obtain ⟨k1, k2⟩ := Bool.and_eq_true_iff.mp h3
        have k1 : g.keep = false := by
          cases hk : g.keep with
          | true =>
            rw [hk] at k1
            cases k1
          | false => rfl
        have k2 : g.dfl = [] := List.isEmpty_iff.mp k2
        cases ed : defaults g [.obj c fs, .obj c fs'] with
        | none =>
          simp only [ed] at h
          cases h
        | some l =>
          simp only [ed] at h
          have el : l = [.obj c fs, .obj c fs'] := by
            unfold defaults at ed
            rw [k2] at ed
            simp only [List.drop_nil, List.append_nil] at ed
            cases z : Nat.beq ([.obj c fs, .obj c fs'] : List D).length g.np with
            | true =>
              rw [z] at ed
              cases ed
              rfl
            | false =>
              rw [z] at ed
              cases ed
          have hu : D.unders 0 l = true := by
            rw [el]
            show (D.unders 0 fs && (D.unders 0 fs' && true)) = true
            rw [h1, h2]
            rfl
          rw [k1, hu] at h
          exact shown_m h
theorem eqO_there {b : Bool} {m' : M} (h : eqO T cl d e m = .ok b m') : m' = m ∧ ∃ c fs fs' k f, d = .obj c fs ∧ e = .obj c fs' ∧ T.clss[c]? = some k ∧ lookN k.sp 0 = some f ∧ callF T cl f [.obj c fs, .obj c fs'] m = .ok (.bl b) m := by
  unfold eqO at h
  split at h
  · rename_i c fs c' fs'
    cases er : specF T cl 0 (.obj c fs) [.obj c' fs'] m with
    | bad =>
      rw [er] at h
      cases h
    | exc _ _ _ =>
      rw [er] at h
      cases h
    | ok z m1 =>
      rw [er] at h
      cases z with
      | bl b' =>
        have h : (bif Nat.beq c c' && ((D.unders 0 fs && (D.unders 0 fs' && eqPl T c)) || sameM m m1) then (R.ok b' m : R Bool) else .bad) = .ok b m' := h
        cases z : Nat.beq c c' && ((D.unders 0 fs && (D.unders 0 fs' && eqPl T c)) || sameM m m1) with
        | false =>
          rw [z] at h
          cases h
        | true =>
          rw [z] at h
          cases h
          obtain ⟨z1, z2⟩ := Bool.and_eq_true_iff.mp z
          have e1 := Nat.eq_of_beq_eq_true z1
          subst e1
          have e2 : m1 = m := by
            rcases Bool.or_eq_true_iff.mp z2 with z2 | z2
            · obtain ⟨y1, y⟩ := Bool.and_eq_true_iff.mp z2
              obtain ⟨y2, y3⟩ := Bool.and_eq_true_iff.mp y
              exact eq_closed y1 y2 y3 er
            · exact sameM_eq z2
          subst e2
          refine ⟨rfl, c, fs, fs', ?_⟩
          unfold specF at er
          cases ek : T.clss[c]? with
          | none =>
            simp only [ek] at er
            cases er
          | some k =>
            simp only [ek] at er
            cases ef : lookN k.sp 0 with
            | none =>
              simp only [ef] at er
              cases er
            | some f =>
              simp only [ef] at er
              exact ⟨k, f, rfl, rfl, rfl, ef, er⟩
      | _ => cases h
  · cases h
/-- the callee's answer, a bool, nothing changed -/
theorem bool_sp {f : Nat} {ds : List D} {vs : List V} {b : Bool} (S : Sim X.K X.w T H φ m) (r : Rels X.K X.w T H φ ds vs) (h : callF T cl f ds m = .ok (.bl b) m) :
    spF X.K X.w T cl f vs H (fun v H' => v = .bl b ∧ Ext H φ H' φ ∧ Sim X.K X.w T H' φ m) fun _ _ _ => False := by
  refine callF_sp0 (W := fun _ _ _ _ => True) (σ := []) S r ?_
  rw [h]
  intro H' φ' e S' v rv
  cases rv
  obtain ⟨ψ, ep⟩ := e.pre
  have hl : ψ = [] := by
    have h1 := S'.len
    rw [ep, List.length_append, S.len] at h1
    exact List.eq_nil_of_length_eq_zero (by omega)
  rw [hl, List.append_nil] at ep
  subst ep
  exact ⟨rfl, e, S'⟩
theorem env_at (I : Inv X pins σ H s) (fr : A.frames = X.A.frames) : Env0 X.prog X.w X.K X.mg X.base A X.stack s H := by
  have e := I.env0
  exact ⟨by rw [fr]; exact e.frames, e.mod, e.bs, e.bsz, e.funs, e.frf, e.hok, e.bare⟩
/-- x == y by the own def, anywhere below -/
theorem run_eqC {f : Nat} {b : Bool} {ds : List D} {vs : List V} {us : List Value} (F : Fx X T W lv cl) (fr : A.frames = X.A.frames) (hr : Room lv A) (I : Inv X pins σ H s) (S : Sim X.K X.w T H φ m) (r : Rels X.K X.w T H φ ds vs) (rv : Vals vs us)
    (h : callF T cl f ds m = .ok (.bl b) m) : wpAny (model X.prog X.w) A (call (.ref (fnA X.K T f)) us) (fun r s' => r = .bool b ∧ After X T pins σ H φ m s') X.xe s := by
  refine wpAny_call (codeAny_mono (F.fn f A X.stack s H us vs _ _ hr (env_at I fr) rv (bool_sp S r h)) fun r s' hq => ?_)
  cases r with
  | error e => exact (CX_false hq).elim
  | ok fl =>
    cases fl with
    | ret u =>
      obtain ⟨z, H', I', rz, e, e1, S1⟩ := I.after hq
      subst e
      cases rz
      exact ⟨rfl, H', I', e1, S1⟩
    | next => exact False.elim hq
    | brk => exact False.elim hq
    | cont => exact False.elim hq
theorem run_eqO {b : Bool} {m' : M} (F : Fx X T W lv cl) (fr : A.frames = X.A.frames) (hr : Room lv A) (I : Inv X pins σ H s) (rx : RelV x v) (ry : RelV y u) (S : Sim X.K X.w T H φ m) (r : Rel X.K X.w T H φ d x) (r' : Rel X.K X.w T H φ e y)
    (h : eqO T cl d e m = .ok b m') : m' = m ∧ wpAny (model X.prog X.w) A (richCompare .Eq v u) (fun r s' => r = .bool b ∧ After X T pins σ H φ m s') X.xe s := by
  obtain ⟨rfl, c, fs, fs', k, f, rfl, rfl, ek, ef, h⟩ := eqO_there h
  refine ⟨rfl, ?_⟩
  obtain ⟨p, k', ox, od, rfl, rfl, ek', k0, J⟩ := obj_inst I r rx
  obtain ⟨p2, k2, ox2, od2, rfl, rfl, _, _, J2⟩ := obj_inst I r' ry
  rw [ek] at ek'
  cases ek'
  have K0 := F.tb.cls _ k ek k0
  obtain ⟨g1, g2⟩ := K0.sp 0 f (by decide) ef
  obtain ⟨mm, hF⟩ := I.fr
  refine PySem.W.cmp_K (op := .Eq) hr.units0 hF I.ok.mod.kin J J2.type (K0.nf c k ek k0) g1 g2 (wpAny_mono (run_eqC F fr hr I S (.cons r (.cons r' .nil)) (.cons rfl (.cons rfl .nil)) h) (fun v s' z => ?_) fun _ _ z => z)
  obtain ⟨rfl, z⟩ := z
  exact ⟨rfl, z⟩
theorem run_neO {b : Bool} {m' : M} (F : Fx X T W lv cl) (fr : A.frames = X.A.frames) (hr : Room (lv + 1) A) (I : Inv X pins σ H s) (rx : RelV x v) (ry : RelV y u) (S : Sim X.K X.w T H φ m) (r : Rel X.K X.w T H φ d x) (r' : Rel X.K X.w T H φ e y)
    (h : eqO T cl d e m = .ok b m') : m' = m ∧ wpAny (model X.prog X.w) A (richCompare .NotEq v u) (fun r s' => r = .bool (!b) ∧ After X T pins σ H φ m s') X.xe s := by
  obtain ⟨rfl, c, fs, fs', k, f, rfl, rfl, ek, ef, h⟩ := eqO_there h
  refine ⟨rfl, ?_⟩
  obtain ⟨p, k', ox, od, rfl, rfl, ek', k0, J⟩ := obj_inst I r rx
  obtain ⟨p2, k2, ox2, od2, rfl, rfl, _, _, J2⟩ := obj_inst I r' ry
  rw [ek] at ek'
  cases ek'
  have K0 := F.tb.cls _ k ek k0
  obtain ⟨g1, g2⟩ := K0.sp 0 f (by decide) ef
  obtain ⟨mm, hF⟩ := I.fr
  refine PdK.ne_K hr.units0 hr.in1.units0 hF I.ok.mod.kin J J2.type (K0.nf c k ek k0) K0.si.cm K0.ne g1 g2 (wpAny_mono (run_eqC F fr hr.in1 I S (.cons r (.cons r' .nil)) (.cons rfl (.cons rfl .nil)) h) (fun v s' z => ?_) fun _ _ z => z)
  obtain ⟨rfl, z⟩ := z
  exact ⟨b, rfl, rfl, z⟩
/-! ### apart -/
theorem aparts_at : ∀ {a b : List D}, D.aparts a b = true → ∃ (i : Nat) (x y : D), a[i]? = some x ∧ b[i]? = some y ∧ D.apart x y = true
  | [], _, h => by
    unfold D.aparts at h
    cases h
  | _ :: _, [], h => by
    unfold D.aparts at h
    cases h
  | a :: r, b :: t, h => by
    unfold D.aparts at h
    rcases Bool.or_eq_true_iff.mp h with h | h
    · exact ⟨0, a, b, rfl, rfl, h⟩
    · obtain ⟨i, x, y, h1, h2, h3⟩ := aparts_at h
      exact ⟨i + 1, x, y, by simpa using h1, by simpa using h2, h3⟩
theorem Rel.apart (I : Inv X pins σ H s) : ∀ (n : Nat) (d e : D) (x y : V) (u : Value), sizeOf d < n → D.apart d e = true → Rel X.K X.w T H φ d x → Rel X.K X.w T H φ e y → RelV x u → RelV y u → False
  | 0, _, _, _, _, _, h, _, _, _, _, _ => by omega
  | n + 1, d, e, x, y, u, hn, h, r, r', rx, ry => by
    cases d with
    | int i =>
      cases r
      cases e <;> (try (unfold D.apart at h; cases h))
      cases r'
      obtain ⟨t, rfl⟩ := rx
      obtain ⟨t', e⟩ := ry
      cases e
      simp [D.apart] at h
    | str i =>
      cases r
      cases e <;> (try (unfold D.apart at h; cases h))
      cases r'
      obtain ⟨t, rfl⟩ := rx
      obtain ⟨t', e⟩ := ry
      injection e with e _
      have := congrArg (fun q : Str => q.cps.toList) e
      simp [D.apart] at h
      exact h (by simpa using this)
    | bl i =>
      cases r
      cases e <;> (try (unfold D.apart at h; cases h))
      cases r'
      cases rx
      cases ry
      simp [D.apart] at h
    | obj c fs =>
      cases e <;> (try (unfold D.apart at h; cases h))
      rename_i c' fs'
      unfold D.apart at h
      obtain ⟨i, a, b, ha, hb, hab⟩ := aparts_at h
      cases r with
      | @obj p dx _ k _ vs sl h1 h2 h3 h4 h5 h6 h7 h8 h9 =>
        cases r' with
        | @obj p' dx' _ k' _ vs' sl' g1 g2 g3 g4 g5 g6 g7 g8 g9 =>
          obtain rfl : u = Value.ref p := rx
          obtain rfl : p = p' := Value.ref.inj ry
          obtain ⟨va, e1, r1⟩ := h7.get ha
          obtain ⟨vb, e2, r2⟩ := g7.get hb
          have q1 := h9 i va e1
          have q2 := g9 i vb e2
          obtain ⟨arr, od, z1, J1, _⟩ := SlX.slt_inst I (.inr ⟨h5, h6⟩)
          obtain ⟨arr', od', z2, J2, _⟩ := SlX.slt_inst I (.inr ⟨g5, g6⟩)
          have ea : arr = arr' := by
            have := J1.at_.symm.trans J2.at_
            injection this with this
            injection this
          subst ea
          obtain ⟨ua, w1, w2⟩ := z1 i va q1
          obtain ⟨ub, w3, w4⟩ := z2 i vb q2
          rw [w1] at w3
          cases w3
          refine Rel.apart I n a b va vb ua ?_ hab r1 r2 w2 w4
          have h10 : sizeOf a < sizeOf fs := List.sizeOf_lt_of_mem (List.mem_of_getElem? ha)
          simp only [D.obj.sizeOf_spec] at hn
          omega
    | _ => cases e <;> (unfold D.apart at h; cases h)

/-! ### items of tuples -/
theorem eqP_plain {b : Bool} {m' : M} (h : eqP d e m = .ok b m') : m' = m ∧ D.plain 20 d = true ∧ D.plain 20 e = true ∧ b = D.deq d e := by
  unfold eqP peq at h
  cases z : D.plain 20 d && D.plain 20 e with
  | false =>
    rw [z] at h
    cases h
  | true =>
    rw [z] at h
    cases h
    obtain ⟨a, b⟩ := Bool.and_eq_true_iff.mp z
    exact ⟨rfl, a, b, rfl⟩
theorem room_units {k n : Nat} {A : Around} (h : Room (k + n) A) (hn : n ≤ 9) : A.units < cLine := h.units0
/-- == of plain data within a builtin -/
theorem run_eqP {n k : Nat} (hn : A.units + n < cLine) (hk : n = 20) (I : Inv X pins σ H s) (rx : RelV x v) (ry : RelV y u) (r : Rel X.K X.w T H φ d x) (r' : Rel X.K X.w T H φ e y) (p : D.plain 20 d = true) (q : D.plain 20 e = true) : SeqAt.EqAt A s v u (D.deq d e) := by
  obtain ⟨as, r1⟩ := Dp.reads I (D.py d) x v (Rel.dp 20 d x p r) rx
  obtain ⟨bs, r2⟩ := Dp.reads I (D.py e) y u (Rel.dp 20 e y q r') ry
  obtain ⟨l1, d1⟩ := py_lay 20 d p
  obtain ⟨l2, d2⟩ := py_lay 20 e q
  rw [← deq_py 20 d e p q]
  exact SeqAt.eqAt_reads _ _ A s v u as bs r1 r2 l1 l2 (by omega)
theorem eq1_obj {c : Nat} {fs : List D} {b : Bool} {m' : M} (h : eq1 T cl (.obj c fs) e m = .ok b m') : eqO T cl (.obj c fs) e m = .ok b m' ∧ (b || D.apart (.obj c fs) e) = true := by
  have h : ((eqO T cl (.obj c fs) e m).bind fun b m => bif b || D.apart (.obj c fs) e then (.ok b m : R Bool) else .bad) = .ok b m' := h
  cases er : eqO T cl (.obj c fs) e m with
  | bad =>
    rw [er] at h
    cases h
  | exc _ _ _ =>
    rw [er] at h
    cases h
  | ok z m1 =>
    rw [er] at h
    have h : (bif z || D.apart (.obj c fs) e then (.ok z m1 : R Bool) else .bad) = .ok b m' := h
    cases y : z || D.apart (.obj c fs) e with
    | false =>
      rw [y] at h
      cases h
    | true =>
      rw [y] at h
      cases h
      exact ⟨rfl, y⟩
theorem After.refl (I : Inv X pins σ H s) (S : Sim X.K X.w T H φ m) : After X T pins σ H φ m s := ⟨H, I, Ext.refl _ _, S⟩
theorem run_eq1 {b : Bool} {m' : M} (F : Fx X T W lv cl) (fr : A.frames = X.A.frames) (hr : Room lv A) (hu : A.units + 20 < cLine) (I : Inv X pins σ H s) (rx : RelV x v) (ry : RelV y u) (S : Sim X.K X.w T H φ m) (r : Rel X.K X.w T H φ d x) (r' : Rel X.K X.w T H φ e y)
    (h : eq1 T cl d e m = .ok b m') : m' = m ∧ wpAny (model X.prog X.w) A (eqBool v u) (fun r s' => r = b ∧ After X T pins σ H φ m s') X.xe s := by
  by_cases ho : ∃ c fs, d = .obj c fs
  · obtain ⟨c, fs, rfl⟩ := ho
    obtain ⟨h1, hb⟩ := eq1_obj h
    obtain ⟨em, hw⟩ := run_eqO F fr hr I rx ry S r r' h1
    refine ⟨em, ?_⟩
    obtain ⟨_, _, fs', _, _, _, _, he, _⟩ := eqO_there h1
    obtain ⟨_, c', _, fs', k, f, e1, e2, ek, ef, _⟩ := eqO_there h1
    subst e2
    obtain ⟨p, k', ox, od, rfl, rfl, ek', k0, J⟩ := obj_inst I r rx
    obtain ⟨p2, k2, ox2, od2, rfl, rfl, _, _, J2⟩ := obj_inst I r' ry
    by_cases hpp : p = p2
    · subst hpp
      have bt : b = true := by
        cases b with
        | true => rfl
        | false => exact (Rel.apart I _ _ _ _ _ _ (Nat.lt_succ_self _) hb r r' rfl rfl).elim
      subst bt
      exact SeqAt.EqAt.same (A := A) (s := s) (.ref p) X.prog X.w X.xe _ ⟨rfl, After.refl I S⟩
    · exact GQ.eqBool_refG hpp (wpAny_mono hw (fun v s' z => ⟨b, z.1, rfl, z.2⟩) fun _ _ z => z)
  · have h : eqP d e m = .ok b m' := by
      cases d with
      | obj c fs => exact (ho ⟨c, fs, rfl⟩).elim
      | _ => exact h
    obtain ⟨em, p, q, eb⟩ := eqP_plain h
    subst eb
    exact ⟨em, run_eqP (n := 20) (k := 0) hu rfl I rx ry r r' p q X.prog X.w X.xe _ ⟨rfl, After.refl I S⟩⟩
/-- the items' answers, one behind the other -/
theorem items_all : ∀ (ds es : List D) (b : Bool) (m' : M), ds.length = es.length → eqItems T cl ds es m = .ok b m' → m' = m ∧ ∃ f : Nat → Bool, b = (List.range ds.length).all f ∧
    ∀ (i : Nat) d e, (∀ j, j < i → f j = true) → ds[i]? = some d → es[i]? = some e → eq1 T cl d e m = .ok (f i) m
  | [], [], b, m', _, h => by
    cases h
    exact ⟨rfl, fun _ => true, rfl, fun i d e _ h => by simp at h⟩
  | [], _ :: _, _, _, _, h => by cases h
  | _ :: _, [], _, _, _, h => by cases h
  | d :: ds, e :: es, b, m', hl, h => by
    have h : ((eq1 T cl d e m).bind fun z m => bif z then eqItems T cl ds es m else .ok false m) = .ok b m' := h
    cases er : eq1 T cl d e m with
    | bad =>
      rw [er] at h
      cases h
    | exc _ _ _ =>
      rw [er] at h
      cases h
    | ok z m1 =>
      have em : m1 = m := by
        by_cases ho : ∃ c fs, d = .obj c fs
        · obtain ⟨c, fs, rfl⟩ := ho
          exact (eqO_there (eq1_obj er).1).1
        · have h : eqP d e m = .ok z m1 := by
            cases d with
            | obj c fs => exact (ho ⟨c, fs, rfl⟩).elim
            | _ => exact er
          exact (eqP_plain h).1
      have em := em.symm
      subst em
      rw [er] at h
      cases z with
      | false =>
        have h : (R.ok false m : R Bool) = .ok b m' := h
        cases h
        refine ⟨rfl, fun _ => false, by rw [List.length_cons, List.range_succ_eq_map]; rfl, fun i d' e' hj h1 h2 => ?_⟩
        cases i with
        | zero =>
          simp at h1 h2
          subst h1
          subst h2
          exact er
        | succ i => exact absurd (hj 0 (by omega)) Bool.false_ne_true
      | true =>
        have h : eqItems T cl ds es m = .ok b m' := h
        obtain ⟨a1, f, a3, a4⟩ := items_all ds es b m' (by simpa using hl) h
        refine ⟨a1, fun i => match i with | 0 => true | i + 1 => f i, ?_, fun i d' e' hj h1 h2 => ?_⟩
        · rw [a3, List.length_cons, List.range_succ_eq_map]
          simp [List.all_map, Function.comp_def]
        · cases i with
          | zero =>
            simp at h1 h2
            subst h1
            subst h2
            exact er
          | succ i => exact a4 i d' e' (fun j hj' => hj (j + 1) (by omega)) (by simpa using h1) (by simpa using h2)
theorem Fx.units (F : Fx X T W lv cl) : X.A.units + 65 < cLine := by
  have := F.room.un
  omega
/-- x == y -/
theorem run_eqF {b : Bool} {m' : M} (F : Fx X T W lv cl) (I : Inv X pins σ H s) (rx : RelV x v) (ry : RelV y u) (S : Sim X.K X.w T H φ m) (r : Rel X.K X.w T H φ d x) (r' : Rel X.K X.w T H φ e y)
    (h : eqF T cl d e m = .ok b m') : m' = m ∧ wpAny (model X.prog X.w) X.A (compareOp .Eq v u) (fun r s' => r = .bool b ∧ After X T pins σ H φ m s') X.xe s := by
  have hu := F.units
  have hrm : Room (lv + 1) X.A := F.room.mono (by omega)
  have plain : ∀ {d e : D} {x y : V} {v u : Value}, RelV x v → RelV y u → Rel X.K X.w T H φ d x → Rel X.K X.w T H φ e y → D.plain 20 d = true → D.plain 20 e = true →
      wpAny (model X.prog X.w) X.A (compareOp .Eq v u) (fun r s' => r = .bool (D.deq d e) ∧ After X T pins σ H φ m s') X.xe s := fun {d e x y v u} rx ry r r' p q => by
    obtain ⟨as, r1⟩ := Dp.reads I (D.py d) x v (Rel.dp 20 d x p r) rx
    obtain ⟨bs, r2⟩ := Dp.reads I (D.py e) y u (Rel.dp 20 e y q r') ry
    have hu2 : X.A.units + 64 < cLine := by omega
    refine SeqAt.compareEq_shaped r1 r2 (py_shaped p) (py_shaped q) hu2 ⟨?_, After.refl I S⟩
    rw [deq_py 20 d e p q]
  unfold eqF at h
  split at h
  · obtain ⟨em, hw⟩ := run_eqO F rfl (hrm.mono (by omega)) I rx ry S r r' h
    exact ⟨em, hw⟩
  · rename_i xs ys
    cases z : D.plains 19 xs && D.plains 19 ys with
    | true =>
      rw [z] at h
      cases h
      obtain ⟨p, q⟩ := Bool.and_eq_true_iff.mp z
      have := plain rx ry r r' (show D.plain 20 (.tup xs) = true from p) (show D.plain 20 (.tup ys) = true from q)
      exact ⟨rfl, this⟩
    | false =>
      rw [z] at h
      have h : (bif Nat.beq xs.length ys.length then eqItems T cl xs ys m else .bad) = .ok b m' := h
      cases zl : Nat.beq xs.length ys.length with
      | false =>
        rw [zl] at h
        cases h
      | true =>
        rw [zl] at h
        have hl := Nat.eq_of_beq_eq_true zl
        obtain ⟨em, f, eb, hf⟩ := items_all xs ys b m' hl h
        subst em
        refine ⟨rfl, ?_⟩
        cases r with
        | @tup p _ vs a1 a2 =>
          cases r' with
          | @tup p2 _ ws b1 b2 =>
            obtain rfl : v = Value.ref p := rx
            obtain rfl : u = Value.ref p2 := ry
            obtain ⟨its, rv, pe, pz⟩ := I.tuple a1.sq
            obtain ⟨its2, rv2, pe2, pz2⟩ := I.tuple b1.sq
            have l1 := a2.length
            have l2 := b2.length
            have l3 := rv.length
            have l4 := rv2.length
            have hsz : its.toArray.size = its2.toArray.size := by simp; omega
            refine PdK.rc_tupB hsz F.room.units0 f (fun s' => After X T pins σ H φ m' s') pe pe2 (fun i h1 h2 s' hj hI => ?_) (fun s' hI => ⟨?_, hI⟩) (After.refl I S)
            · obtain ⟨H1, I1, e1, S1⟩ := hI
              have h1' : i < its.length := by simpa using h1
              have h2' : i < its2.length := by simpa using h2
              obtain ⟨vi, q1, q2⟩ := a2.get (List.getElem?_eq_getElem (show i < xs.length by omega))
              obtain ⟨wi, q3, q4⟩ := b2.get (List.getElem?_eq_getElem (show i < ys.length by omega))
              obtain ⟨ui, u1, u2⟩ := rv.get q1
              obtain ⟨ti, t1, t2⟩ := rv2.get q3
              have g1 : its.toArray[i] = ui := by
                rw [List.getElem?_eq_getElem h1'] at u1
                simpa using u1
              have g2 : its2.toArray[i] = ti := by
                rw [List.getElem?_eq_getElem h2'] at t1
                simpa using t1
              rw [g1, g2]
              have h9 := hf i _ _ hj (List.getElem?_eq_getElem (show i < xs.length by omega)) (List.getElem?_eq_getElem (show i < ys.length by omega))
              obtain ⟨_, hw⟩ := run_eq1 (A := X.A.in1) F rfl hrm.in1 (by show X.A.units + 1 + 20 < cLine; omega) I1 u2 t2 S1 (q2.mono e1) (q4.mono e1) h9
              refine wpAny_mono hw (fun r s2 z => ?_) fun _ _ z => z
              obtain ⟨z1, H2, I2, e2, S2⟩ := z
              exact ⟨z1, H2, I2, e1.trans e2, S2⟩
            · rw [eb]
              have e9 : its.toArray.size = xs.length := by
                rw [List.size_toArray]
                omega
              rw [e9]
  · have h : eqP d e m = .ok b m' := h
    obtain ⟨em, p, q, eb⟩ := eqP_plain h
    subst eb
    exact ⟨em, plain rx ry r r' p q⟩

/-! ### any comparison -/
theorem bind_ok {α β : Type} {r : R α} {f : α → M → R β} {b : β} {m' : M} (h : r.bind f = .ok b m') : ∃ a m1, r = .ok a m1 ∧ f a m1 = .ok b m' := by
  cases r with
  | ok a m1 => exact ⟨a, m1, rfl, h⟩
  | exc _ _ _ => cases h
  | bad => cases h
theorem run_neF {b : Bool} {m' : M} (F : Fx X T W lv cl) (I : Inv X pins σ H s) (rx : RelV x v) (ry : RelV y u) (S : Sim X.K X.w T H φ m) (r : Rel X.K X.w T H φ d x) (r' : Rel X.K X.w T H φ e y)
    (h : neF T cl d e m = .ok b m') : m' = m ∧ wpAny (model X.prog X.w) X.A (compareOp .NotEq v u) (fun r s' => r = .bool b ∧ After X T pins σ H φ m s') X.xe s := by
  have hu := F.units
  have hrm : Room (lv + 1) X.A := F.room.mono (by omega)
  unfold neF at h
  split at h
  · obtain ⟨b1, m1, h1, h2⟩ := bind_ok h
    obtain ⟨em, hw⟩ := run_neO F rfl hrm I rx ry S r r' h1
    cases h2
    exact ⟨em, hw⟩
  · obtain ⟨b1, m1, h1, h2⟩ := bind_ok h
    obtain ⟨em, p, q, eb⟩ := eqP_plain h1
    cases h2
    subst em
    obtain ⟨as, r1⟩ := Dp.reads I (D.py d) x v (Rel.dp 20 d x p r) rx
    obtain ⟨bs, r2⟩ := Dp.reads I (D.py e) y u (Rel.dp 20 e y q r') ry
    have hu2 : X.A.units + 64 < cLine := by omega
    refine ⟨rfl, SeqAt.compareNe_shaped r1 r2 (py_shaped p) (py_shaped q) hu2 ⟨?_, After.refl I S⟩⟩
    rw [deq_py 20 d e p q, eb]
end
end Pd

set_option maxHeartbeats 4000000
/-! Pd8: operators and comparisons as expressions. -/
namespace Pd
open PySem PySem.Spec PyProof.Rows L2
section
variable {X : Cx} {T : Tab} {W : WX} {lv : Nat} {cl : Call} {pins : List (Addr × Obj)} {σ : L2.St} {H : Hp} {s : Shared} {φ : Foot} {m : M} {d e : D} {x y : V} {v u : Value} {A : Around} {Q : VK}
theorem Post.ok_of {α : Type} {r : R α} {P : α → M → Hp → Foot → Prop} (h : Post X.K X.w T W σ H φ (noexc r) P) : ∃ a m', r = .ok a m' ∧ Post X.K X.w T W σ H φ (.ok a m') P := by
  cases r with
  | ok a m' => exact ⟨a, m', rfl, h⟩
  | exc _ _ _ => exact False.elim h
  | bad => exact False.elim h
theorem After.ep {s' : Shared} {b : Bool} {r : Value} {P : Bool → M → Hp → Foot → Prop} (S : Sim X.K X.w T H φ m) (a : After X T pins σ H φ m s') (e : r = .bool b) (h : Post X.K X.w T W σ H φ (.ok b m) P) (k : ∀ m' H' φ', P b m' H' φ' → Q (.bl b) H') : EP X pins σ Q r s' := by
  obtain ⟨H', I, e1, S1⟩ := a
  subst e
  exact ⟨.bl b, H', I, rfl, k _ _ _ (h H' φ e1 S1)⟩
theorem Rel.non_iff (r : Rel X.K X.w T H φ d x) : decide (x = .non) = (match (generalizing := false) d with | .non => true | _ => false) := by
  cases r <;> rfl
/-- a list or tuple, what its items are -/
theorem items_sq {xs : List D} (S : Sim X.K X.w T H φ m) (r : Rel X.K X.w T H φ d x) (h : itemsOf m d = some xs) : ∃ p vs, x = .ref p ∧ (SqL X.K H p vs ∨ SqT X.K H p vs) ∧ Rels X.K X.w T H φ xs vs := by
  cases d with
  | tup ys =>
    cases h
    cases r with
    | tup a b => exact ⟨_, _, rfl, .inr a.sq, b⟩
  | fl ys =>
    cases h
    cases r with
    | fl a b => exact ⟨_, _, rfl, .inl a.sq, b⟩
  | scr ys =>
    cases h
    cases r with
    | scr a b => exact ⟨_, _, rfl, .inl a.sq, b⟩
  | ref a =>
    cases r with
    | @ref _ p q b hq =>
      obtain ⟨c, ec, C⟩ := S.there hq
      have h : (match m[a]? with
        | some (.lst xs) => some xs
        | _ => none) = some xs := h
      rw [ec] at h
      cases c with
      | lst ys =>
        cases h
        obtain ⟨_, _, vs, hp, rs⟩ := C
        exact ⟨p, vs, rfl, .inl (.inl (.inl hp)), rs⟩
      | _ => cases h
  | _ => cases h
theorem flat_rel (r : Rel X.K X.w T H φ d x) (h : isFlat d = true) : flatV x = true := by
  cases r <;> first | rfl | cases h
theorem flats_rel : ∀ {xs : List D} {vs : List V}, Rels X.K X.w T H φ xs vs → xs.all isFlat = true → vs.all flatV = true
  | [], _, r, _ => by cases r; rfl
  | x :: xs, _, r, h => by
    cases r with
    | cons r1 r2 =>
      rw [List.all_cons, Bool.and_eq_true] at h ⊢
      exact ⟨flat_rel r1 h.1, flats_rel r2 h.2⟩
theorem eqV_deq (r : Rel X.K X.w T H φ d x) (r' : Rel X.K X.w T H φ e y) (h : isFlat d = true) (h' : isFlat e = true) : eqV x y = D.deq d e := by
  cases r <;> (try cases h) <;> cases r' <;> (try cases h') <;> simp [eqV, D.deq, SS_beq, Bool.beq_eq_decide_eq]
theorem inV_deq (r : Rel X.K X.w T H φ d x) (h : isFlat d = true) : ∀ {xs : List D} {vs : List V}, Rels X.K X.w T H φ xs vs → xs.all isFlat = true → inV x vs = xs.any fun z => D.deq z d
  | [], _, r, _ => by cases r; rfl
  | z :: xs, _, rs, hs => by
    cases rs with
    | cons r1 r2 =>
      rw [List.all_cons, Bool.and_eq_true] at hs
      have ih := inV_deq r h r2 hs.2
      unfold inV at ih ⊢
      rw [List.any_cons, List.any_cons, ih, eqV_deq r1 r hs.1 h]
def keyV : D → Key
  | .str z => Sum.inr (SS z)
  | .int i => Sum.inl i
  | _ => Sum.inl 0
theorem keyV_rel (r : Rel X.K X.w T H φ d x) (h : keyOk d = true) : x = kV (keyV d) := by
  cases r <;> first | rfl | cases h
theorem keyV_inj {a b : D} (ha : keyOk a = true) (hb : keyOk b = true) : D.beq a b = decide (keyV a = keyV b) := by
  cases a <;> (try cases ha) <;> cases b <;> (try cases hb) <;> simp [D.beq, keyV, Bool.beq_eq_decide_eq]
/-- a key's value in a tracked dict -/
theorem dget_rel (hk : keyOk d = true) : ∀ {kvs : List (D × D)} {ks : List (Key × V)}, RelK X.K X.w T H φ kvs ks → (dget kvs d = none ∧ valV ks (keyV d) = none) ∨ ∃ z v, dget kvs d = some z ∧ valV ks (keyV d) = some v ∧ Rel X.K X.w T H φ z v
  | [], _, r => by
    cases r
    exact .inl ⟨rfl, rfl⟩
  | (a, b) :: kvs, _, r => by
    have go : ∀ {k : Key} {v : V} {ks : List (Key × V)}, keyOk a = true → k = keyV a → Rel X.K X.w T H φ b v → RelK X.K X.w T H φ kvs ks →
        (dget ((a, b) :: kvs) d = none ∧ valV ((k, v) :: ks) (keyV d) = none) ∨ ∃ z w, dget ((a, b) :: kvs) d = some z ∧ valV ((k, v) :: ks) (keyV d) = some w ∧ Rel X.K X.w T H φ z w := fun {k v ks} ha ek r1 r2 => by
      subst ek
      by_cases q : keyV a = keyV d
      · refine .inr ⟨b, v, ?_, valV_pos q, r1⟩
        show (bif D.beq a d then some b else dget kvs d) = some b
        rw [keyV_inj ha hk, decide_eq_true q]
        rfl
      · have e1 : dget ((a, b) :: kvs) d = dget kvs d := by
          show (bif D.beq a d then some b else dget kvs d) = dget kvs d
          rw [keyV_inj ha hk, decide_eq_false q]
          rfl
        rw [e1, valV_neg q]
        exact dget_rel hk r2
    cases r with
    | consS r1 r2 => exact go rfl rfl r1 r2
    | consI r1 r2 => exact go rfl rfl r1 r2
theorem bifR {b : Bool} {z : Bool} {m m' : M} {c : Nat} {v : D} (h : (bif b then (R.ok z m : R Bool) else .bad) = .exc c v m') : False := by
  cases b <;> cases h
theorem inF_noexc : ∀ (d e : D) (m : M) (c : Nat) (v : D) (m' : M), inF d e m ≠ .exc c v m' := fun d e m c v m' h => by
  unfold inF at h
  repeat' (split at h)
  all_goals first
    | cases h
    | exact bifR h
/-- x in y, x not in y -/
theorem run_in (F : Fx X T W lv cl) (neg : Bool) (I : Inv X pins σ H s) (rx : RelV x v) (ry : RelV y u) (S : Sim X.K X.w T H φ m) (r : Rel X.K X.w T H φ d x) (r' : Rel X.K X.w T H φ e y)
    {b : Bool} {m' : M} (h : inF d e m = .ok b m') : m' = m ∧ wpAny (model X.prog X.w) X.A (compareOp (if neg then .NotIn else .In) v u) (fun r s' => r = .bool (if neg then !b else b) ∧ After X T pins σ H φ m s') X.xe s := by
  have hu := F.units
  have hu1 : X.A.units + 1 < cLine := by omega
  have out : ∀ {o : V → Hp → Prop} {z : Bool} {r : Value} {s' : Shared}, EP X pins σ (fun w H' => w = .bl z ∧ H' = H) r s' → r = .bool z ∧ After X T pins σ H φ m s' := fun {o z r s'} ⟨w, H', I', rw_, ew, eh⟩ => by
    subst ew
    subst eh
    cases rw_
    exact ⟨rfl, After.refl I' S⟩
  have seq : ∀ {xs : List D}, itemsOf m e = some xs → isFlat d = true → xs.all isFlat = true → b = (xs.any fun z => D.deq z d) →
      wpAny (model X.prog X.w) X.A (compareOp (if neg then .NotIn else .In) v u) (fun r s' => r = .bool (if neg then !b else b) ∧ After X T pins σ H φ m s') X.xe s := fun {xs} hi hf hfs eb => by
    obtain ⟨p, vs, ey, hs, rs⟩ := items_sq S r' hi
    have e1 := inV_deq r hf rs hfs
    cases neg with
    | false =>
      exact wpAny_mono (op_in_seq pins s σ H x y v u (fun w H' => w = .bl b ∧ H' = H) I rx ry ⟨p, vs, ey, hs, flat_rel r hf, flats_rel rs hfs, by simp [e1, eb], rfl⟩) (fun _ _ z => out (o := fun _ _ => True) z) fun _ _ z => z
    | true =>
      exact wpAny_mono (op_notIn_seq pins s σ H x y v u (fun w H' => w = .bl (!b) ∧ H' = H) I rx ry ⟨p, vs, ey, hs, flat_rel r hf, flats_rel rs hfs, by simp [e1, eb], rfl⟩) (fun _ _ z => out (o := fun _ _ => True) z) fun _ _ z => z
  unfold inF at h
  split at h
  · rename_i z
    split at h
    · rename_i c
      cases h
      cases r
      cases r'
      refine ⟨rfl, ?_⟩
      cases neg with
      | false => exact wpAny_mono (op_in_sign pins s σ H _ _ v u (fun w H' => w = .bl (decide (c ∈ z)) ∧ H' = H) I rx ry ⟨c, SS z, rfl, rfl, rfl, rfl⟩) (fun _ _ z => out (o := fun _ _ => True) z) fun _ _ z => z
      | true => exact wpAny_mono (op_notIn_sign pins s σ H _ _ v u (fun w H' => w = .bl (!decide (c ∈ z)) ∧ H' = H) I rx ry ⟨c, SS z, rfl, rfl, rfl, rfl⟩) (fun _ _ z => out (o := fun _ _ => True) z) fun _ _ z => z
    · cases h
  · rename_i kvs
    cases zk : keyOk d with
    | false =>
      rw [zk] at h
      cases h
    | true =>
      rw [zk] at h
      cases h
      refine ⟨rfl, ?_⟩
      cases r' with
      | @fdK p _ ks n1 h1 h2 =>
        obtain rfl : u = Value.ref p := ry
        have g : DGet H p x (valV ks (keyV d)) := .inl ⟨ks, keyV d, .inl h1, keyV_rel r zk, rfl⟩
        have eb : (valV ks (keyV d)).isSome = (dget kvs d).isSome := by
          rcases dget_rel zk h2 with ⟨a, b⟩ | ⟨z, v, a, b, _⟩
          · rw [a, b]; rfl
          · rw [a, b]; rfl
        cases neg with
        | false => exact d_in hu1 I g rx fun s' I' => ⟨by simp [eb], After.refl I' S⟩
        | true => exact d_notIn hu1 I g rx fun s' I' => ⟨by simp [eb], After.refl I' S⟩
  · rename_i kvs
    cases zk : isStrD d && strKeys kvs with
    | false =>
      rw [zk] at h
      cases h
    | true =>
      rw [zk] at h
      cases h
      refine ⟨rfl, ?_⟩
      obtain ⟨z1, z2⟩ := Bool.and_eq_true_iff.mp zk
      cases d with
      | str z =>
        cases r
        cases r' with
        | @wdS p _ hw =>
          have hlow := hw.2.1
          have hw := hw.2.2 z
          have both : ∃ es n ro, KDict X.K X.w p es n ∧ PySem.W.nsIn X.K p (SS z) = some ro ∧ ro.isSome = (dget kvs (.str z)).isSome := by
            cases ed : dget kvs (.str z) with
            | none =>
              rw [ed] at hw
              obtain ⟨es, n, a1, a2, a3, a4⟩ := hw
              exact ⟨es, n, none, ⟨a1, a2, a3⟩, a4, rfl⟩
            | some q =>
              rw [ed] at hw
              cases q with
              | str y =>
                obtain ⟨es, n, uu, a1, a2, a3, a4⟩ := hw
                exact ⟨es, n, some uu, ⟨a1, a2, hlow⟩, a3, rfl⟩
              | _ => exact hw.elim
          obtain ⟨es, n, ro, D, en, er⟩ := both
          cases neg with
          | false => exact wpAny_mono (op_in_kd D pins s σ H _ _ v u (fun w H' => w = .bl (dget kvs (.str z)).isSome ∧ H' = H) I rx ry ⟨SS z, ro, rfl, rfl, en, by rw [er], rfl⟩) (fun _ _ z => out (o := fun _ _ => True) z) fun _ _ z => z
          | true => exact wpAny_mono (op_notIn_kd D pins s σ H _ _ v u (fun w H' => w = .bl (!(dget kvs (.str z)).isSome) ∧ H' = H) I rx ry ⟨SS z, ro, rfl, rfl, en, by rw [er], rfl⟩) (fun _ _ z => out (o := fun _ _ => True) z) fun _ _ z => z
        | @wdB p _ hw =>
          exfalso
          have h1 := hw.1
          have h2 := (Bool.and_eq_true_iff.mp z2).2
          cases kvs with
          | nil => exact absurd (Bool.and_eq_true_iff.mp z2).1 Bool.false_ne_true
          | cons kv r =>
            obtain ⟨k0, v0⟩ := kv
            rw [List.all_cons, Bool.and_eq_true] at h1 h2
            cases k0 <;> first | exact absurd h1.1 Bool.false_ne_true | exact absurd h2.1 Bool.false_ne_true
      | _ => exact absurd z1 Bool.false_ne_true
  · cases zi : itemsOf m e with
    | none =>
      simp only [zi] at h
      cases h
    | some xs =>
      simp only [zi] at h
      cases zf : isFlat d && xs.all isFlat with
      | false =>
        rw [zf] at h
        cases h
      | true =>
        rw [zf] at h
        cases h
        obtain ⟨z1, z2⟩ := Bool.and_eq_true_iff.mp zf
        exact ⟨rfl, seq zi z1 z2 rfl⟩

theorem run_cmp (F : Fx X T W lv cl) (op : CO) (I : Inv X pins σ H s) (rx : RelV x v) (ry : RelV y u) (S : Sim X.K X.w T H φ m) (r : Rel X.K X.w T H φ d x) (r' : Rel X.K X.w T H φ e y)
    (h : Post X.K X.w T W σ H φ (cmpF T cl op d e m) fun b m' H' φ' => Q (.bl b) H') : wpAny (model X.prog X.w) X.A (compareOp op.py v u) (EP X pins σ Q) X.xe s := by
  cases op with
  | eq =>
    obtain ⟨b, m', e1, h2⟩ := Post.ok_of h
    obtain ⟨rfl, hw⟩ := run_eqF F I rx ry S r r' e1
    exact wpAny_mono hw (fun r s' z => z.2.ep (P := fun b m' H' φ' => Q (.bl b) H') S z.1 h2 fun _ _ _ q => q) fun _ _ z => z
  | ne =>
    obtain ⟨b, m', e1, h2⟩ := Post.ok_of h
    obtain ⟨rfl, hw⟩ := run_neF F I rx ry S r r' e1
    exact wpAny_mono hw (fun r s' z => z.2.ep (P := fun b m' H' φ' => Q (.bl b) H') S z.1 h2 fun _ _ _ q => q) fun _ _ z => z
  | lt =>
    unfold cmpF at h
    dsimp only at h
    split at h
    · cases r; cases r'
      exact op_lt pins s σ H _ _ v u Q I rx ry ⟨_, _, rfl, rfl, Post.here S h⟩
    · exact h.elim
  | le =>
    unfold cmpF at h
    dsimp only at h
    split at h
    · cases r; cases r'
      exact op_le pins s σ H _ _ v u Q I rx ry ⟨_, _, rfl, rfl, Post.here S h⟩
    · exact h.elim
  | gt =>
    unfold cmpF at h
    dsimp only at h
    split at h
    · cases r; cases r'
      exact op_gt pins s σ H _ _ v u Q I rx ry ⟨_, _, rfl, rfl, Post.here S h⟩
    · exact h.elim
  | ge =>
    unfold cmpF at h
    dsimp only at h
    split at h
    · cases r; cases r'
      exact op_ge pins s σ H _ _ v u Q I rx ry ⟨_, _, rfl, rfl, Post.here S h⟩
    · exact h.elim
  | is =>
    unfold cmpF at h
    dsimp only at h
    split at h
    · cases r'
      refine op_isN pins s σ H _ _ v u Q I rx ry ⟨rfl, ?_⟩
      rw [r.non_iff]
      exact Post.here S h
    · exact h.elim
  | isnot =>
    unfold cmpF at h
    dsimp only at h
    split at h
    · cases r'
      refine op_notN pins s σ H _ _ v u Q I rx ry ⟨rfl, ?_⟩
      rw [r.non_iff]
      have h := Post.here S h
      cases r <;> exact h
    · exact h.elim
  | in_ =>
    cases ei : inF d e m with
    | bad =>
      have h : Post X.K X.w T W σ H φ (inF d e m) _ := h
      rw [ei] at h
      exact h.elim
    | exc _ _ _ => exact absurd ei (inF_noexc _ _ _ _ _ _)
    | ok b m' =>
      have h2 : Post X.K X.w T W σ H φ (inF d e m) _ := h
      rw [ei] at h2
      obtain ⟨rfl, hw⟩ := run_in F false I rx ry S r r' ei
      exact wpAny_mono hw (fun r s' z => z.2.ep (P := fun b m' H' φ' => Q (.bl b) H') S z.1 h2 fun _ _ _ q => q) fun _ _ z => z
  | notin =>
    have h : Post X.K X.w T W σ H φ ((inF d e m).bind fun b m => .ok (!b) m) _ := h
    cases ei : inF d e m with
    | bad =>
      rw [ei] at h
      exact h.elim
    | exc _ _ _ => exact absurd ei (inF_noexc _ _ _ _ _ _)
    | ok b m' =>
      rw [ei] at h
      have h2 : Post X.K X.w T W σ H φ (.ok (!b) m') _ := h
      obtain ⟨rfl, hw⟩ := run_in F true I rx ry S r r' ei
      exact wpAny_mono hw (fun r s' z => z.2.ep (P := fun b m' H' φ' => Q (.bl b) H') S z.1 h2 fun _ _ _ q => q) fun _ _ z => z
/-- -x -/
theorem run_neg (F : Fx X T W lv cl) (I : Inv X pins σ H s) (rx : RelV x v) (S : Sim X.K X.w T H φ m) (r : Rel X.K X.w T H φ d x)
    (h : Post X.K X.w T W σ H φ (negF T cl d m) fun d m' H' φ' => ∀ v, Rel X.K X.w T H' φ' d v → Q v H') : wpAny (model X.prog X.w) X.A (unaryOp .USub v) (EP X pins σ Q) X.xe s := by
  unfold negF at h
  split at h
  · cases r
    exact un_neg pins s σ H _ v Q I rx ⟨_, rfl, Post.here S h _ (.int _)⟩
  · cases d with
    | obj c fs =>
      obtain ⟨k, f, ek, ef, h⟩ := spec_there h
      obtain ⟨p, k', ox, od, rfl, rfl, ek', k0, J⟩ := obj_inst I r rx
      rw [ek] at ek'
      cases ek'
      obtain ⟨g1, g2⟩ := (F.tb.cls _ k ek k0).sp 2 f (by decide) ef
      obtain ⟨mm, hF⟩ := I.fr
      exact PySem.W.ksp_neg hF I.ok.mod.kin J g1 g2 (run_call F I S (.cons r .nil) (.cons rfl .nil) h)
    | _ => exact h.elim
/-- ~x -/
theorem run_inv (F : Fx X T W lv cl) (I : Inv X pins σ H s) (rx : RelV x v) (S : Sim X.K X.w T H φ m) (r : Rel X.K X.w T H φ d x)
    (h : Post X.K X.w T W σ H φ (specF T cl 4 d [] m) fun d m' H' φ' => ∀ v, Rel X.K X.w T H' φ' d v → Q v H') : wpAny (model X.prog X.w) X.A (unaryOp .Invert v) (EP X pins σ Q) X.xe s := by
  cases d with
  | obj c fs =>
    obtain ⟨k, f, ek, ef, h⟩ := spec_there h
    obtain ⟨p, k', ox, od, rfl, rfl, ek', k0, J⟩ := obj_inst I r rx
    rw [ek] at ek'
    cases ek'
    obtain ⟨g1, g2⟩ := (F.tb.cls _ k ek k0).sp 4 f (by decide) ef
    obtain ⟨mm, hF⟩ := I.fr
    exact PySem.W.ksp_inv hF I.ok.mod.kin J g1 g2 (run_call F I S (.cons r .nil) (.cons rfl .nil) h)
  | _ => exact h.elim
variable {pos : Pos} {a b c : Expr} {Fa Fb Fc : Env → M → R D}
theorem c_bin (F : Fx X T W lv cl) (op : BO) (ha : PE X a (tE X.K X.w T W Fa)) (hb : PE X b (tE X.K X.w T W Fb)) : PE X (.BinOp a op.py b pos) (tE X.K X.w T W fun ρ m => (Fa ρ m).bind fun x m => (Fb ρ m).bind fun y m => binF T cl op x y m) := by
  refine ⟨fun pins s σ H Q I ⟨ρ, m, φ, hρ, S, h⟩ => ?_⟩
  have q := first (Qv := fun v H1 => tE X.K X.w T W Fb σ H1 fun u H2 => ∃ d e m2 φ2, Sim X.K X.w T H2 φ2 m2 ∧ Rel X.K X.w T H2 φ2 d v ∧ Rel X.K X.w T H2 φ2 e u ∧ Post X.K X.w T W σ H2 φ2 (binF T cl op d e m2) fun d m' H' φ' => ∀ v, Rel X.K X.w T H' φ' d v → Q v H') hρ S h
    fun d m1 v H1 φ1 e1 S1 ρ1 r q => first ρ1 S1 q fun e m2 u H2 φ2 e2 S2 ρ2 r2 q2 => ⟨d, e, m2, φ2, S2, r.mono e2, r2, q2⟩
  exact wpAny_BinOp (binT ha hb I q fun v u s2 x y H2 I2 rx ry ⟨d, e, m2, φ2, S2, r1, r2, q2⟩ => run_bin F op I2 rx ry S2 r1 r2 q2)
theorem cmp_first (op : CO) {G : Bool → M → R D} {Qv : VK} {ρ : Env} (hρ : EnvR X.K X.w T H φ ρ σ) (S : Sim X.K X.w T H φ m)
    (h : Post X.K X.w T W σ H φ ((Fa ρ m).bind fun x m => (Fb ρ m).bind fun y m => (cmpF T cl op x y m).bind fun z m => .ok (.bl z) m) fun d m' H' φ' => ∀ v, Rel X.K X.w T H' φ' d v → Q v H') :
    tE X.K X.w T W Fa σ H fun v H1 => tE X.K X.w T W Fb σ H1 fun u H2 => ∃ d e m2 φ2, Sim X.K X.w T H2 φ2 m2 ∧ Rel X.K X.w T H2 φ2 d v ∧ Rel X.K X.w T H2 φ2 e u ∧ Post X.K X.w T W σ H2 φ2 (cmpF T cl op d e m2) fun b m' H' φ' => Q (.bl b) H' :=
  first hρ S h fun d m1 v H1 φ1 e1 S1 ρ1 r q => first ρ1 S1 q fun e m2 u H2 φ2 e2 S2 ρ2 r2 q2 => ⟨d, e, m2, φ2, S2, r.mono e2, r2, q2.bind.mono (Ext.refl _ _) fun b m' H' φ' _ S' z => Post.here S' z _ (.bl _)⟩
theorem c_cmp (F : Fx X T W lv cl) (op : CO) (ha : PE X a (tE X.K X.w T W Fa)) (hb : PE X b (tE X.K X.w T W Fb)) (hm : behindInMarks op.py b = false) :
    PE X (.Compare a [op.py] [b] pos) (tE X.K X.w T W fun ρ m => (Fa ρ m).bind fun x m => (Fb ρ m).bind fun y m => (cmpF T cl op x y m).bind fun z m => .ok (.bl z) m) := by
  refine ⟨fun pins s σ H Q I ⟨ρ, m, φ, hρ, S, h⟩ => ?_⟩
  exact wpAny_Compare1 (binT ha hb I (cmp_first (G := fun _ _ => .bad) (Qv := Q) op hρ S h) fun v u s2 x y H2 I2 rx ry ⟨d, e, m2, φ2, S2, r1, r2, q2⟩ => run_cmp F op I2 rx ry S2 r1 r2 q2) hm
theorem t_cmp (F : Fx X T W lv cl) (op : CO) (ha : PE X a (tE X.K X.w T W Fa)) (hb : PE X b (tE X.K X.w T W Fb)) (hm : behindInMarks op.py b = false) :
    PT X (.Compare a [op.py] [b] pos) (tT X.K X.w T W fun ρ m => ((Fa ρ m).bind fun x m => (Fb ρ m).bind fun y m => (cmpF T cl op x y m).bind fun z m => .ok (.bl z) m).bind isBl) := by
  refine ⟨fun pins s σ H Q I ⟨ρ, m, φ, hρ, S, h⟩ => ?_⟩
  have h2 : Post X.K X.w T W σ H φ ((Fa ρ m).bind fun x m => (Fb ρ m).bind fun y m => (cmpF T cl op x y m).bind fun z m => .ok (.bl z) m) fun d m' H' φ' => ∀ v, Rel X.K X.w T H' φ' d v → ∃ b, v = .bl b ∧ Q b H' :=
    h.bind.mono (Ext.refl _ _) fun d m1 H1 φ1 e1 S1 z v r => by
      cases d with
      | bl b =>
        cases r
        exact ⟨b, rfl, Post.here S1 z⟩
      | _ => exact z.elim
  refine wpAny_isTrue_Compare1 (binT ha hb I (cmp_first (G := fun _ _ => .bad) (Qv := fun v H' => ∃ b, v = .bl b ∧ Q b H') op hρ S h2) fun v u s2 x y H2 I2 rx ry ⟨d, e, m2, φ2, S2, r1, r2, q2⟩ => wpAny_mono (run_cmp (Q := fun v H' => ∃ b, v = .bl b ∧ Q b H') F op I2 rx ry S2 r1 r2 q2) (fun c s3 z => ?_) fun _ _ z => z) hm
  obtain ⟨w', H3, I3, r3, b, e3, q3⟩ := z
  subst e3
  cases r3
  exact wpAny_truthy_bool ⟨H3, I3, q3⟩
theorem c_neg (F : Fx X T W lv cl) (ha : PE X a (tE X.K X.w T W Fa)) : PE X (.UnaryOp .USub a pos) (tE X.K X.w T W fun ρ m => (Fa ρ m).bind fun x m => negF T cl x m) := by
  refine ⟨fun pins s σ H Q I ⟨ρ, m, φ, hρ, S, h⟩ => ?_⟩
  have q := first (Qv := fun v H1 => ∃ d m1 φ1, Sim X.K X.w T H1 φ1 m1 ∧ Rel X.K X.w T H1 φ1 d v ∧ Post X.K X.w T W σ H1 φ1 (negF T cl d m1) fun d m' H' φ' => ∀ v, Rel X.K X.w T H' φ' d v → Q v H') hρ S h fun d m1 v H1 φ1 e1 S1 ρ1 r q => ⟨d, m1, φ1, S1, r, q⟩
  exact UnaryOp_ (thn (ha.run pins s σ H _ I q) fun v s1 ⟨x, H1, I1, r1, d, m1, φ1, S1, r, q1⟩ => run_neg F I1 r1 S1 r q1)
theorem c_inv (F : Fx X T W lv cl) (ha : PE X a (tE X.K X.w T W Fa)) : PE X (.UnaryOp .Invert a pos) (tE X.K X.w T W fun ρ m => (Fa ρ m).bind fun x m => specF T cl 4 x [] m) := by
  refine ⟨fun pins s σ H Q I ⟨ρ, m, φ, hρ, S, h⟩ => ?_⟩
  have q := first (Qv := fun v H1 => ∃ d m1 φ1, Sim X.K X.w T H1 φ1 m1 ∧ Rel X.K X.w T H1 φ1 d v ∧ Post X.K X.w T W σ H1 φ1 (specF T cl 4 d [] m1) fun d m' H' φ' => ∀ v, Rel X.K X.w T H' φ' d v → Q v H') hρ S h fun d m1 v H1 φ1 e1 S1 ρ1 r q => ⟨d, m1, φ1, S1, r, q⟩
  exact UnaryOp_ (thn (ha.run pins s σ H _ I q) fun v s1 ⟨x, H1, I1, r1, d, m1, φ1, S1, r, q1⟩ => run_inv F I1 r1 S1 r q1)
end
end Pd

set_option maxHeartbeats 4000000
/-! Pd9: calls of built-in functions. -/
namespace Pd
open PySem PySem.Spec PyProof.Rows L2
/-- the built-in function, by its name; its value -/
def BI.nm : BI → Str
  | .len => "len" | .int => "int" | .tuple => "tuple" | .list => "list" | .all => "all" | .any => "any" | .abs => "abs" | .min => "min" | .max => "max" | .sum => "sum" | .lrange => "list"
def BI.val : BI → Value
  | .len => .builtin "len" | .int => .type "int" | .tuple => .type "tuple" | .list => .type "list" | .all => .builtin "all" | .any => .builtin "any" | .abs => .builtin "abs" | .min => .builtin "min" | .max => .builtin "max" | .sum => .builtin "sum" | .lrange => .type "list"
theorem BI.boot : ∀ b : BI, bootBuiltins b.nm = some b.val := by
  intro b
  cases b <;> first | rfl | decide +kernel | (simp [BI.nm, BI.val]; kernel_rfl)
section
variable {X : Cx} {T : Tab} {W : WX} {lv : Nat} {cl : Call} {pins : List (Addr × Obj)} {σ : L2.St} {H : Hp} {s : Shared} {φ : Foot} {m : M} {d e : D} {ds : List D} {x y : V} {vs : List V} {v u : Value} {us : List Value} {A : Around} {Q : VK}
theorem bls_rel : ∀ {xs : List D} {vs : List V} {bs : List Bool}, Rels X.K X.w T H φ xs vs → blsOf xs = some bs → vs = bs.map V.bl
  | [], _, _, r, h => by
    cases r
    cases h
    rfl
  | x :: xs, _, bs, r, h => by
    cases r with
    | cons r1 r2 =>
      cases x with
      | bl b =>
        cases r1
        have h : (blsOf xs).map (b :: ·) = some bs := h
        cases e : blsOf xs with
        | none =>
          rw [e] at h
          cases h
        | some l =>
          rw [e] at h
          cases h
          rw [bls_rel r2 e]
          rfl
      | _ => cases h
theorem ints_rel : ∀ {xs : List D} {vs : List V} {bs : List Int}, Rels X.K X.w T H φ xs vs → intsOf xs = some bs → vs = bs.map V.int
  | [], _, _, r, h => by
    cases r
    cases h
    rfl
  | x :: xs, _, bs, r, h => by
    cases r with
    | cons r1 r2 =>
      cases x with
      | int b =>
        cases r1
        have h : (intsOf xs).map (b :: ·) = some bs := h
        cases e : intsOf xs with
        | none =>
          rw [e] at h
          cases h
        | some l =>
          rw [e] at h
          cases h
          rw [ints_rel r2 e]
          rfl
      | _ => cases h
theorem strs_rel : ∀ {xs : List D} {vs : List V} {bs : List (List Nat)}, Rels X.K X.w T H φ xs vs → strsOf xs = some bs → vs = bs.map fun z => V.str (SS z)
  | [], _, _, r, h => by
    cases r
    cases h
    rfl
  | x :: xs, _, bs, r, h => by
    cases r with
    | cons r1 r2 =>
      cases x with
      | str b =>
        cases r1
        have h : (strsOf xs).map (b :: ·) = some bs := h
        cases e : strsOf xs with
        | none =>
          rw [e] at h
          cases h
        | some l =>
          rw [e] at h
          cases h
          rw [strs_rel r2 e]
          rfl
      | _ => cases h
theorem list_sq {xs : List D} (S : Sim X.K X.w T H φ m) (r : Rel X.K X.w T H φ d x) (h : listIt m d = some xs) : ∃ p vs, x = .ref p ∧ SqL X.K H p vs ∧ Rels X.K X.w T H φ xs vs := by
  cases d with
  | tup _ => cases h
  | fl ys =>
    cases h
    cases r with
    | fl a b => exact ⟨_, _, rfl, a.sq, b⟩
  | scr ys =>
    cases h
    cases r with
    | scr a b => exact ⟨_, _, rfl, a.sq, b⟩
  | ref a =>
    cases r with
    | @ref _ p q b hq =>
      obtain ⟨c, ec, C⟩ := S.there hq
      have h : (match m[a]? with
        | some (.lst xs) => some xs
        | _ => none) = some xs := h
      rw [ec] at h
      cases c with
      | lst ys =>
        cases h
        obtain ⟨_, _, vs, hp, rs⟩ := C
        exact ⟨p, vs, rfl, .inl (.inl hp), rs⟩
      | _ => cases h
  | _ => cases h
theorem RelK.length : ∀ {ds : List (D × D)} {vs : List (Key × V)}, RelK X.K X.w T H φ ds vs → ds.length = vs.length
  | [], _, h => by cases h; rfl
  | d :: ds, _, h => by
    cases h with
    | consS h1 h2 => simp [RelK.length h2]
    | consI h1 h2 => simp [RelK.length h2]
theorem range_rel : ∀ (n : Nat) (lo : Int), Rels X.K X.w T H φ ((List.range n).map fun (i : Nat) => D.int (lo + i)) ((List.range n).map fun (i : Nat) => V.int (lo + i)) := by
  intro n lo
  generalize List.range n = l
  induction l with
  | nil => exact .nil
  | cons a r ih => exact .cons (.int _) ih
theorem valL_eq (l : List Nat) : (valL l : Nat) = NumText.digitsVal l := rfl
theorem run_bi (F : Fx X T W lv cl) (b : BI) (hb : b ≠ .lrange) (I : Inv X pins σ H s) (rv : Vals vs us) (S : Sim X.K X.w T H φ m) (r : Rels X.K X.w T H φ ds vs)
    (h : Post X.K X.w T W σ H φ (biF T cl b ds m) fun d m' H' φ' => ∀ v, Rel X.K X.w T H' φ' d v → Q v H') : wpAny (model X.prog X.w) X.A (call b.val us) (EP X pins σ Q) X.xe s := by
  unfold biF at h
  split at h
  · rename_i z
    obtain ⟨b1, h⟩ := ite_b h
    cases r with
    | cons r1 r2 =>
      cases r1; cases r2
      exact call_len_str pins s σ H _ us Q I rv ⟨SS z, rfl, by rw [SX.S_len]; exact line_size b1, by rw [SX.S_len]; exact Post.here S h _ (.int _)⟩
  · rename_i kvs
    cases r with
    | cons r1 r2 =>
      cases r2
      cases r1 with
      | fdK n1 h1 h2 => exact call_lenD pins s σ H _ us Q I rv ⟨_, _, rfl, h1, by rw [← h2.length]; exact Post.here S h _ (.int _)⟩
  · rename_i c fs
    cases r with
    | cons r1 r2 =>
      cases r2
      cases rv with
      | cons q1 q2 =>
        cases q2
        have h : Post X.K X.w T W σ H φ ((specF T cl 1 (.obj c fs) [] m).bind fun (d : D) m => match d with
          | D.int i => bif decide (0 ≤ i) && decide (i < 1000000) then R.ok (D.int i) m else .bad
          | _ => .bad) _ := h
        have h2 : Post X.K X.w T W σ H φ (specF T cl 1 (.obj c fs) [] m) fun d m' H' φ' => ∀ v, Rel X.K X.w T H' φ' d v → ∃ i : Int, v = V.int i ∧ 0 ≤ i ∧ i < 1000000 ∧ Q (V.int i) H' :=
          h.bind.mono (Ext.refl _ _) fun d m1 H1 φ1 e1 S1 z v rv1 => by
            cases d with
            | int i =>
              obtain ⟨b1, z⟩ := ite_b z
              cases rv1
              have b2 := Bool.and_eq_true_iff.mp b1
              exact ⟨i, rfl, of_decide_eq_true b2.1, of_decide_eq_true b2.2, Post.here S1 z _ (.int _)⟩
            | _ => exact z.elim
        obtain ⟨k, f, ek, ef, h3⟩ := spec_there h2
        obtain ⟨p, k', ox, od, rfl, rfl, ek', k0, J⟩ := obj_inst I r1 q1
        rw [ek] at ek'
        cases ek'
        obtain ⟨g1, g2⟩ := (F.tb.cls _ k ek k0).sp 1 f (by decide) ef
        obtain ⟨mm, hF⟩ := I.fr
        refine PySem.W.len_K hF I.ok.mod.kin J g1 g2 (wpAny_mono (wpAny_call (run_code (A := X.A.in1) F (F.room.mono (by omega : lv + 1 ≤ lv + 9)).in1 I.env0.in1 I S (.cons r1 .nil) (.cons rfl .nil) h3)) (fun w s' z => ?_) fun _ _ z => z)
        obtain ⟨z', H', I', rz, i, ei, i0, i1, q⟩ := z
        subst ei
        obtain ⟨t, rfl⟩ := rz
        exact ⟨⟨i0, by omega⟩, .int i, H', I'.tok _, ⟨_, rfl⟩, q⟩
  · cases e : itemsOf m ‹D› with
    | none =>
      simp only [e] at h
      exact h.elim
    | some xs =>
      simp only [e] at h
      cases r with
      | cons r1 r2 =>
        cases r2
        obtain ⟨p, ys, rfl, hs, rs⟩ := items_sq S r1 e
        exact call_len_seq pins s σ H _ us Q I rv ⟨p, ys, rfl, hs, by rw [← rs.length]; exact Post.here S h _ (.int _)⟩
  · cases r with
    | cons r1 r2 =>
      cases r1; cases r2
      exact call_int1 pins s σ H _ us Q I rv (.inl ⟨_, rfl, Post.here S h _ (.int _)⟩)
  · cases r with
    | cons r1 r2 =>
      cases r1; cases r2
      exact call_int1 pins s σ H _ us Q I rv (.inr ⟨_, rfl, Post.here S h _ (.int _)⟩)
  · rename_i z
    obtain ⟨b1, h⟩ := ite_b h
    obtain ⟨z1, z2⟩ := Bool.and_eq_true_iff.mp b1
    obtain ⟨z2, z3⟩ := Bool.and_eq_true_iff.mp z2
    have hne : z ≠ [] := fun e => by
      subst e
      cases z2
    have hle : z.length ≤ 600 := Nat.le_of_ble_eq_true z3
    have hd : intText? (SX.S z) = some ((NumText.digitsVal z : Nat) : Int) := SX.int_S (List.all_eq_true.mpr fun c hc => by
      have := Bool.and_eq_true_iff.mp (List.all_eq_true.mp z1 c hc)
      rw [Bool.and_eq_true, decide_eq_true_eq, decide_eq_true_eq]
      exact ⟨Nat.le_of_ble_eq_true this.1, Nat.le_of_ble_eq_true this.2⟩) hne (by omega)
    cases r with
    | cons r1 r2 =>
      cases r1; cases r2
      exact call_int_str pins s σ H _ us Q I rv ⟨SS z, _, rfl, hd, by rw [SX.S_len]; omega, Post.here S h _ (.int _)⟩
  · rename_i d0
    cases e : itemsOf m d0 with
    | none =>
      simp only [e] at h
      exact h.elim
    | some xs =>
      simp only [e] at h
      cases r with
      | cons r1 r2 =>
        cases r2
        by_cases ht : ∃ ys, d0 = D.tup ys
        · obtain ⟨ys, rfl⟩ := ht
          cases e
          cases r1 with
          | tup a1 a2 => exact call_tuple_of pins s σ H _ us Q I rv ⟨_, _, rfl, .inr ⟨a1.sq, Post.here S h _ (.tup a1 a2)⟩⟩
        · have e2 : listIt m d0 = some xs := by
            cases d0 with
            | tup ys => exact (ht ⟨ys, rfl⟩).elim
            | _ => exact e
          obtain ⟨p, ys, rfl, hs, rs⟩ := list_sq S r1 e2
          exact call_tuple_of pins s σ H _ us Q I rv ⟨p, ys, rfl, .inl ⟨hs, fun l hl => new_tup S rs h l hl⟩⟩
  · rename_i d0
    cases e : itemsOf m d0 with
    | none =>
      simp only [e] at h
      exact h.elim
    | some xs =>
      simp only [e] at h
      cases r with
      | cons r1 r2 =>
        cases r2
        obtain ⟨p, ys, rfl, hs, rs⟩ := items_sq S r1 e
        exact call_list_of pins s σ H _ us Q I rv ⟨p, ys, rfl, hs, fun l hl => new_fl S rs h l hl⟩
  · rename_i d0
    cases e : (listIt m d0).bind blsOf with
    | none =>
      simp only [e] at h
      exact h.elim
    | some bs =>
      simp only [e] at h
      obtain ⟨xs, e1, e2⟩ := Option.bind_eq_some_iff.mp e
      cases r with
      | cons r1 r2 =>
        cases r2
        obtain ⟨p, ys, rfl, hs, rs⟩ := list_sq S r1 e1
        rw [bls_rel rs e2] at hs
        exact cr_all F.calm pins s σ H _ us Q I rv ⟨p, bs, rfl, hs, Post.here S h _ (.bl _)⟩
  · rename_i d0
    cases e : (listIt m d0).bind blsOf with
    | none =>
      simp only [e] at h
      exact h.elim
    | some bs =>
      simp only [e] at h
      obtain ⟨xs, e1, e2⟩ := Option.bind_eq_some_iff.mp e
      cases r with
      | cons r1 r2 =>
        cases r2
        obtain ⟨p, ys, rfl, hs, rs⟩ := list_sq S r1 e1
        rw [bls_rel rs e2] at hs
        exact cr_any F.calm pins s σ H _ us Q I rv ⟨p, bs, rfl, hs, Post.here S h _ (.bl _)⟩
  · rename_i d0
    cases e : (listIt m d0).bind intsOf with
    | none =>
      simp only [e] at h
      exact h.elim
    | some bs =>
      simp only [e] at h
      obtain ⟨xs, e1, e2⟩ := Option.bind_eq_some_iff.mp e
      cases r with
      | cons r1 r2 =>
        cases r2
        obtain ⟨p, ys, rfl, hs, rs⟩ := list_sq S r1 e1
        rw [ints_rel rs e2] at hs
        exact cr_sum F.calm pins s σ H _ us Q I rv ⟨p, bs, rfl, hs, Post.here S h _ (.int _)⟩
  · cases r with
    | cons r1 r2 =>
      cases r1; cases r2
      exact call_abs pins s σ H _ us Q I rv ⟨_, rfl, Post.here S h _ (.int _)⟩
  · cases r with
    | cons r1 r2 => cases r2 with
      | cons r2 r3 =>
        cases r1; cases r2; cases r3
        exact call_max2 F.calm pins s σ H _ us Q I rv ⟨_, _, rfl, Post.here S h _ (.int _)⟩
  · cases r with
    | cons r1 r2 => cases r2 with
      | cons r2 r3 =>
        cases r1; cases r2; cases r3
        exact call_min2 F.calm pins s σ H _ us Q I rv ⟨_, _, rfl, Post.here S h _ (.int _)⟩
  · exact (hb rfl).elim
  · exact h.elim
variable {pos p p2 pos2 : Pos} {e1 : Expr} {es : List Expr} {Fr : Env → M → R (List D)} {Fe : Env → M → R D} {n : Str}
theorem arg_first {G : List D → M → R D} {ρ : Env} (hρ : EnvR X.K X.w T H φ ρ σ) (S : Sim X.K X.w T H φ m) (h : Post X.K X.w T W σ H φ ((Fr ρ m).bind G) fun d m' H' φ' => ∀ v, Rel X.K X.w T H' φ' d v → Q v H') :
    tA X.K X.w T W Fr σ H fun vs H1 => ∃ ds m1 φ1, Sim X.K X.w T H1 φ1 m1 ∧ Rels X.K X.w T H1 φ1 ds vs ∧ Post X.K X.w T W σ H1 φ1 (G ds m1) fun d m' H' φ' => ∀ v, Rel X.K X.w T H' φ' d v → Q v H' :=
  firstA hρ S h fun ds m1 vs H1 φ1 e1 S1 ρ1 r q => ⟨ds, m1, φ1, S1, r, q⟩
/-- b(e, ..) -/
theorem c_bi (F : Fx X T W lv cl) (b : BI) (hb : b ≠ .lrange) (hn : n = b.nm) (hg : Gl X n) (ha : PA X (e1 :: es) (tA X.K X.w T W Fr)) (he : starEach (e1 :: es) X.env = (false, eval e1 X.env) :: starEach es X.env) (hpl : (backTo pos (starEach es X.env)).any (·.1) = false) :
    PE X (.Call (.Name n p) (e1 :: es) [] pos) (tE X.K X.w T W fun ρ m => (Fr ρ m).bind fun ds m => biF T cl b ds m) := by
  refine ⟨fun pins s σ H Q I ⟨ρ, m, φ, hρ, S, h⟩ => ?_⟩
  have q := arg_first hρ S h
  have hm : X.mg n = none := F.tb.free n (by subst hn; cases b <;> decide)
  have key : ∀ us s1, (∃ vs H1, Inv X pins σ H1 s1 ∧ Vals vs us ∧ ∃ ds m1 φ1, Sim X.K X.w T H1 φ1 m1 ∧ Rels X.K X.w T H1 φ1 ds vs ∧ Post X.K X.w T W σ H1 φ1 (biF T cl b ds m1) fun d m' H' φ' => ∀ v, Rel X.K X.w T H' φ' d v → Q v H') → wpAny (model X.prog X.w) X.A (call b.val us) (EP X pins σ Q) X.xe s1 := fun us s1 (z : ∃ vs H1, Inv X pins σ H1 s1 ∧ Vals vs us ∧ ∃ ds m1 φ1, Sim X.K X.w T H1 φ1 m1 ∧ Rels X.K X.w T H1 φ1 ds vs ∧ Post X.K X.w T W σ H1 φ1 (biF T cl b ds m1) fun d m' H' φ' => ∀ v, Rel X.K X.w T H' φ' d v → Q v H') => by
    obtain ⟨vs, H1, I1, r1, ds, m1, φ1, S1, rr, q1⟩ := z
    exact run_bi F b hb I1 r1 S1 rr q1
  have hv : bootBuiltins n = some b.val := by subst hn; exact b.boot
  subst hn
  cases b with
  | lrange => exact (hb rfl).elim
  | len => exact wpAny_Call_Name_kw (ld_blt I hg hm hv (PyProof.Rows.callWith_builtin1 (thn (ha.run pos pins s σ H _ I q) key) he hpl) (by decide) (by decide))
  | all => exact wpAny_Call_Name_kw (ld_blt I hg hm hv (PyProof.Rows.callWith_builtin1 (thn (ha.run pos pins s σ H _ I q) key) he hpl) (by decide) (by decide))
  | any => exact wpAny_Call_Name_kw (ld_blt I hg hm hv (PyProof.Rows.callWith_builtin1 (thn (ha.run pos pins s σ H _ I q) key) he hpl) (by decide) (by decide))
  | abs => exact wpAny_Call_Name_kw (ld_blt I hg hm hv (PyProof.Rows.callWith_builtin1 (thn (ha.run pos pins s σ H _ I q) key) he hpl) (by decide) (by decide))
  | min => exact wpAny_Call_Name_kw (ld_blt I hg hm hv (PyProof.Rows.callWith_builtin1 (thn (ha.run pos pins s σ H _ I q) key) he hpl) (by decide) (by decide))
  | max => exact wpAny_Call_Name_kw (ld_blt I hg hm hv (PyProof.Rows.callWith_builtin1 (thn (ha.run pos pins s σ H _ I q) key) he hpl) (by decide) (by decide))
  | sum => exact wpAny_Call_Name_kw (ld_blt I hg hm hv (PyProof.Rows.callWith_builtin1 (thn (ha.run pos pins s σ H _ I q) key) he hpl) (by decide) (by decide))
  | int => exact wpAny_Call_Name_kw (ld_blt I hg hm hv (PyProof.Rows.callWith_type1 (thn (ha.run pos pins s σ H _ I q) key) he hpl) (by decide) (by decide))
  | tuple => exact wpAny_Call_Name_kw (ld_blt I hg hm hv (PyProof.Rows.callWith_type1 (thn (ha.run pos pins s σ H _ I q) key) he hpl) (by decide) (by decide))
  | list => exact wpAny_Call_Name_kw (ld_blt I hg hm hv (PyProof.Rows.callWith_type1 (thn (ha.run pos pins s σ H _ I q) key) he hpl) (by decide) (by decide))
end
end Pd

set_option maxHeartbeats 4000000
/-! Pd10: methods of instances, of texts, lists, dicts. -/
namespace Pd
open PySem PySem.Spec PyProof.Rows L2
/-! ### texts -/
theorem pre_eq : ∀ (p l : List Nat), TL.pre p l = preL p l
  | [], l => by simp [TL.pre, preL]
  | a :: r, [] => by simp [TL.pre, preL]
  | a :: r, b :: t => by
    have ih := pre_eq r t
    unfold TL.pre at ih ⊢
    rw [show preL (a :: r) (b :: t) = (Nat.beq a b && preL r t) from rfl, ← ih]
    simp only [List.length_cons, List.take_succ_cons]
    rw [List.cons_beq_cons]
    congr 1
    cases h : Nat.beq a b with
    | true =>
      rw [Nat.eq_of_beq_eq_true h]
      simp
    | false =>
      have : a ≠ b := Nat.ne_of_beq_eq_false h
      simp [Ne.symm this]
theorem spl_eq (c : Nat) : ∀ (l acc : List Nat), TL.spl [c] 0 acc l = splitL c acc l
  | [], acc => by rw [TL.spl_nil]; rfl
  | x :: r, acc => by
    have e : TL.pre [c] (x :: r) = Nat.beq x c := by
      rw [pre_eq]
      show (Nat.beq c x && true) = Nat.beq x c
      rw [Bool.and_true]
      cases h : Nat.beq x c with
      | true => rw [Nat.eq_of_beq_eq_true h]; exact Nat.beq_refl c
      | false =>
        cases h2 : Nat.beq c x with
        | true =>
          rw [Nat.eq_of_beq_eq_true h2] at h
          rw [Nat.beq_refl] at h
          cases h
        | false => rfl
    cases h : Nat.beq x c with
    | true =>
      rw [TL.spl_hit (e.trans h)]
      show acc :: TL.spl [c] 0 [] r = (bif Nat.beq x c then acc :: splitL c [] r else splitL c (acc ++ [x]) r)
      rw [h, spl_eq c r []]
      rfl
    | false =>
      rw [TL.spl_miss (e.trans h)]
      show TL.spl [c] 0 (acc ++ [x]) r = (bif Nat.beq x c then acc :: splitL c [] r else splitL c (acc ++ [x]) r)
      rw [h, spl_eq c r (acc ++ [x])]
      rfl
theorem joinL_eq (a : List Nat) : ∀ ys : List (List Nat), TL.joinL a ys = joinL a ys
  | [] => rfl
  | [_] => rfl
  | x :: y :: r => by
    show x ++ (a ++ TL.joinL a (y :: r)) = x ++ (a ++ joinL a (y :: r))
    rw [joinL_eq a (y :: r)]
theorem subAt0 (a p : List Nat) : Builtin.Str.subAt (SS a) (SS p) 0 = preL p a := by
  rw [← pre_eq]
  unfold Builtin.Str.subAt TL.pre
  rw [Nat.zero_add]
  have e1 : (SS p).length = p.length := SX.S_len p
  rw [e1]
  show ((a.toArray.extract 0 p.length) == p.toArray) = (a.take p.length == p)
  have e2 : a.toArray.extract 0 p.length = (a.take p.length).toArray := by
    apply Array.ext'
    simp
  rw [e2]
  cases h : (a.take p.length == p) with
  | true => rw [eq_of_beq h]; simp
  | false =>
    have := beq_eq_false_iff_ne.mp h
    apply beq_eq_false_iff_ne.mpr
    intro z
    exact this (by simpa using z)
theorem starts_eq (a p : List Nat) : Txt.startswith (SS a) (SS p) = preL p a := by
  unfold Txt.startswith
  rw [subAt0]
  cases h : preL p a with
  | false => simp
  | true =>
    rw [Bool.and_true, decide_eq_true_eq, Nat.zero_add]
    have hl : (SS p).length = p.length := SX.S_len p
    have hl2 : (SS a).length = a.length := SX.S_len a
    rw [hl, hl2]
    rw [← pre_eq] at h
    have h2 := congrArg List.length (eq_of_beq (show (a.take p.length == p) = true from h))
    rw [List.length_take] at h2
    omega
theorem preL_app : ∀ {p a : List Nat}, preL p a = true → a = p ++ a.drop p.length
  | [], a, _ => by simp
  | x :: r, [], h => by cases h
  | x :: r, y :: t, h => by
    have h := Bool.and_eq_true_iff.mp (show (Nat.beq x y && preL r t) = true from h)
    rw [Nat.eq_of_beq_eq_true h.1]
    have := preL_app h.2
    simp only [List.length_cons, List.drop_succ_cons, List.cons_append]
    rw [← this]
theorem removeprefix_eq (a p : List Nat) : Txt.removeprefix (SS a) (SS p) = SS (if preL p a = true then a.drop p.length else a) := by
  unfold Txt.removeprefix
  rw [subAt0]
  have hl : (SS p).length = p.length := SX.S_len p
  have hl2 : (SS a).length = a.length := SX.S_len a
  cases h : preL p a with
  | false => simp [Txt.affix]
  | true =>
    have h1 := preL_app h
    have h3 : p.length ≤ a.length := by
      have := congrArg List.length h1
      rw [List.length_append] at this
      omega
    simp only [if_true]
    unfold Txt.affix
    rw [hl, hl2]
    dsimp only
    by_cases h2 : (a.length - p.length == a.length) = true
    · rw [if_pos h2]
      have h2 := eq_of_beq h2
      have : p.length = 0 ∨ a.length = 0 := by omega
      rcases this with h0 | h0
      · rw [h0]; simp
      · have : a = [] := List.eq_nil_of_length_eq_zero h0
        subst this
        simp
    · rw [if_neg h2]
      show (⟨_⟩ : Str) = _
      congr 1
      apply Array.ext'
      simp [Builtin.Str.strSub]
      rw [List.take_of_length_le (by rw [List.length_drop]; omega)]
theorem lens_eq : ∀ ys : List (List Nat), ((ys.map SS).map (·.length)).sum = lenSum ys
  | [] => rfl
  | y :: ys => by
    have := lens_eq ys
    simp only [List.map_cons, List.sum_cons, lenSum]
    rw [this]
    rfl

/-! ### argument lists by their syntax -/
/-- no star among them, few -/
def plainArgs : List Expr → Bool
  | [] => true
  | .Starred _ _ :: _ => false
  | _ :: r => plainArgs r
theorem star_cons {e : Expr} {es : List Expr} {env : PySem.Env} (h : plainArgs (e :: es) = true) : starEach (e :: es) env = (false, eval e env) :: starEach es env ∧ plainArgs es = true := by
  cases e <;> first | exact ⟨rfl, h⟩ | cases h
theorem star_none {env : PySem.Env} {pos : Pos} : ∀ {es : List Expr}, plainArgs es = true → (backTo pos (starEach es env)).any (·.1) = false ∧ (backTo pos (starEach es env)).all (fun x => !x.1) = true
  | [], _ => ⟨rfl, rfl⟩
  | e :: es, h => by
    obtain ⟨h1, h2⟩ := star_cons (env := env) h
    obtain ⟨i1, i2⟩ := star_none (env := env) (pos := pos) h2
    rw [h1]
    exact ⟨i1, i2⟩
/-- the base is no super() -/
def plainBase : Expr → Bool
  | .Call (.Name _ _) [] [] _ => false
  | _ => true
theorem base_ok {o : Expr} {f : Str} {env : PySem.Env} (h : plainBase o = true) : attributeBase o f env (eval o env) = eval o env := by
  unfold attributeBase
  split
  · cases h
  · rfl
def fewArgs (es : List Expr) (apos pos : Pos) : Bool := plainArgs es && (Nat.blt es.length 29 && apos.endLine == pos.line)
section
variable {X : Cx} {T : Tab} {W : WX} {lv : Nat} {cl : Call} {pins : List (Addr × Obj)} {σ : L2.St} {H : Hp} {s : Shared} {φ : Foot} {m : M} {d e : D} {ds : List D} {x y : V} {vs : List V} {v u : Value} {us : List Value} {A : Around} {Q : VK}
variable {o e1 : Expr} {es : List Expr} {f : Str} {apos pos : Pos} {Fe : Env → M → R D} {Fr : Env → M → R (List D)} {ρ : Env}
theorem form_ok (h : fewArgs es apos pos = true) : methodCallForm (es.length + ([] : List Keyword).length) (backTo pos (starEach es X.env)) (backToKw pos (keywordEach [] X.env)) = true ∧ (apos.endLine == pos.line) = true := by
  have h := Bool.and_eq_true_iff.mp h
  have h2 := Bool.and_eq_true_iff.mp h.2
  refine ⟨?_, h2.2⟩
  unfold methodCallForm
  rw [(star_none h.1).2]
  have : es.length < 29 := Nat.le_of_ble_eq_true h2.1
  simp [keywordEach, backToKw]
  omega
theorem meth_form (hb : plainBase o = true) (h : fewArgs es apos pos = true) : eval (.Call (.Attribute o f apos) es [] pos) X.env = (do
      let ov ← eval o X.env
      standAt apos.atName
      let (g, first) ← holding [ov] (getMethod ov f (plainOf o X.env))
      callWith pos g first (backTo pos (starEach es X.env)) (backToKw pos (keywordEach [] X.env))) := by
  obtain ⟨h1, h2⟩ := form_ok (X := X) h
  rw [arm_eval_Call, base_ok hb]
  congr 1
  funext ov
  rw [mcall_line h1 h2]
/-- the receiver, then the arguments -/
theorem recv_first {G : D → List D → M → R D} {g : D → M → Bool} (hρ : EnvR X.K X.w T H φ ρ σ) (S : Sim X.K X.w T H φ m)
    (h : Post X.K X.w T W σ H φ ((Fe ρ m).bind fun d m => bif g d m then (Fr ρ m).bind fun ds m => G d ds m else .bad) fun d m' H' φ' => ∀ v, Rel X.K X.w T H' φ' d v → Q v H') :
    tE X.K X.w T W Fe σ H fun x H1 => ∃ d m1 φ1, Sim X.K X.w T H1 φ1 m1 ∧ Rel X.K X.w T H1 φ1 d x ∧ g d m1 = true ∧ tA X.K X.w T W Fr σ H1 fun vs H2 => ∃ ds m2 φ2, Sim X.K X.w T H2 φ2 m2 ∧ Rel X.K X.w T H2 φ2 d x ∧ Rels X.K X.w T H2 φ2 ds vs ∧
      Post X.K X.w T W σ H2 φ2 (G d ds m2) fun d m' H' φ' => ∀ v, Rel X.K X.w T H' φ' d v → Q v H' :=
  first hρ S h fun d m1 v H1 φ1 e1 S1 ρ1 r q => by
    cases z : g d m1 with
    | false =>
      rw [z] at q
      exact q.elim
    | true =>
      rw [z] at q
      exact ⟨d, m1, φ1, S1, r, z, firstA ρ1 S1 q fun ds m2 vs H2 φ2 e2 S2 ρ2 r2 q2 => ⟨ds, m2, φ2, S2, r.mono e2, r2, q2⟩⟩
/-- a method found -/
theorem meth_there {a i : Nat} (F : Fx X T W lv cl) (I : Inv X pins σ H s) (S : Sim X.K X.w T H φ m) (r : Rel X.K X.w T H φ d x) (h : methG T d a m = some i) : ∃ p C dx sl, x = .ref p ∧ SlX.Slt H p C dx sl ∧ SlX.SCls X.K C ∧ Meth X.K C (attrS T a) (fnA X.K T i) := by
  have mk : ∀ {k : Cls} {c : Nat}, T.clss[c]? = some k → k.kind = 0 → methK k a = some i → SlX.SCls X.K (clsA X.K T c) ∧ Meth X.K (clsA X.K T c) (attrS T a) (fnA X.K T i) := fun {k c} ek k0 hm => by
    have K0 := F.tb.cls c k ek k0
    unfold methK at hm
    split at hm
    · rename_i e1 e2
      cases hm
      exact ⟨K0.sc, K0.meth _ _ e2⟩
    · cases hm
  cases d with
  | obj c fs =>
    cases r with
    | @obj p dx _ k _ vs sl h1 h2 h3 h4 h5 h6 h7 h8 h9 =>
      have h : (T.clss[c]?).bind (fun k => methK k a) = some i := h
      rw [h3] at h
      obtain ⟨q1, q2⟩ := mk h3 h4 h
      exact ⟨p, _, dx, sl, rfl, .inr ⟨h5, h6⟩, q1, q2⟩
  | ref r0 =>
    cases r with
    | @ref _ p q b hq =>
      obtain ⟨c0, ec, C0⟩ := S.there hq
      have h : (match m[r0]? with
        | some (.ins c _) => (T.clss[c]?).bind fun k => methK k a
        | _ => none) = some i := h
      rw [ec] at h
      cases c0 with
      | ins c fs =>
        obtain ⟨_, _, ⟨k, ek, k0, _⟩, sl, hs, hf⟩ := C0
        have h : (T.clss[c]?).bind (fun k => methK k a) = some i := h
        rw [ek] at h
        obtain ⟨q1, q2⟩ := mk ek k0 h
        exact ⟨p, _, q, sl, rfl, hs.slt, q1, q2⟩
      | _ => cases h
  | _ => cases h
theorem meth_first {a : Nat} (hρ : EnvR X.K X.w T H φ ρ σ) (S : Sim X.K X.w T H φ m) (h : Post X.K X.w T W σ H φ ((Fe ρ m).bind fun d m => methR T cl d (methG T d a m) Fr ρ m) fun d m' H' φ' => ∀ v, Rel X.K X.w T H' φ' d v → Q v H') :
    tE X.K X.w T W Fe σ H fun x H1 => ∃ d m1 φ1 i, Sim X.K X.w T H1 φ1 m1 ∧ Rel X.K X.w T H1 φ1 d x ∧ methG T d a m1 = some i ∧ tA X.K X.w T W Fr σ H1 fun vs H2 => ∃ ds m2 φ2, Sim X.K X.w T H2 φ2 m2 ∧ Rel X.K X.w T H2 φ2 d x ∧ Rels X.K X.w T H2 φ2 ds vs ∧
      Post X.K X.w T W σ H2 φ2 (callF T cl i (d :: ds) m2) fun d m' H' φ' => ∀ v, Rel X.K X.w T H' φ' d v → Q v H' :=
  first hρ S h fun d m1 v H1 φ1 e1 S1 ρ1 r q => by
    cases z : methG T d a m1 with
    | none =>
      rw [z] at q
      exact q.elim
    | some i =>
      rw [z] at q
      exact ⟨d, m1, φ1, i, S1, r, z, firstA ρ1 S1 q fun ds m2 vs H2 φ2 e2 S2 ρ2 r2 q2 => ⟨ds, m2, φ2, S2, r.mono e2, r2, q2⟩⟩
/-- o.f(e, ..) -/
theorem c_meth (F : Fx X T W lv cl) {a : Nat} (hf : f = attrS T a) (he : PE X o (tE X.K X.w T W Fe)) (ha : PA X (e1 :: es) (tA X.K X.w T W Fr)) (hb : plainBase o = true) (hw : fewArgs (e1 :: es) apos pos = true) :
    PE X (.Call (.Attribute o f apos) (e1 :: es) [] pos) (tE X.K X.w T W fun ρ m => (Fe ρ m).bind fun d m => methR T cl d (methG T d a m) Fr ρ m) := by
  refine ⟨fun pins s σ H Q I ⟨ρ, m, φ, hρ, S, h⟩ => ?_⟩
  have q := meth_first hρ S h
  have hs := star_cons (env := X.env) (Bool.and_eq_true_iff.mp hw).1
  refine PySem.W.methodCall_KW (pl := plainOf o X.env) (thn (he.run pins s σ H _ I q) fun u s1 ⟨x, H1, I1, rx, d, m1, φ1, i, S1, r, hi, q1⟩ => ?_) (meth_form hb hw)
  obtain ⟨p, C, dx, sl, ex, hsl, c, hm⟩ := meth_there F I1 S1 r hi
  subst ex
  obtain rfl : u = Value.ref p := rx
  subst hf
  refine SlX.getmethsl_ok I1 hsl c hm ?_
  refine PySem.W.callWith_K (first := [.ref p]) (h₀ := X.base) I.ok.mod.kin hm.kp (thn (ha.run pos pins s1 σ H1 _ I1 q1) fun us s2 ⟨ws, H2, I2, rw_, ds, m2, φ2, S2, r2, rs2, q2⟩ => ⟨I2.kIn, ?_⟩) hs.1 (star_none hs.2).1
  exact run_call (us := .ref p :: us) (vs := .ref p :: ws) F I2 S2 (.cons r2 rs2) (.cons rfl rw_) q2
theorem c_meth0 (F : Fx X T W lv cl) {a : Nat} (hf : f = attrS T a) (he : PE X o (tE X.K X.w T W Fe)) (hb : plainBase o = true) (hw : fewArgs [] apos pos = true) :
    PE X (.Call (.Attribute o f apos) [] [] pos) (tE X.K X.w T W fun ρ m => (Fe ρ m).bind fun d m => methR T cl d (methG T d a m) (fun _ m => .ok [] m) ρ m) := by
  refine ⟨fun pins s σ H Q I ⟨ρ, m, φ, hρ, S, h⟩ => ?_⟩
  have q : tE X.K X.w T W Fe σ H fun x H1 => ∃ d m1 φ1 i, Sim X.K X.w T H1 φ1 m1 ∧ Rel X.K X.w T H1 φ1 d x ∧ methG T d a m1 = some i ∧ Post X.K X.w T W σ H1 φ1 (callF T cl i [d] m1) fun d m' H' φ' => ∀ v, Rel X.K X.w T H' φ' d v → Q v H' :=
    first hρ S h fun d m1 v H1 φ1 e1 S1 ρ1 r q => by
      cases z : methG T d a m1 with
      | none =>
        rw [z] at q
        exact q.elim
      | some i =>
        rw [z] at q
        exact ⟨d, m1, φ1, i, S1, r, z, q⟩
  refine PySem.W.methodCall_KW (pl := plainOf o X.env) (thn (he.run pins s σ H _ I q) fun u s1 ⟨x, H1, I1, rx, d, m1, φ1, i, S1, r, hi, q1⟩ => ?_) (meth_form hb hw)
  obtain ⟨p, C, dx, sl, ex, hsl, c, hm⟩ := meth_there F I1 S1 r hi
  subst ex
  obtain rfl : u = Value.ref p := rx
  subst hf
  refine SlX.getmethsl_ok I1 hsl c hm ?_
  exact PySem.W.callWith_K0 (first := [.ref p]) I1.kIn hm.kp (run_call (us := [.ref p]) (vs := [.ref p]) F I1 S1 (.cons r .nil) (.cons rfl .nil) q1)
/-! ### methods of texts, lists, dicts -/
def BM.nm : BM → Str
  | .join => "join" | .split => "split" | .startswith => "startswith" | .removeprefix => "removeprefix" | .append => "append" | .extend => "extend" | .get => "get"
def BM.ty : BM → String
  | .join => "str" | .split => "str" | .startswith => "str" | .removeprefix => "str" | .append => "list" | .extend => "list" | .get => "dict"
def BM.id : BM → String
  | .join => "str.join" | .split => "str.split" | .startswith => "str.startswith" | .removeprefix => "str.removeprefix" | .append => "list.append" | .extend => "list.extend" | .get => "dict.get"
theorem BM.facts (b : BM) : PlainAttrs b.ty ∧ Slot b.ty b.nm b.id ∧ typeOf (.builtin b.id) = pure (.type "method_descriptor") := by
  cases b with
  | join => exact ⟨F.plainAttrs_str, F.slot_str_join, F.type_str_join⟩
  | split => exact ⟨F.plainAttrs_str, F.slot_str_split, F.type_str_split⟩
  | startswith => exact ⟨F.plainAttrs_str, F.slot_str_startswith, F.type_str_startswith⟩
  | removeprefix => exact ⟨F.plainAttrs_str, F.slot_str_removeprefix, F.type_str_removeprefix⟩
  | append => exact ⟨F.plainAttrs_list, F.slot_list_append, F.type_list_append⟩
  | extend => exact ⟨F.plainAttrs_list, F.slot_list_extend, F.type_list_extend⟩
  | get => exact ⟨PySem.F.plainAttrs_dict, PySem.F.slot_dict_get, PySem.F.type_dict_get⟩
theorem bm_recv {b : BM} (I : Inv X pins σ H s) (rx : RelV x v) (S : Sim X.K X.w T H φ m) (r : Rel X.K X.w T H φ d x) (h : bmOk b d m = true) : s.TypeIs v b.ty ∧ ∀ a, v = .ref a → ∃ ob, s.heap.get? a = some ob ∧ ob.dict = none := by
  have str : ∀ {z : List Nat}, RelV (.str (SS z)) v → s.TypeIs v "str" ∧ ∀ a, v = .ref a → ∃ ob, s.heap.get? a = some ob ∧ ob.dict = none := fun {z} rx => tyV_is (X := X) I rx rfl
  have lst : ∀ {r0 : Nat}, d = .ref r0 → (match m[r0]? with
    | some (.lst _) => true
    | _ => false) = true → s.TypeIs v "list" ∧ ∀ a, v = .ref a → ∃ ob, s.heap.get? a = some ob ∧ ob.dict = none := fun {r0} ed h2 => by
    subst ed
    cases r with
    | @ref _ p q b hq =>
      obtain ⟨c0, ec, C0⟩ := S.there hq
      rw [ec] at h2
      cases c0 with
      | lst xs =>
        obtain ⟨_, _, vs, hp, _⟩ := C0
        exact tyV_is (X := X) I rx (.inl ⟨rfl, vs, .inl (.inl hp)⟩)
      | _ => cases h2
  unfold bmOk at h
  split at h
  · cases r; exact str rx
  · cases r; exact str rx
  · cases r; exact str rx
  · cases r; exact str rx
  · cases r with
    | @fdK p _ ks n1 h1 h2 => exact tyV_is (X := X) I rx (.inr (.inr (.inl ⟨rfl, .inl ⟨ks, h1⟩⟩)))
  · have kd : ∀ {p : Addr} {o : Obj}, X.K.lookup p = some o → o.cls = .type "dict" → o.dict = none → RelV (.ref p) v → s.TypeIs v "dict" ∧ ∀ a, v = .ref a → ∃ ob, s.heap.get? a = some ob ∧ ob.dict = none := fun {p o} hl hc hd rv => by
      obtain rfl : v = Value.ref p := rv
      have e := I.kIn p _ hl
      exact ⟨⟨_, e, hc⟩, fun a ea => by cases ea; exact ⟨_, e, hd⟩⟩
    rename_i kvs
    cases r with
    | @wdS p _ hw =>
      have hw := hw.2.2 []
      cases ed : dget kvs (.str []) with
      | none =>
        rw [ed] at hw
        obtain ⟨es, n, a1, _⟩ := hw
        exact kd a1 rfl rfl rx
      | some q =>
        rw [ed] at hw
        cases q with
        | str y =>
          obtain ⟨es, n, uu, a1, _⟩ := hw
          exact kd a1 rfl rfl rx
        | _ => exact hw.elim
    | @wdB p _ hw =>
      obtain ⟨o, h1, h2, h3⟩ := hw.2.1
      exact kd h1 h2 h3 rx
  · exact lst rfl h
  · exact lst rfl h
  · cases h
/-- a cell is written: what is known stays -/
theorem Sim.wext {K : PySem.W.Frag} {w : World} {H' : Hp} {a : Nat} {q : Addr × Addr × Bool} (S : Sim K w T H φ m) (ha : φ[a]? = some q) (hb : q.2.2 = false) (h : ∀ p, p ≠ q.1 → p ≠ q.2.1 → H' p = H p) : Ext H φ H' φ := by
  refine ⟨⟨[], by simp⟩, fun p o k n => by
    rw [h p (fun z => n ⟨a, q, ha, .inl z.symm⟩) fun z => n ⟨a, q, ha, .inr z.symm⟩]
    exact k, fun p o k ⟨b, r, h1, h2, h3⟩ => ?_, fun _ k => .inl k⟩
  have hab : a ≠ b := fun z => by
    subst z
    rw [ha] at h1
    cases h1
    rw [hb] at h2
    cases h2
  obtain ⟨s1, s2, s3, s4⟩ := S.sep a b q r ha h1 hab
  rw [h p (fun z => by rcases h3 with h3 | h3
                       · exact s1 (z.symm.trans h3.symm)
                       · exact s2 (z.symm.trans h3.symm)) fun z => by rcases h3 with h3 | h3
                                                                      · exact s3 (z.symm.trans h3.symm)
                                                                      · exact s4 (z.symm.trans h3.symm)]
  exact k
/-- a list's cell is written -/
theorem put_lst {a : Nat} {p q : Addr} {b : Bool} {xs xs' : List D} {vs' : List V} (S : Sim X.K X.w T H φ m) (hq : φ[a]? = some (p, q, b)) (C : CellR X.K X.w T H φ (.lst xs) (p, q, b)) (r : Rels X.K X.w T H φ xs' vs')
    (h : Post X.K X.w T W σ H φ (.ok .non (m.set a (.lst xs'))) fun d m' H' φ' => ∀ v, Rel X.K X.w T H' φ' d v → Q v H') : Q .non (upd H p (.lst vs')) := by
  obtain ⟨hb, hpq, _⟩ := C
  subst hb
  subst hpq
  have hk : ∀ x, x ≠ (q, q, false).1 → x ≠ (q, q, false).2.1 → upd H q (.lst vs') x = H x := fun x h1 _ => upd_ne h1
  have e := S.wext hq rfl hk
  obtain ⟨e, S'⟩ := S.write (H' := upd H q (.lst vs')) hq rfl hk (show CellR X.K X.w T _ φ (.lst xs') _ from ⟨rfl, rfl, vs', upd_same, r.mono e⟩)
  exact h _ φ e S' _ .non
/-- a text key in a written dict -/
theorem wd_look {kvs : List (D × D)} {z : List Nat} (hk : strKeys kvs = true) (r : Rel X.K X.w T H φ (.wd kvs) x) : ∃ p es n ro, x = .ref p ∧ KDict X.K X.w p es n ∧ PySem.W.nsIn X.K p (SS z) = some ro ∧
    ((dget kvs (.str z) = none ∧ ro = none) ∨ ∃ y uu, dget kvs (.str z) = some (.str y) ∧ ro = some uu ∧ RelV (.str (SS y)) uu) := by
  cases r with
  | @wdS p _ hw =>
    have hlow := hw.2.1
    have hw := hw.2.2 z
    cases ed : dget kvs (.str z) with
    | none =>
      rw [ed] at hw
      obtain ⟨es, n, a1, a2, a3, a4⟩ := hw
      exact ⟨p, es, n, none, rfl, ⟨a1, a2, a3⟩, a4, .inl ⟨rfl, rfl⟩⟩
    | some q =>
      rw [ed] at hw
      cases q with
      | str y =>
        obtain ⟨es, n, uu, a1, a2, a3, a4⟩ := hw
        exact ⟨p, es, n, some uu, rfl, ⟨a1, a2, hlow⟩, a3, .inr ⟨y, uu, rfl, rfl, a4⟩⟩
      | _ => exact hw.elim
  | @wdB p _ hw =>
    exfalso
    have h1 := hw.1
    have h2 := (Bool.and_eq_true_iff.mp hk).2
    cases kvs with
    | nil => exact absurd (Bool.and_eq_true_iff.mp hk).1 Bool.false_ne_true
    | cons kv r =>
      obtain ⟨k0, v0⟩ := kv
      rw [List.all_cons, Bool.and_eq_true] at h1 h2
      cases k0 <;> first | exact absurd h1.1 Bool.false_ne_true | exact absurd h2.1 Bool.false_ne_true
theorem run_bm {b : BM} (F : Fx X T W lv cl) (I : Inv X pins σ H s) (rx : RelV x v) (rv : Vals vs us) (S : Sim X.K X.w T H φ m) (r : Rel X.K X.w T H φ d x) (rs : Rels X.K X.w T H φ ds vs)
    (h : Post X.K X.w T W σ H φ (bmF b d ds m) fun d m' H' φ' => ∀ v, Rel X.K X.w T H' φ' d v → Q v H') : wpAny (model X.prog X.w) X.A (call (.builtin b.id) (v :: us)) (EP X pins σ Q) X.xe s := by
  have hu := F.units
  have hu1 : X.A.units + 1 < cLine := by omega
  unfold bmF at h
  split at h
  · rename_i z d0
    cases e : (itemsOf m d0).bind strsOf with
    | none =>
      simp only [e] at h
      exact h.elim
    | some ys =>
      simp only [e] at h
      obtain ⟨b1, h⟩ := ite_b h
      obtain ⟨xs, e1, e2⟩ := Option.bind_eq_some_iff.mp e
      cases r
      cases rs with
      | cons r1 r2 =>
        cases r2
        obtain ⟨p, ws, rfl, hs, rr⟩ := items_sq S r1 e1
        have ew := strs_rel rr e2
        have ew2 : ws = (ys.map SS).map V.str := by rw [ew, List.map_map]; rfl
        rw [ew2] at hs
        refine mt_join pins s σ H _ _ v us Q I rx rv ⟨SS z, p, ys.map SS, rfl, rfl, hs, ?_, ?_⟩
        · rw [lens_eq, List.length_map, show (SS z).length = z.length from SX.S_len z]
          have := Nat.le_of_ble_eq_true b1
          unfold line at this
          omega
        · have ej : Txt.join (SS z) (ys.map SS) = SS (joinL z ys) := by
            have := SX.join_S z ys
            rw [joinL_eq] at this
            exact this
          rw [ej]
          exact Post.here S h _ (.str _)
  · rename_i z c
    obtain ⟨b1, h⟩ := ite_b h
    obtain ⟨z1, z2⟩ := Bool.and_eq_true_iff.mp b1
    have hc : c < 128 := Nat.le_of_ble_eq_true z2
    have es : Txt.split (SS z) (SS [c]) = (splitL c [] z).map SS := by
      have := SX.split_S (a := z) (b := [c]) (List.cons_ne_nil _ _) (by simp; omega)
      rw [spl_eq] at this
      exact this
    cases r
    cases rs with
    | cons r1 r2 =>
      cases r1; cases r2
      refine mt_split pins s σ H _ _ v us Q I rx rv ⟨SS z, SS [c], rfl, rfl, rfl, ?_, ?_⟩
      · rw [show (SS z).length = z.length from SX.S_len z]
        exact line_size z1
      · rw [es]
        intro p hp
        have rr : ∀ l : List (List Nat), Rels X.K X.w T H φ (l.map D.str) ((l.map SS).map V.str) := fun l => by
          induction l with
          | nil => exact .nil
          | cons a l ih => exact .cons (.str a) ih
        exact new_fl S (rr _) h p hp
  · rename_i z p
    cases r
    cases rs with
    | cons r1 r2 =>
      cases r1; cases r2
      refine mt_startswith pins s σ H _ _ v us Q I rx rv ⟨SS z, SS p, rfl, rfl, ?_⟩
      rw [starts_eq]
      exact Post.here S h _ (.bl _)
  · rename_i z p
    obtain ⟨b1, h⟩ := ite_b h
    obtain ⟨z1, z2⟩ := Bool.and_eq_true_iff.mp b1
    cases r
    cases rs with
    | cons r1 r2 =>
      cases r1; cases r2
      refine mt_removeprefix pins s σ H _ _ v us Q I rx rv ⟨SS z, SS p, rfl, rfl, ?_, ?_⟩
      · rw [show (SS z).length = z.length from SX.S_len z]
        exact line_size z1
      · rw [removeprefix_eq]
        exact Post.here S h _ (.str _)
  · rename_i kvs k
    obtain ⟨zk, h⟩ := ite_b h
    cases r with
    | @fdK p _ ks n1 h1 h2 =>
      cases rs with
      | cons r1 r2 =>
        cases r2
        obtain rfl : v = Value.ref p := rx
        cases rv with
        | cons q1 q2 =>
          cases q2
          have g : DGet H p _ (valV ks (keyV k)) := .inl ⟨ks, keyV k, .inl h1, keyV_rel r1 zk, rfl⟩
          refine d_get1 hu1 I g q1 fun w' s' I' rw' => ⟨_, H, I', rw', ?_⟩
          rcases dget_rel zk h2 with ⟨a, b⟩ | ⟨z, v, a, b, rr⟩
          · rw [a] at h
            rw [b]
            exact Post.here S h _ .non
          · rw [a] at h
            rw [b]
            exact Post.here S h _ rr
  · rename_i kvs k d0
    obtain ⟨zk, h⟩ := ite_b h
    cases r with
    | @fdK p _ ks n1 h1 h2 =>
      cases rs with
      | cons r1 r2 =>
        cases r2 with
        | cons r2 r3 =>
          cases r3
          obtain rfl : v = Value.ref p := rx
          cases rv with
          | cons q1 q2 =>
            cases q2 with
            | cons q2 q3 =>
              cases q3
              have g : DGet H p _ (valV ks (keyV k)) := .inl ⟨ks, keyV k, .inl h1, keyV_rel r1 zk, rfl⟩
              refine d_get2 hu1 I g q1 q2 fun w' s' I' rw' => ⟨_, H, I', rw', ?_⟩
              rcases dget_rel zk h2 with ⟨a, b⟩ | ⟨z, v, a, b, rr⟩
              · rw [a] at h
                rw [b]
                exact Post.here S h _ r2
              · rw [a] at h
                rw [b]
                exact Post.here S h _ rr
  · rename_i kvs k
    obtain ⟨zk, h⟩ := ite_b h
    obtain ⟨z1, z2⟩ := Bool.and_eq_true_iff.mp zk
    cases k with
    | str z =>
      cases rs with
      | cons r1 r2 =>
        cases r2; cases r1
        obtain ⟨p, es, n, ro, rfl, D1, en, er⟩ := wd_look z2 r (z := z)
        obtain rfl : v = Value.ref p := rx
        cases rv with
        | cons q1 q2 =>
          cases q2
          obtain ⟨t, rfl⟩ := q1
          have hm := PySem.W.mapOf_K (prog := X.prog) (w := X.w) I.kIn D1.at_ D1.lit
          refine call_meetsIn PySem.F.slot_dict_get hm.typeIs PySem.F.entry_dict_get (PySem.F.args_dict_get_2 _ _) (meets_dict_get (strKind X.prog X.w) p (strKind_is X.prog X.w (SS z) t) D1.low) ⟨_, hm, ?_⟩
          rw [PySem.W.find_K D1.at_ en]
          rcases er with ⟨e1, e2⟩ | ⟨y, uu, e1, e2, e3⟩
          · rw [e1] at h
            subst e2
            exact ⟨.non, H, I.tok _, rfl, Post.here S h _ .non⟩
          · rw [e1] at h
            subst e2
            exact ⟨.str (SS y), H, I.tok _, e3, Post.here S h _ (.str _)⟩
    | _ => exact absurd z1 Bool.false_ne_true
  · rename_i kvs k d0
    obtain ⟨zk, h⟩ := ite_b h
    obtain ⟨z1, z2⟩ := Bool.and_eq_true_iff.mp zk
    cases k with
    | str z =>
      cases rs with
      | cons r1 r2 =>
        cases r2 with
        | cons r2 r3 =>
          cases r3; cases r1
          obtain ⟨p, es, n, ro, rfl, D1, en, er⟩ := wd_look z2 r (z := z)
          obtain rfl : v = Value.ref p := rx
          cases rv with
          | cons q1 q2 =>
            cases q2 with
            | cons q2 q3 =>
              cases q3
              obtain ⟨t, rfl⟩ := q1
              have hm := PySem.W.mapOf_K (prog := X.prog) (w := X.w) I.kIn D1.at_ D1.lit
              refine call_meetsIn PySem.F.slot_dict_get hm.typeIs PySem.F.entry_dict_get (PySem.F.args_dict_get_3 _ _ _) (meets_dict_get_default (strKind X.prog X.w) p (strKind_is X.prog X.w (SS z) t) D1.low _) ⟨_, hm, ?_⟩
              rw [PySem.W.find_K D1.at_ en]
              rcases er with ⟨e1, e2⟩ | ⟨y, uu, e1, e2, e3⟩
              · rw [e1] at h
                subst e2
                exact ⟨_, H, I.tok _, q2, Post.here S h _ r2⟩
              · rw [e1] at h
                subst e2
                exact ⟨.str (SS y), H, I.tok _, e3, Post.here S h _ (.str _)⟩
    | _ => exact absurd z1 Bool.false_ne_true
  · rename_i a x0
    cases r with
    | @ref _ p q b hq =>
      obtain ⟨c0, ec, C0⟩ := S.there hq
      rw [ec] at h
      cases c0 with
      | lst xs =>
        obtain ⟨b1, h⟩ := ite_b h
        cases rs with
        | cons r1 r2 =>
          cases r2
          obtain ⟨h1, h2, ws, hp, rr⟩ := id C0
          exact mt_append pins s σ H _ _ v us Q I rx rv ⟨p, ws, _, rfl, rfl, hp, by rw [← rr.length]; exact line_lt b1, put_lst S hq C0 (rr.append (.one r1)) h⟩
      | _ => exact h.elim
  · rename_i a ys
    cases r with
    | @ref _ p q b hq =>
      obtain ⟨c0, ec, C0⟩ := S.there hq
      rw [ec] at h
      cases c0 with
      | lst xs =>
        obtain ⟨b1, h⟩ := ite_b h
        cases rs with
        | cons r1 r2 =>
          cases r2
          cases r1 with
          | fl g1 g2 =>
            obtain ⟨h1, h2, ws, hp, rr⟩ := id C0
            exact mt_extend pins s σ H _ _ v us Q I rx rv ⟨p, _, ws, _, rfl, rfl, hp, g1.2, by rw [← rr.length, ← g2.length]; exact line_size b1, put_lst S hq C0 (rr.append g2) h⟩
      | _ => exact h.elim
  · exact h.elim

theorem bm_first {b : BM} (hρ : EnvR X.K X.w T H φ ρ σ) (S : Sim X.K X.w T H φ m)
    (h : Post X.K X.w T W σ H φ ((Fe ρ m).bind fun d m => bmR b d Fr ρ m) fun d m' H' φ' => ∀ v, Rel X.K X.w T H' φ' d v → Q v H') :
    tE X.K X.w T W Fe σ H fun x H1 => ∃ d m1 φ1, Sim X.K X.w T H1 φ1 m1 ∧ Rel X.K X.w T H1 φ1 d x ∧ bmOk b d m1 = true ∧ tA X.K X.w T W Fr σ H1 fun vs H2 => ∃ ds m2 φ2, Sim X.K X.w T H2 φ2 m2 ∧ Rel X.K X.w T H2 φ2 d x ∧ Rels X.K X.w T H2 φ2 ds vs ∧
      Post X.K X.w T W σ H2 φ2 (bmF b d ds m2) fun d m' H' φ' => ∀ v, Rel X.K X.w T H' φ' d v → Q v H' := recv_first (g := bmOk b) (G := bmF b) hρ S h
/-- o.m(e, ..), a method of a text, a list, a dict -/
theorem c_bm (F : Fx X T W lv cl) (b : BM) (hf : f = b.nm) (he : PE X o (tE X.K X.w T W Fe)) (ha : PA X (e1 :: es) (tA X.K X.w T W Fr)) (hb : plainBase o = true) (hw : fewArgs (e1 :: es) apos pos = true) :
    PE X (.Call (.Attribute o f apos) (e1 :: es) [] pos) (tE X.K X.w T W fun ρ m => (Fe ρ m).bind fun d m => bmR b d Fr ρ m) := by
  refine ⟨fun pins s σ H Q I ⟨ρ, m, φ, hρ, S, h⟩ => ?_⟩
  have q := bm_first hρ S h
  have hs := star_cons (env := X.env) (Bool.and_eq_true_iff.mp hw).1
  obtain ⟨g1, g2⟩ := form_ok (X := X) hw
  subst hf
  refine wpAny_Call_method_late (base_ok hb) g1 g2 rfl (thn (he.run pins s σ H _ I q) fun v s1 ⟨x, H1, I1, rx, d, m1, φ1, S1, r, hok, q1⟩ => ?_)
  obtain ⟨f1, f2, f3⟩ := b.facts
  obtain ⟨t1, t2⟩ := bm_recv I1 rx S1 r hok
  refine ⟨b.ty, b.id, f1, f2, f3, t1, t2, ?_⟩
  have hA := ha.run pos pins s1 σ H1 _ I1 q1
  rw [hs.1] at hA ⊢
  refine Calls.callWith_builtin (by show (false || (backTo pos (starEach es X.env)).any (·.1)) = false; rw [(star_none hs.2).1]; rfl) (Calls.evalArgs_plain ?_)
  exact thn hA fun us s2 ⟨ws, H2, I2, rw_, ds, m2, φ2, S2, r2, rs2, q2⟩ => run_bm F I2 rx rw_ S2 r2 rs2 q2
end
end Pd

set_option maxHeartbeats 4000000
/-! Pd11: subscripts, slices, f-strings, isinstance. -/
namespace PdK
open PySem PySem.Calls PyProof.Rows Builtin PySem.W L2 HT
section
variable {prog : Program} {w : World} {A : Around} {E : Value → Shared → Prop} {s : Shared}
theorem sliceApplied_step {sl : Addr} {vl : Value} {lo : Option Int} {k : Int} {t : Tok} {n : Nat} {Q : Int × Int × Nat → Shared → Prop} (hs : s.heap.IsSliceOf sl vl .none (.int k t)) (pl : IsPart vl lo) (hk : k ≠ 0)
    (h : Q ((Builtin.Slice.sliceAdjust lo none k n).1, k, Builtin.Slice.slicePlaces (Builtin.Slice.sliceAdjust lo none k n).1 (Builtin.Slice.sliceAdjust lo none k n).2 k) s) : wpAny (model prog w) A (Builtin.Slice.sliceApplied (.ref sl) (pure (n : Int))) Q E s := by
  obtain ⟨os, hos, hcs, hds⟩ := id hs
  unfold Builtin.Slice.sliceApplied Builtin.Slice.sliceFields
  refine wpAny_bind (wpAny_bind (wpAny_field hos hds (x := vl) rfl (wpAny_bind (wpAny_field hos hds (x := .none) rfl (wpAny_bind (wpAny_field hos hds (x := .int k t) rfl (wpAny_pure ?_)))))))
  refine wpAny_bind (slicePart_int ?_)
  show wpAny _ _ (if (k == 0) = true then _ else _) _ _ s
  rw [if_neg (by simpa using hk)]
  refine wpAny_bind (slicePart_ pl (wpAny_bind (slicePart_none (wpAny_bind (wpAny_pure ?_)))))
  exact wpAny_pure h
theorem getItem_tuple_step {t sl : Addr} {items : Array Value} {vl : Value} {lo : Option Int} {k : Int} {tk : Tok} {Q : Value → Shared → Prop} (ht : IsTup s.heap t items) (hs : s.heap.IsSliceOf sl vl .none (.int k tk)) (pl : IsPart vl lo) (hk : k ≠ 0) (hk1 : k ≠ 1)
    (h : Q (.ref s.heap.objs.size) { s with heap := s.heap.push { cls := .type "tuple", data := .seq ((List.range (Builtin.Slice.slicePlaces (Builtin.Slice.sliceAdjust lo none k items.size).1 (Builtin.Slice.sliceAdjust lo none k items.size).2 k)).filterMap fun (j : Nat) => items[((Builtin.Slice.sliceAdjust lo none k items.size).1 + (j : Int) * k).toNat]?).toArray } })
    (hsz : ((List.range (Builtin.Slice.slicePlaces (Builtin.Slice.sliceAdjust lo none k items.size).1 (Builtin.Slice.sliceAdjust lo none k items.size).2 k)).filterMap fun (j : Nat) => items[((Builtin.Slice.sliceAdjust lo none k items.size).1 + (j : Int) * k).toNat]?).length ≤ sizeLine) : wpAny (model prog w) A (getItem (.ref t) (.ref sl)) Q E s := by
  have htake : sizeOk (.seq ((List.range (Builtin.Slice.slicePlaces (Builtin.Slice.sliceAdjust lo none k items.size).1 (Builtin.Slice.sliceAdjust lo none k items.size).2 k)).filterMap fun (j : Nat) => items[((Builtin.Slice.sliceAdjust lo none k items.size).1 + (j : Int) * k).toNat]?).toArray) := by
    show _ ≤ sizeLine
    rw [List.size_toArray]
    exact hsz
  obtain ⟨os, hos, hcs, hds⟩ := id hs
  have hTs : s.TypeIs (.ref sl) "slice" := ⟨os, hos, hcs⟩
  unfold getItem
  try with_reducible refine wpAny_holding ?_
  first | refine wpAny_bind (wpAny_pure ?_) | skip
  refine wpAny_bind (wpAny_sequenceKey ht.typeIs (by decide) ?_)
  refine wpAny_bind (wpAny_callSpecial?_slot (name := Str.ofString "__getitem__") ht.typeIs PyProof.Rows.slot_tuple_getitem
    (wpAny_call_entry PyProof.Rows.slot_tuple_getitem ht.typeIs entry_tuple_getitem ?_ (args_tuple_getitem _ _)))
  show wpAny _ _ (Builtin.Tuple.tupleItemsOf (.ref t) >>= _) _ _ s
  refine wpAny_bind (tupleItemsOf_ ht ?_)
  refine wpAny_bind (wpAny_typeOf hTs ?_)
  rw [if_pos (by decide)]
  refine wpAny_bind (sliceApplied_step hs pl hk ?_)
  have hno : ¬ (((Builtin.Slice.sliceAdjust lo none k items.size).1 == 0 && k == 1 && (Builtin.Slice.slicePlaces (Builtin.Slice.sliceAdjust lo none k items.size).1 (Builtin.Slice.sliceAdjust lo none k items.size).2 k) == items.size) = true) := by
    intro q
    rw [Bool.and_eq_true, Bool.and_eq_true] at q
    exact hk1 (eq_of_beq q.1.2)
  show wpAny _ _ (if ((Builtin.Slice.sliceAdjust lo none k items.size).1 == 0 && k == 1 && (Builtin.Slice.slicePlaces (Builtin.Slice.sliceAdjust lo none k items.size).1 (Builtin.Slice.sliceAdjust lo none k items.size).2 k) == items.size) = true then _ else _) _ _ s
  rw [if_neg hno]
  first
    | exact wpAny_bind (m := Builtin.Tuple.tupleExact _) (wpAny_newObj_type (wpAny_pure ⟨_, rfl, wpAny_pure h⟩) htake)
    | exact wpAny_bind (m := Builtin.Tuple.tupleExact _) (wpAny_newObj_type (wpAny_bind (wpAny_pure (wpAny_pure ⟨_, rfl, wpAny_pure h⟩))) htake)
    | exact wpAny_bind (wpAny_bind (m := Builtin.Tuple.tupleExact _) (wpAny_newObj_type (wpAny_pure (wpAny_pure ⟨_, rfl, wpAny_pure h⟩)) htake))
    | exact wpAny_bind (wpAny_bind (m := Builtin.Tuple.tupleExact _) (wpAny_newObj_type (wpAny_pure ⟨_, rfl, wpAny_pure h⟩) htake))
end
end PdK
namespace Pd
open PySem PySem.Spec PyProof.Rows L2
/-- no slice, no other thing that a subscript treats in its own way -/
def plainIx : Expr → Bool
  | .Slice _ _ _ _ => false
  | _ => true
theorem plainIx_ok {b : Expr} (h : plainIx b = true) : PlainIx b := by
  intro o i
  cases b <;> first | rfl | cases h
theorem placeOf_atI {α : Type} {xs : List α} {i : Int} {j : Nat} {v : α} (h : placeOf xs.length i = some j) (hv : xs[j]? = some v) : atI xs i = some v := by
  unfold atI
  have : ixN xs.length i = some j := by
    unfold placeOf at h
    unfold ixN
    exact h
  rw [this]
  exact hv
section
variable {X : Cx} {T : Tab} {W : WX} {lv : Nat} {cl : Call} {pins : List (Addr × Obj)} {σ : L2.St} {H : Hp} {s : Shared} {φ : Foot} {m : M} {d e : D} {ds : List D} {x y : V} {vs : List V} {v u : Value} {us : List Value} {A : Around} {Q : VK}
variable {a b : Expr} {Fa Fb : Env → M → R D} {pos p2 : Pos} {ρ : Env}
theorem dget_mem : ∀ {kvs : List (D × D)} {k z : D}, dget kvs k = some z → (k, z) ∈ kvs
  | [], _, _, h => by cases h
  | (a, b) :: r, k, z, h => by
    have h : (bif D.beq a k then some b else dget r k) = some z := h
    cases q : D.beq a k with
    | true =>
      rw [q] at h
      cases h
      rw [D.beq_eq a k q]
      exact .head _
    | false =>
      rw [q] at h
      exact .tail _ (dget_mem h)
theorem blTup_of {k : D} (h : blTup k = true) : ∃ bs : List Bool, k = .tup (bs.map .bl) := by
  cases k with
  | tup xs =>
    replace h : xs.all isBlD = true := h
    induction xs with
    | nil => exact ⟨[], rfl⟩
    | cons x xs ih =>
      rw [List.all_cons, Bool.and_eq_true] at h
      obtain ⟨bs, e⟩ := ih h.2
      cases x with
      | bl b =>
        injection e with e
        exact ⟨b :: bs, by rw [e]; rfl⟩
      | _ => exact absurd h.1 Bool.false_ne_true
  | _ => cases h
theorem strKeys_mem {kvs : List (D × D)} {k z : D} (h : strKeys kvs = true) (hm : (k, z) ∈ kvs) : isStrD k = true := List.all_eq_true.mp (Bool.and_eq_true_iff.mp h).2 _ hm
theorem run_idx (F : Fx X T W lv cl) (value slice : Expr) (hs : subscripted slice false v u = operate [v, u] (getItem v u)) (I : Inv X pins σ H s) (rx : RelV x v) (ry : RelV y u) (S : Sim X.K X.w T H φ m) (r : Rel X.K X.w T H φ d x) (r' : Rel X.K X.w T H φ e y)
    (h : Post X.K X.w T W σ H φ (idxF d e m) fun d m' H' φ' => ∀ v, Rel X.K X.w T H' φ' d v → Q v H') : wpAny (model X.prog X.w) X.A (subscriptTail value slice v u) (EP X pins σ Q) X.xe s := by
  have hu := F.units
  have hu1 : X.A.units + 1 < cLine := by omega
  unfold idxF at h
  split at h
  · rename_i kvs
    obtain ⟨zk, h⟩ := ite_b h
    cases r with
    | @fdK p _ ks n1 h1 h2 =>
      obtain rfl : v = Value.ref p := rx
      rcases dget_rel zk h2 with ⟨a, b⟩ | ⟨z, w', a, b, rr⟩
      · rw [a] at h
        exact h.elim
      · rw [a] at h
        have g : DGet H p y (some w') := .inl ⟨ks, keyV e, .inl h1, keyV_rel r' zk, b.symm⟩
        have hd : s.TypeIs (.ref p) "dict" := (tyV_is (X := X) (T := "dict") I (show RelV (.ref p) (.ref p) from rfl) (.inr (.inr (.inl ⟨rfl, .inl ⟨ks, h1⟩⟩)))).1
        exact tail_any hd slot_dict_getitem.lookup (d_getItem hu1 I g ry fun w2 s' I' rw' => ⟨w', H, I', rw', Post.here S h _ rr⟩) hs
  · rename_i kvs
    cases ed : dget kvs e with
    | none =>
      simp only [ed] at h
      exact h.elim
    | some z =>
      simp only [ed] at h
      cases r with
      | @wdS p _ hw =>
        cases e with
        | str q =>
          cases r'
          have h2 := hw.2.2 q
          rw [ed] at h2
          cases z with
          | str y =>
            exact ix_kdict value slice pins s σ H (.ref p) (.str (SS q)) v u Q I rx ry ⟨p, SS q, _, rfl, rfl, h2, Post.here S h _ (.str _)⟩ hs
          | _ => exact h2.elim
        | _ => exact absurd (strKeys_mem hw.1 (dget_mem ed)) Bool.false_ne_true
      | @wdB p _ hw =>
        obtain ⟨bs, rfl⟩ := blTup_of (List.all_eq_true.mp hw.1 _ (dget_mem ed))
        cases r' with
        | @tup q _ ws a1 a2 =>
          have ew : ws = bs.map V.bl := bls_rel a2 (by
            clear a2 a1 ed h
            induction bs with
            | nil => rfl
            | cons b0 bs ih =>
              show (blsOf (bs.map D.bl)).map (b0 :: ·) = some (b0 :: bs)
              rw [ih]
              rfl)
          have h2 := hw.2.2 bs
          rw [ed] at h2
          obtain rfl : v = Value.ref p := rx
          obtain rfl : u = Value.ref q := ry
          obtain ⟨o, o1, o2, o3⟩ := hw.2.1
          cases z with
          | str yz =>
            refine tail_any ⟨o, I.kIn p o o1, o2⟩ slot_dict_getitem.lookup ?_ hs
            exact h2 X pins σ H s q _ rfl rfl (by omega) I (ew ▸ a1.sq) fun t' t I' => ⟨.str (SS yz), H, I', ⟨t, rfl⟩, Post.here S h _ (.str _)⟩
          | _ => exact h2.elim
  · rename_i z i
    cases ei : placeOf z.length i with
    | none =>
      simp only [ei] at h
      exact h.elim
    | some j =>
      simp only [ei] at h
      cases ec : z[j]? with
      | none =>
        simp only [ec] at h
        exact h.elim
      | some c =>
        simp only [ec] at h
        obtain ⟨zl, h⟩ := ite_b h
        cases r; cases r'
        refine ix_str value slice pins s σ H _ _ v u Q I rx ry ⟨SS z, i, c, rfl, rfl, ?_, placeOf_atI ei ec, Post.here S h _ (.str [c])⟩ hs
        rw [show (SS z).length = z.length from SX.S_len z]
        exact line_size zl
  · rename_i i _ _ _
    cases ex : itemsOf m d with
    | none =>
      simp only [ex] at h
      exact h.elim
    | some xs =>
      simp only [ex] at h
      cases ei : placeOf xs.length i with
      | none =>
        simp only [ei] at h
        exact h.elim
      | some j =>
        simp only [ei] at h
        cases ec : xs[j]? with
        | none =>
          simp only [ec] at h
          exact h.elim
        | some z =>
          simp only [ec] at h
          obtain ⟨p, ws, rfl, hq, rs⟩ := items_sq S r ex
          obtain ⟨w', e1, rr⟩ := rs.get ec
          have hat : atI ws i = some w' := placeOf_atI (by rw [← rs.length]; exact ei) e1
          cases r'
          rcases hq with hq | hq
          · exact ix_list value slice pins s σ H _ _ v u Q I rx ry ⟨p, ws, i, w', rfl, rfl, hq, hat, Post.here S h _ rr⟩ hs
          · exact ix_tup value slice pins s σ H _ _ v u Q I rx ry ⟨p, ws, i, w', rfl, rfl, hq, hat, Post.here S h _ rr⟩ hs
  · exact h.elim
/-- x[i] -/
theorem c_idx (F : Fx X T W lv cl) (ha : PE X a (tE X.K X.w T W Fa)) (hb : PE X b (tE X.K X.w T W Fb)) (hs : plainIx b = true) : PE X (.Subscript a b pos) (tE X.K X.w T W fun ρ m => (Fa ρ m).bind fun x m => (Fb ρ m).bind fun y m => idxF x y m) := by
  refine ⟨fun pins s σ H Q I ⟨ρ, m, φ, hρ, S, h⟩ => ?_⟩
  have q := first (Qv := fun v H1 => tE X.K X.w T W Fb σ H1 fun u H2 => ∃ d e m2 φ2, Sim X.K X.w T H2 φ2 m2 ∧ Rel X.K X.w T H2 φ2 d v ∧ Rel X.K X.w T H2 φ2 e u ∧ Post X.K X.w T W σ H2 φ2 (idxF d e m2) fun d m' H' φ' => ∀ v, Rel X.K X.w T H' φ' d v → Q v H') hρ S h
    fun d m1 v H1 φ1 e1 S1 ρ1 r q => first ρ1 S1 q fun e m2 u H2 φ2 e2 S2 ρ2 r2 q2 => ⟨d, e, m2, φ2, S2, r.mono e2, r2, q2⟩
  exact Subscript_ (binT ha hb I q fun v u s2 x y H2 I2 rx ry ⟨d, e, m2, φ2, S2, r1, r2, q2⟩ => run_idx F a b (plainIx_ok hs v u) I2 rx ry S2 r1 r2 q2)
/-! ### slices -/
def tO (K : PySem.W.Frag) (w : World) (T : Tab) (W : WX) (F : Env → M → R (Option Int)) : TO := fun σ H Q => ∃ ρ m φ, EnvR K w T H φ ρ σ ∧ Sim K w T H φ m ∧ Post K w T W σ H φ (F ρ m) fun b m' H' φ' => Q b H'
theorem o_none : PO X none (tO X.K X.w T W fun _ m => .ok none m) := ⟨fun pins s σ H Q I ⟨ρ, m, φ, hρ, S, h⟩ => po_none.run pins s σ H Q I (Post.here S h)⟩
theorem o_some (ha : PE X a (tE X.K X.w T W Fa)) : PO X (some a) (tO X.K X.w T W fun ρ m => (Fa ρ m).bind fun d m => match d with
    | .int i => .ok (some i) m
    | _ => .bad) := by
  refine ⟨fun pins s σ H Q I ⟨ρ, m, φ, hρ, S, h⟩ => (po_some ha).run pins s σ H Q I ?_⟩
  refine first hρ S h fun d m1 v H1 φ1 e1 S1 ρ1 r q => ?_
  cases d with
  | int i =>
    cases r
    exact ⟨i, rfl, Post.here S1 q⟩
  | _ => exact q.elim
theorem firstO {F : Env → M → R (Option Int)} {β : Type} {G : Option Int → M → R β} {P : β → M → Hp → Foot → Prop} {Qv : Option Int → Hp → Prop} (hρ : EnvR X.K X.w T H φ ρ σ) (S : Sim X.K X.w T H φ m) (h : Post X.K X.w T W σ H φ ((F ρ m).bind G) P)
    (k : ∀ d m1 H1 φ1, Ext H φ H1 φ1 → Sim X.K X.w T H1 φ1 m1 → EnvR X.K X.w T H1 φ1 ρ σ → Post X.K X.w T W σ H1 φ1 (G d m1) P → Qv d H1) : tO X.K X.w T W F σ H Qv :=
  ⟨ρ, m, φ, hρ, S, h.bind.mono (Ext.refl _ _) fun d m1 H1 φ1 e1 s1 q => k d m1 H1 φ1 e1 s1 (hρ.mono e1) q⟩
theorem clip_ix (n d : Nat) (o : Option Int) : clip n d o = HT.sIx n d o := by
  cases o with
  | none => rfl
  | some i =>
    show (if 0 ≤ i then min i.toNat n else (i + n).toNat) = (if i < 0 then (i + (n : Int)).toNat else min i.toNat n)
    by_cases h : i < 0
    · rw [if_neg (show ¬ 0 ≤ i by omega), if_pos h]
    · rw [if_pos (show 0 ≤ i by omega), if_neg h]
theorem Rels.cut {K : PySem.W.Frag} {w : World} {xs : List D} {lo hi : Option Int} (r : Rels K w T H φ xs vs) : Rels K w T H φ (cut xs lo hi) (cutV vs lo hi) := by
  unfold Pd.cut cutV
  rw [clip_ix, clip_ix, ← r.length]
  exact (r.drop _).take _
theorem run_sl {lo hi : Option Int} {vl vu : Value} {sl : Addr} (I : Inv X pins σ H s) (rx : RelV x v) (S : Sim X.K X.w T H φ m) (r : Rel X.K X.w T H φ d x) (hs : s.heap.IsSliceOf sl vl vu .none) (pl : IsPart vl lo) (pu : IsPart vu hi)
    (h : Post X.K X.w T W σ H φ (slF d lo hi m) fun d m' H' φ' => ∀ v, Rel X.K X.w T H' φ' d v → Q v H') :
    ∃ T id, typeLookup (.type T) "__getitem__" = pure (some (.builtin id)) ∧ s.TypeIs v T ∧ wpAny (model X.prog X.w) X.A (getItem v (.ref sl)) (EP X pins σ Q) X.xe s := by
  unfold slF at h
  split at h
  · rename_i z
    obtain ⟨b1, h⟩ := ite_b h
    cases r
    refine sl_str pins s σ H _ v vl vu lo hi sl Q I rx hs pl pu ⟨SS z, rfl, ?_, ?_⟩
    · rw [show (SS z).length = z.length from SX.S_len z]
      exact line_size b1
    · have : cutS (SS z) lo hi = SS (cut z lo hi) := by
        unfold cutS Pd.cut
        rw [clip_ix, clip_ix, show (SS z).length = z.length from SX.S_len z]
      rw [this]
      exact Post.here S h _ (.str _)
  · rename_i xs
    cases r with
    | @tup p _ vs a1 a2 =>
      refine sl_tupA pins s σ H _ v vl vu lo hi sl Q I rx hs pl pu ⟨p, vs, rfl, a1.sq, fun ⟨z1, z2⟩ => ?_, fun _ q hq => new_tup S a2.cut h q hq⟩
      have e : cut xs lo hi = xs := by
        unfold Pd.cut
        rw [clip_ix, clip_ix, a2.length, z1, z2, List.drop_zero, ← a2.length, Nat.sub_zero, List.take_of_length_le (Nat.le_refl _)]
      rw [e] at h
      exact Post.here S h _ (.tup a1 a2)
  · rename_i xs
    cases r with
    | @fl p _ vs a1 a2 =>
      exact sl_list pins s σ H _ v vl vu lo hi sl Q I rx hs pl pu ⟨p, vs, rfl, a1.sq, fun q hq => new_fl S a2.cut h q hq⟩
  · rename_i a0
    cases r with
    | @ref _ p q b hq =>
      obtain ⟨c0, ec, C0⟩ := S.there hq
      rw [ec] at h
      cases c0 with
      | lst xs =>
        obtain ⟨_, _, ws, hp, rr⟩ := C0
        exact sl_list pins s σ H _ v vl vu lo hi sl Q I rx hs pl pu ⟨p, ws, rfl, .inl (.inl hp), fun q hq => new_fl S rr.cut h q hq⟩
      | _ => exact h.elim
  · exact h.elim
variable {lo hi : Option Expr} {Fl Fh : Env → M → R (Option Int)}
/-- x[lo:hi] -/
theorem c_sl (ha : PE X a (tE X.K X.w T W Fa)) (hl : PO X lo (tO X.K X.w T W Fl)) (hh : PO X hi (tO X.K X.w T W Fh)) :
    PE X (.Subscript a (.Slice lo hi none p2) pos) (tE X.K X.w T W fun ρ m => (Fa ρ m).bind fun x m => (Fl ρ m).bind fun l m => (Fh ρ m).bind fun h m => slF x l h m) := by
  refine ⟨fun pins s σ H Q I ⟨ρ, m, φ, hρ, S, h⟩ => ?_⟩
  have q := first (Qv := fun x H1 => tO X.K X.w T W Fl σ H1 fun l H2 => tO X.K X.w T W Fh σ H2 fun u H3 => ∃ d m3 φ3, Sim X.K X.w T H3 φ3 m3 ∧ Rel X.K X.w T H3 φ3 d x ∧ Post X.K X.w T W σ H3 φ3 (slF d l u m3) fun d m' H' φ' => ∀ v, Rel X.K X.w T H' φ' d v → Q v H') hρ S h
    fun d m1 v H1 φ1 e1 S1 ρ1 r q => firstO ρ1 S1 q fun l m2 H2 φ2 e2 S2 ρ2 q2 => firstO ρ2 S2 q2 fun u m3 H3 φ3 e3 S3 ρ3 q3 => ⟨d, m3, φ3, S3, (r.mono e2).mono e3, q3⟩
  refine Subscript_ (thn (ha.run pins s σ H _ I q) fun v s1 ⟨x, H1, I1, r1, q1⟩ => ?_)
  refine wpAny_Slice (thn (hl.run pins s1 σ H1 _ I1 q1) fun vl s2 ⟨l, H2, I2, pl, q2⟩ => thn (hh.run pins s2 σ H2 _ I2 q2) fun vu s3 ⟨u, H3, I3, pu, q3⟩ => ?_)
  obtain ⟨d, m3, φ3, S3, rd, q3⟩ := q3
  rw [evalPart_none]
  refine wpAny_pure ?_
  have I4 : Inv X pins σ H3 { s3 with heap := s3.heap.push { cls := .type "slice", data := .fields #[vl, vu, .none] } } := I3.kept (t' := s3.toks) fun b ob q => Heap.get?_push_of_some _ q
  obtain ⟨T', id, hT, ht, hg⟩ := run_sl (sl := s3.heap.objs.size) I4 r1 S3 rd (Heap.IsSliceOf.new ..) pl pu q3
  show wpAny (model X.prog X.w) X.A (subscriptTail a (.Slice lo hi none p2) v (.ref s3.heap.objs.size)) (EP X pins σ Q) X.xe { s3 with heap := s3.heap.push { cls := .type "slice", data := .fields #[vl, vu, .none] } }
  exact tail_any (ops := [.ref s3.heap.objs.size, v]) ht hT hg (by with_unfolding_all rfl)
end
end Pd

set_option maxHeartbeats 4000000
/-! Pd12: slices by a step, f-strings, isinstance, list(range(n)). -/
namespace Pd
open PySem PySem.Spec PyProof.Rows L2
section
variable {X : Cx} {T : Tab} {W : WX} {lv : Nat} {cl : Call} {pins : List (Addr × Obj)} {σ : L2.St} {H : Hp} {s : Shared} {φ : Foot} {m : M} {d e : D} {ds : List D} {x y : V} {vs : List V} {v u : Value} {us : List Value} {A : Around} {Q : VK}
variable {a b c : Expr} {Fa Fb Fc : Env → M → R D} {pos p2 p p3 pos3 : Pos} {ρ : Env}
/-! ### slices by a step -/
theorem Rels.pick {K : PySem.W.Frag} {w : World} {xs : List D} (r : Rels K w T H φ xs vs) (f : Nat → Nat) : ∀ is : List Nat, Rels K w T H φ (is.filterMap fun j => xs[f j]?) (is.filterMap fun j => vs[f j]?)
  | [] => .nil
  | i :: is => by
    have ih := r.pick f is
    rw [List.filterMap_cons, List.filterMap_cons]
    cases e : xs[f i]? with
    | none =>
      have : vs[f i]? = none := by
        rw [List.getElem?_eq_none_iff] at e ⊢
        rw [← r.length]
        exact e
      rw [this]
      exact ih
    | some z =>
      obtain ⟨v, e1, e2⟩ := r.get e
      rw [e1]
      exact .cons e2 ih
theorem vals_pick {its : List Value} (r : Vals vs its) (f : Nat → Nat) : ∀ is : List Nat, Vals (is.filterMap fun j => vs[f j]?) (is.filterMap fun j => its[f j]?)
  | [] => .nil
  | i :: is => by
    have ih := vals_pick r f is
    rw [List.filterMap_cons, List.filterMap_cons]
    cases e : vs[f i]? with
    | none =>
      have : its[f i]? = none := by
        rw [List.getElem?_eq_none_iff] at e ⊢
        rw [← r.length]
        exact e
      rw [this]
      exact ih
    | some z =>
      obtain ⟨v, e1, e2⟩ := r.get e
      rw [e1]
      exact .cons e2 ih
theorem run_stp {lo : Option Int} {vl : Value} {sl : Addr} {k : Int} {t : Tok} (I : Inv X pins σ H s) (rx : RelV x v) (S : Sim X.K X.w T H φ m) (r : Rel X.K X.w T H φ d x) (hs : s.heap.IsSliceOf sl vl .none (.int k t)) (pl : IsPart vl lo)
    (h : Post X.K X.w T W σ H φ (stpF d lo (.int k) m) fun d m' H' φ' => ∀ v, Rel X.K X.w T H' φ' d v → Q v H') :
    ∃ T id, typeLookup (.type T) "__getitem__" = pure (some (.builtin id)) ∧ s.TypeIs v T ∧ wpAny (model X.prog X.w) X.A (getItem v (.ref sl)) (EP X pins σ Q) X.xe s := by
  unfold stpF at h
  split at h
  · rename_i xs j hj
    cases hj
    obtain ⟨b1, h⟩ := ite_b h
    obtain ⟨z1, z2⟩ := Bool.and_eq_true_iff.mp b1
    obtain ⟨z2, z3⟩ := Bool.and_eq_true_iff.mp z2
    have hk : k ≠ 0 := by simpa using z1
    have hk1 : k ≠ 1 := by simpa using z2
    cases r with
    | @tup p _ vs a1 a2 =>
      obtain rfl : v = Value.ref p := rx
      obtain ⟨its, rv, pe, pz⟩ := I.tuple a1.sq
      have l1 := a2.length
      have l2 := rv.length
      have el : its.toArray.size = xs.length := by rw [List.size_toArray]; omega
      refine ⟨"tuple", _, PyProof.Rows.slot_tuple_getitem.lookup, pe.typeIs, ?_⟩
      have rp := a2.pick (fun j => ((Builtin.Slice.sliceAdjust lo none k xs.length).1 + (j : Int) * k).toNat) (List.range (Builtin.Slice.slicePlaces (Builtin.Slice.sliceAdjust lo none k xs.length).1 (Builtin.Slice.sliceAdjust lo none k xs.length).2 k))
      have rq := vals_pick rv (fun j => ((Builtin.Slice.sliceAdjust lo none k xs.length).1 + (j : Int) * k).toNat) (List.range (Builtin.Slice.slicePlaces (Builtin.Slice.sliceAdjust lo none k xs.length).1 (Builtin.Slice.sliceAdjust lo none k xs.length).2 k))
      have hz : (pickT xs lo k).length ≤ sizeLine := line_size z3
      have hz1 := rp.length
      have hz2 := rq.length
      have eit : ∀ i : Nat, its.toArray[i]? = its[i]? := fun i => by simp
      refine PdK.getItem_tuple_step pe hs pl hk hk1 ?_ ?_
      · rw [el]
        simp only [eit]
        refine ⟨.ref s.heap.objs.size, _, I.laid (t' := s.toks) (o := .tup _) (fun b ob q => Heap.get?_push_of_some _ q) (Nat.le_refl _) ⟨?_, _, rq, IsTup.new _ _⟩, rfl, ?_⟩
        · rw [← hz1]
          exact hz
        · exact new_tup S rp h _ (I.hok.fresh (Nat.le_refl _))
      · rw [el]
        simp only [eit]
        rw [← hz2, ← hz1]
        exact hz
  · rename_i xs j hj
    cases hj
    obtain ⟨b1, h⟩ := ite_b h
    obtain ⟨z1, z2⟩ := Bool.and_eq_true_iff.mp b1
    obtain ⟨z2, z3⟩ := Bool.and_eq_true_iff.mp z2
    have hk : k ≠ 0 := by simpa using z1
    cases r with
    | @fl p _ vs a1 a2 =>
      obtain rfl : v = Value.ref p := rx
      obtain ⟨its, rv, pe, pz⟩ := I.list a1.sq
      have l1 := a2.length
      have l2 := rv.length
      have el : its.toArray.size = xs.length := by rw [List.size_toArray]; omega
      refine ⟨"list", _, PySem.slot_list_getitem.lookup, pe.isList.typeIs, ?_⟩
      have rp := a2.pick (fun j => j) (sliceRange (sliceBounds lo none (some k) xs.length).1 (sliceBounds lo none (some k) xs.length).2.1 (sliceBounds lo none (some k) xs.length).2.2)
      have rq := vals_pick rv (fun j => j) (sliceRange (sliceBounds lo none (some k) xs.length).1 (sliceBounds lo none (some k) xs.length).2.1 (sliceBounds lo none (some k) xs.length).2.2)
      have hz : (pickF xs lo k).length ≤ sizeLine := line_size z3
      have hz1 := rp.length
      have eit : ∀ i : Nat, its.toArray[i]? = its[i]? := fun i => by simp
      refine wpAny_getItem_list_slice pe.isList hs pl .none (.int k t) (by simpa using hk) ?_ (by rw [el]; omega)
      have ep : slicePick its.toArray lo none (some k) = ((sliceRange (sliceBounds lo none (some k) xs.length).1 (sliceBounds lo none (some k) xs.length).2.1 (sliceBounds lo none (some k) xs.length).2.2).filterMap fun j => its[j]?).toArray := by
        unfold slicePick
        rw [el]
        simp only [eit]
      rw [ep]
      refine ⟨.ref _, _, I.laid (t' := s.toks) (o := .lst _) (fun b ob q => Heap.get?_push_of_some _ q) (Nat.le_refl _) ⟨?_, _, 0, rq, Heap.get?_push_size _ rfl⟩, rfl, ?_⟩
      · rw [← hz1]
        exact hz
      · exact new_fl S rp h _ (I.hok.fresh (Nat.le_refl _))
  · exact h.elim
variable {lo : Option Expr} {Fl : Env → M → R (Option Int)}
/-- x[lo::k] -/
theorem c_stp (ha : PE X a (tE X.K X.w T W Fa)) (hl : PO X lo (tO X.K X.w T W Fl)) (hk : PE X b (tE X.K X.w T W Fb)) :
    PE X (.Subscript a (.Slice lo none (some b) p2) pos) (tE X.K X.w T W fun ρ m => (Fa ρ m).bind fun x m => (Fl ρ m).bind fun l m => (Fb ρ m).bind fun z m => stpF x l z m) := by
  refine ⟨fun pins s σ H Q I ⟨ρ, m, φ, hρ, S, h⟩ => ?_⟩
  have q := first (Qv := fun x H1 => tO X.K X.w T W Fl σ H1 fun l H2 => tPart (tE X.K X.w T W Fb) σ H2 fun u H3 => ∃ k d m3 φ3, u = some k ∧ Sim X.K X.w T H3 φ3 m3 ∧ Rel X.K X.w T H3 φ3 d x ∧ Post X.K X.w T W σ H3 φ3 (stpF d l (.int k) m3) fun d m' H' φ' => ∀ v, Rel X.K X.w T H' φ' d v → Q v H') hρ S h
    fun d m1 v H1 φ1 e1 S1 ρ1 r q => firstO ρ1 S1 q fun l m2 H2 φ2 e2 S2 ρ2 q2 => first ρ2 S2 q2 fun z m3 w' H3 φ3 e3 S3 ρ3 r3 q3 => by
      cases z with
      | int k =>
        cases r3
        exact ⟨k, rfl, k, d, m3, φ3, rfl, S3, (r.mono e2).mono e3, q3⟩
      | _ =>
        have q3 : Post X.K X.w T W σ H3 φ3 (stpF d l _ m3) _ := q3
        unfold stpF at q3
        split at q3
        · rename_i hh; cases hh
        · rename_i hh; cases hh
        · exact q3.elim
  refine Subscript_ (thn (ha.run pins s σ H _ I q) fun v s1 ⟨x, H1, I1, r1, q1⟩ => ?_)
  refine wpAny_Slice (thn (hl.run pins s1 σ H1 _ I1 q1) fun vl s2 ⟨l, H2, I2, pl, q2⟩ => ?_)
  refine thn (po_none.run pins s2 σ H2 (fun o H3 => o = none ∧ H3 = H2) I2 ⟨rfl, rfl⟩) fun vu s3 ⟨o, H3, I3, pu, eu, e3⟩ => ?_
  subst eu e3
  refine thn ((po_some hk).run pins s3 σ H3 _ I3 q2) fun vk s4 ⟨o, H4, I4, pk, k, d, m3, φ3, eo, S3, rd, q3⟩ => ?_
  subst eo
  cases pu with
  | none =>
    cases pk with
    | int _ t =>
      have I5 : Inv X pins σ H4 { s4 with heap := s4.heap.push { cls := .type "slice", data := .fields #[vl, .none, .int k t] } } := I4.kept (t' := s4.toks) fun b ob q => Heap.get?_push_of_some _ q
      obtain ⟨T', id, hT, ht, hg⟩ := run_stp (sl := s4.heap.objs.size) (t := t) I5 r1 S3 rd (Heap.IsSliceOf.new ..) pl q3
      show wpAny (model X.prog X.w) X.A (subscriptTail a (.Slice lo none (some b) p2) v (.ref s4.heap.objs.size)) (EP X pins σ Q) X.xe { s4 with heap := s4.heap.push { cls := .type "slice", data := .fields #[vl, .none, .int k t] } }
      exact tail_any (ops := [v, .ref s4.heap.objs.size]) ht hT hg (by with_unfolding_all rfl)
end
end Pd

set_option maxHeartbeats 4000000
/-! Pd13: f-strings, isinstance, list(range(n)). -/
namespace Pd
open PySem PySem.Spec PyProof.Rows L2
section
variable {X : Cx} {T : Tab} {W : WX} {lv : Nat} {cl : Call} {pins : List (Addr × Obj)} {σ : L2.St} {H : Hp} {s : Shared} {φ : Foot} {m : M} {d e : D} {ds : List D} {x y : V} {vs : List V} {v u : Value} {us : List Value} {A : Around} {Q : VK}
variable {a b c : Expr} {Fa Fb Fc : Env → M → R D} {pos p2 p p3 pos3 : Pos} {ρ : Env}
/-- a part of an f-string: its text -/
def fsS (F : Env → M → R D) (ρ : Env) (m : M) : R D := (F ρ m).bind fun d m => (fsR d m).bind fun s m => .ok (.str s) m
theorem fs_len {d : D} {z : List Nat} (h : fsF d = some z) : z.length ≤ 2000 := by
  unfold fsF at h
  split at h
  · rename_i q
    cases hq : Nat.ble q.length 2000 with
    | true =>
      rw [hq] at h
      cases h
      exact Nat.le_of_ble_eq_true hq
    | false =>
      rw [hq] at h
      cases h
  · rename_i i
    split at h
    · rename_i hi
      cases h
      have hlt : i.toNat < 10 ^ 6 := by omega
      unfold numL
      rw [List.length_map]
      have := (Nat.length_toDigits_le_iff (b := 10) (n := i.toNat) (k := 6) (by omega) (by omega)).mpr hlt
      omega
    · cases h
  · cases h
/-- {e} -/
theorem f_fmt (he : PE X a (tE X.K X.w T W Fa)) : PE X (.FormattedValue a (-1) none pos) (tE X.K X.w T W (fsS Fa)) := by
  refine PE_imp (pe_fmt he) fun σ H Q ⟨ρ, m, φ, hρ, S, h⟩ => ?_
  refine first hρ S h fun d m1 v H1 φ1 e1 S1 ρ1 r q => ?_
  unfold fsR at q
  cases e : fsF d with
  | none =>
    rw [e] at q
    exact q.elim
  | some z =>
    rw [e] at q
    have q := Post.here (d := D.str z) S1 q _ (.str z)
    have hl := fs_len e
    unfold fsF at e
    split at e
    · rename_i w0
      cases hq : Nat.ble w0.length 2000 with
      | true =>
        rw [hq] at e
        cases e
        cases r
        refine .inl ⟨_, rfl, ?_, q⟩
        rw [show (SS z).length = z.length from SX.S_len z]
        have : (sizeLine : Nat) = 16777216 := by decide
        omega
      | false =>
        rw [hq] at e
        cases e
    · rename_i i
      split at e
      · rename_i hi
        cases e
        cases r
        refine .inr ⟨i, rfl, ?_, ?_⟩
        · have : i.natAbs < 2 ^ 20 := by omega
          by_cases h0 : i.natAbs = 0
          · rw [h0]; decide
          · have := (Nat.log2_lt h0).mpr this
            omega
        · have e2 : (toString i : String) = toString ((i.toNat : Nat) : Int) := by
            congr 1
            omega
          have e3 : Str.ofString (toString i) = SS (numL i.toNat) := by
            rw [e2]
            exact SX.num_S i.toNat
          exact e3 ▸ q
      · cases e
    · cases e
/-- a text that stands in an f-string -/
theorem f_str {x : Str} {j} (hx : x.cps.size ≤ 2000) : PE X (.Constant (.str x) j pos) (tE X.K X.w T W (fsS fun _ m => .ok (.str x.cps.toList) m)) := by
  refine PE_imp (c_str (T := T) (W := W)) fun σ H Q ⟨ρ, m, φ, hρ, S, h⟩ => ⟨ρ, m, φ, hρ, S, ?_⟩
  have hb : fsF (.str x.cps.toList) = some x.cps.toList := by
    show (bif Nat.ble x.cps.toList.length 2000 then some x.cps.toList else none) = _
    rw [show Nat.ble x.cps.toList.length 2000 = true from Nat.ble_eq_true_of_le (by simpa using hx)]
    rfl
  have h : Post X.K X.w T W σ H φ ((fsR (.str x.cps.toList) m).bind fun s m => R.ok (D.str s) m) fun d m' H' φ' => ∀ v, Rel X.K X.w T H' φ' d v → Q v H' := h
  unfold fsR at h
  rw [hb] at h
  exact h
/-- the parts of an f-string -/
inductive FJ (X : Cx) (T : Tab) (W : WX) (E : IE → Env → M → R D) : List Expr → List IE → Prop
  | nil : FJ X T W E [] []
  | cons {e : Expr} {i : IE} {es : List Expr} {is : List IE} : PE X e (tE X.K X.w T W (fsS (E i))) → FJ X T W E es is → FJ X T W E (e :: es) (i :: is)
theorem FJ.length {E : IE → Env → M → R D} {es : List Expr} {is : List IE} (h : FJ X T W E es is) : es.length = is.length := by
  induction h with
  | nil => rfl
  | cons _ _ ih => simp [ih]
theorem fj_run {E : IE → Env → M → R D} {es : List Expr} {is : List IE} (h : FJ X T W E es is) : ∀ (acc : List Nat) (s : Shared) (H : Hp) (φ : Foot) (m : M) (P : List Nat → M → Hp → Foot → Prop) (R : Str → Shared → Prop),
    acc.length + 2000 * es.length ≤ 100000 → Inv X pins σ H s → EnvR X.K X.w T H φ ρ σ → Sim X.K X.w T H φ m → Post X.K X.w T W σ H φ (fsL E is ρ m) P →
    (∀ ss s1 H1 φ1 m1, (acc ++ ss).length ≤ 100000 → Inv X pins σ H1 s1 → Ext H φ H1 φ1 → Sim X.K X.w T H1 φ1 m1 → P ss m1 H1 φ1 → R (SS (acc ++ ss)) s1) → Joins (model X.prog X.w) X.A X.xe (evalEach es X.env) (SS acc) R s := by
  induction h with
  | nil =>
    intro acc s H φ m P R hz I hρ S h k
    have e0 : evalEach [] X.env = [] := by first | rfl | simp [evalEach]
    rw [e0]
    have := k [] s H φ m (by simpa using hz) I (Ext.refl _ _) S (Post.here S h)
    rw [List.append_nil] at this
    exact this
  | @cons e i es is he r ih =>
    intro acc s H φ m P R hz I hρ S h k
    have e0 : evalEach (e :: es) X.env = eval e X.env :: evalEach es X.env := by first | rfl | simp [evalEach]
    rw [e0]
    have h1 : Post X.K X.w T W σ H φ ((E i ρ m).bind fun d m => (fsR d m).bind fun s m => (fsL E is ρ m).bind fun ss m => .ok (s ++ ss) m) P := h
    have q : tE X.K X.w T W (fsS (E i)) σ H fun x H1 => ∃ z m1 φ1, x = .str (SS z) ∧ z.length ≤ 2000 ∧ Ext H φ H1 φ1 ∧ Sim X.K X.w T H1 φ1 m1 ∧ EnvR X.K X.w T H1 φ1 ρ σ ∧ Post X.K X.w T W σ H1 φ1 ((fsL E is ρ m1).bind fun ss m => .ok (z ++ ss) m) P := by
      refine ⟨ρ, m, φ, hρ, S, ?_⟩
      unfold fsS
      cases eE : E i ρ m with
      | bad =>
        rw [eE] at h1
        exact h1
      | exc c v m' =>
        rw [eE] at h1
        exact h1
      | ok d m1 =>
        rw [eE] at h1
        have h1 : Post X.K X.w T W σ H φ ((fsR d m1).bind fun s m => (fsL E is ρ m).bind fun ss m => .ok (s ++ ss) m) P := h1
        show Post X.K X.w T W σ H φ ((fsR d m1).bind fun s m => Pd.R.ok (D.str s) m) _
        unfold fsR at h1 ⊢
        cases ef : fsF d with
        | none =>
          rw [ef] at h1
          exact h1
        | some z =>
          rw [ef] at h1
          have h1 : Post X.K X.w T W σ H φ ((fsL E is ρ m1).bind fun ss m => .ok (z ++ ss) m) P := h1
          intro H1 φ1 e1 S1 v rv
          cases rv
          exact ⟨z, m1, φ1, rfl, fs_len ef, e1, S1, hρ.mono e1, h1.mono e1 fun _ _ _ _ _ _ q => q⟩
    refine thn (he.run pins s σ H _ I q) fun v s1 hv => ?_
    obtain ⟨x, H1, I1, r1, z, m1, φ1, ex, hzl, e1, S1, ρ1, q1⟩ := hv
    subst ex
    obtain ⟨tk, rfl⟩ := r1
    have hl1 : (SS acc ++ SS z) = SS (acc ++ z) := SX.S_cat acc z
    rw [List.length_cons] at hz
    refine ⟨SS z, tk, rfl, ?_, ?_⟩
    · rw [hl1, show (SS (acc ++ z)).length = (acc ++ z).length from SX.S_len _, List.length_append]
      have : (sizeLine : Nat) = 16777216 := by decide
      omega
    · rw [hl1]
      refine ih (acc ++ z) s1 H1 φ1 m1 _ R (by rw [List.length_append]; omega) I1 ρ1 S1 q1.bind fun ss s2 H2 φ2 m2 hl I2 e2 S2 q2 => ?_
      rw [List.append_assoc] at hl ⊢
      exact k (z ++ ss) s2 H2 φ2 m2 hl I2 (e1.trans e2) S2 (Post.here S2 q2)
/-- f'..' -/
theorem c_fs {E : IE → Env → M → R D} {e1 e2 : Expr} {es : List Expr} {is : List IE} (h : FJ X T W E (e1 :: e2 :: es) is) (hl : Nat.ble es.length 40 = true) : PE X (.JoinedStr (e1 :: e2 :: es) pos) (tE X.K X.w T W fun ρ m => (fsL E is ρ m).bind fun ss m => .ok (.str ss) m) := by
  refine ⟨fun pins s σ H Q I ⟨ρ, m, φ, hρ, S, hp⟩ => ?_⟩
  have hl := Nat.le_of_ble_eq_true hl
  refine wpAny_JoinedStr (fj_run (ρ := ρ) h [] s H φ m (fun ss m1 H1 φ1 => Q (.str (SS ss)) H1) _ ?_ I hρ S ?_ fun ss s1 H1 φ1 m1 hz I1 e1 S1 q1 => ?_)
  · simp
    omega
  · exact hp.bind.mono (Ext.refl _ _) fun ss m1 H1 φ1 e1 S1 z => Post.here (d := D.str ss) S1 z _ (.str ss)
  · rw [List.nil_append] at hz
    refine ⟨?_, .str (SS ss), H1, I1.tok _, ⟨_, rfl⟩, q1⟩
    rw [List.nil_append, show (SS ss).length = ss.length from SX.S_len _]
    have : (sizeLine : Nat) = 16777216 := by decide
    omega
end
end Pd

set_option maxHeartbeats 4000000
/-! Pd14: isinstance, list(range(n)). -/
namespace Pd
open PySem PySem.Spec PyProof.Rows L2
section
variable {X : Cx} {T : Tab} {W : WX} {lv : Nat} {cl : Call} {pins : List (Addr × Obj)} {σ : L2.St} {H : Hp} {s : Shared} {φ : Foot} {m : M} {d e : D} {ds : List D} {x y : V} {vs : List V} {v u : Value} {us : List Value} {A : Around} {Q : VK}
variable {a b c : Expr} {Fa Fb Fc : Env → M → R D} {pos p2 p p3 pos3 : Pos} {ρ : Env}
/-- the class that isinstance is asked about, as a value -/
def ITy.val (K : PySem.W.Frag) (T : Tab) : ITy → Value
  | .int => .type "int" | .bool => .type "bool" | .str => .type "str" | .tuple => .type "tuple" | .cls c => .ref (clsA K T c)
def ITy.vv (K : PySem.W.Frag) (T : Tab) : ITy → V
  | .int => .ty "int" | .bool => .ty "bool" | .str => .ty "str" | .tuple => .ty "tuple" | .cls c => .ref (clsA K T c)
def ITy.ok (T : Tab) : ITy → Bool
  | .cls c => match T.clss[c]? with
    | some k => Nat.beq k.kind 0
    | none => false
  | _ => true
theorem ITy.clsV (t : ITy) : ClsV (t.vv X.K T) (t.val X.K T) := by
  cases t with
  | cls c => exact .own _
  | _ => exact .ty _
/-- the name of a value's built-in type -/
def tyN : D → Option String
  | .non => some "NoneType" | .bl _ => some "bool" | .int _ => some "int" | .str _ => some "str" | .tup _ => some "tuple" | .fl _ => some "list" | .scr _ => some "list" | .fd _ => some "dict" | .wd _ => some "dict"
  | _ => none
theorem tyX_tup {p : Addr} {vs : List V} (h : SqT X.K H p vs) : TyX X.K H (.ref p) (.type "tuple") := by
  rcases h with (h | ⟨o, h⟩) | ⟨o, its, n, h1, h2, _⟩
  · exact .base (.tup h)
  · exact .fTuple h
  · exact .kTuple h1 h2
theorem tyX_lst {p : Addr} {vs : List V} (h : SqL X.K H p vs) : TyX X.K H (.ref p) (.type "list") := by
  rcases h with (h | ⟨o, h⟩) | ⟨o, its, n, h1, h2, _⟩
  · exact .base (.lst h)
  · exact .base (.frz h)
  · exact .kList h1 h2
theorem tyX_of {n : String} (r : Rel X.K X.w T H φ d x) (h : tyN d = some n) : TyX X.K H x (.type n) := by
  cases r with
  | non => cases h; exact .base .non
  | bl b => cases h; exact .base (.bl b)
  | int i => cases h; exact .base (.int i)
  | str z => cases h; exact .base (.str _)
  | tup a b => cases h; exact tyX_tup a.sq
  | fl a b => cases h; exact tyX_lst a.sq
  | scr a b => cases h; exact tyX_lst a.sq
  | fdK a b c => cases h; exact .base (.dK b)
  | @wdS p kvs hw =>
    cases h
    have hw := hw.2.2 []
    cases ed : dget kvs (.str []) with
    | none =>
      rw [ed] at hw
      obtain ⟨es, n, a1, _⟩ := hw
      exact .kDict a1 rfl
    | some q =>
      rw [ed] at hw
      cases q with
      | str y =>
        obtain ⟨es, n, uu, a1, _⟩ := hw
        exact .kDict a1 rfl
      | _ => exact hw.elim
  | wdB hw =>
    cases h
    obtain ⟨o, h1, h2, h3⟩ := hw.2.1
    exact .kDict h1 h2
  | _ => cases h
theorem isiF_ty {t : ITy} {n : String} {b : Bool} (F : Fx X T W lv cl) (ht : t.ok T = true) (hn : tyN d = some n) (h : isiF d t = some b) : PySem.W.kitOne X.K (.type n) (t.val X.K T) = some b := by
  cases t with
  | cls c =>
    unfold ITy.ok at ht
    cases ek : T.clss[c]? with
    | none =>
      simp only [ek] at ht
      cases ht
    | some k =>
      simp only [ek] at ht
      have K0 := F.tb.isi c k ek (Nat.eq_of_beq_eq_true ht)
      cases d <;> (try cases hn) <;> cases h <;> exact K0.of _ (by decide)
  | _ => cases d <;> (try cases hn) <;> cases h <;> exact kit_ty (by decide +kernel)
theorem run_isi {t : ITy} {b : Bool} (F : Fx X T W lv cl) (ht : t.ok T = true) (I : Inv X pins σ H s) (rv : Vals [x, t.vv X.K T] us) (r : Rel X.K X.w T H φ d x) (h : isiF d t = some b) (q : Q (.bl b) H) :
    wpAny (model X.prog X.w) X.A (call (.builtin "isinstance") us) (EP X pins σ Q) X.xe s := by
  cases hn : tyN d with
  | some n => exact call_isi pins s σ H _ us Q I rv ⟨x, _, _, _, b, rfl, ITy.clsV t, tyX_of r hn, isiF_ty F ht hn h, q⟩
  | none =>
    cases r with
    | @obj p dx c k fs vs sl h1 h2 h3 h4 h5 h6 h7 h8 h9 =>
      have K0 := F.tb.cls c k h3 h4
      have hk : PySem.W.kitOne X.K (.ref (clsA X.K T c)) (t.val X.K T) = some b := by
        cases t with
        | cls c' =>
          unfold ITy.ok at ht
          cases ek : T.clss[c']? with
          | none =>
            simp only [ek] at ht
            cases ht
          | some k' =>
            simp only [ek] at ht
            cases h
            exact (F.tb.isi c' k' ek (Nat.eq_of_beq_eq_true ht)).cls c k h3 h4
        | _ => cases h; exact (F.tb.isi c k h3 h4).ty _ (by decide)
      refine SlX.call_isiSl (t.val X.K T) pins s σ H _ us Q I rv ⟨p, _, dx, sl, t.vv X.K T, b, rfl, ?_, fun w' r' => ?_, .inr ⟨h5, h6⟩, K0.sc, K0.si, hk, q⟩
      · cases t <;> rfl
      · cases t <;> exact r'
    | ref _ => cases t <;> cases h
    | fn _ => cases t <;> cases h
    | _ => cases hn
theorem Fx.cls_ne (t : ITy) : True := trivial
/-- isinstance(e, T) -/
theorem c_isi {n : Str} (F : Fx X T W lv cl) {t : ITy} (ht : t.ok T = true) (hn : n = "isinstance") (hg : Gl X n) (ha : PE X a (tE X.K X.w T W Fa)) (hb : PE X b (tC (t.vv X.K T))) (hp : plainArgs [a, b] = true) :
    PE X (.Call (.Name n p) [a, b] [] pos) (tE X.K X.w T W fun ρ m => (Fa ρ m).bind fun d m => isiR d t m) := by
  refine ⟨fun pins s σ H Q I ⟨ρ, m, φ, hρ, S, h⟩ => ?_⟩
  have hs := star_cons (env := X.env) hp
  have hs2 := star_cons (env := X.env) hs.2
  have q : tCons (tE X.K X.w T W Fa) (tCons (tC (t.vv X.K T)) tNil) σ H fun vs H1 => ∃ x d b φ1, vs = [x, t.vv X.K T] ∧ Rel X.K X.w T H1 φ1 d x ∧ isiF d t = some b ∧ Q (.bl b) H1 := by
    refine first hρ S h fun d m1 v H1 φ1 e1 S1 ρ1 r q => ?_
    unfold isiR at q
    cases e : isiF d t with
    | none =>
      rw [e] at q
      exact q.elim
    | some b =>
      rw [e] at q
      exact ⟨v, d, b, φ1, rfl, r, e, Post.here S1 q _ (.bl _)⟩
  have hA : PA X [a, b] (tCons (tE X.K X.w T W Fa) (tCons (tC (t.vv X.K T)) tNil)) := pa_cons ha (pa_cons hb pa_nil hs2.1) hs.1
  have hm : X.mg n = none := F.tb.free n (by subst hn; decide)
  subst hn
  refine wpAny_Call_Name_kw (ld_blt I hg hm PyProof.Rows.boot_isinstance (PyProof.Rows.callWith_builtin1 (thn (hA.run pos pins s σ H _ I q) fun us s1 ⟨vs, H1, I1, rv, x, d, bb, φ1, ev, r, e, q1⟩ => ?_) hs.1 (star_none hs.2).1) (by decide) (by decide))
  subst ev
  exact run_isi F ht I1 rv r e q1
/-! ### list(range(n)) -/
/-- a range that was just made -/
def rRange : List V → Hp → VK → Prop := fun vs H Q => ∃ j, vs = [V.int j] ∧ ∀ p, H p = none → Q (.ref p) (upd H p (.rng 0 j))
theorem cr_range1 : CallR X (.type "range") rRange := by
  intro pins s σ H vs us Q I r h
  obtain ⟨j, rfl, q⟩ := h
  obtain ⟨u1, rfl, rj⟩ := vals1 r
  obtain ⟨u, rfl⟩ := rj
  refine call_range_1 ⟨.ref s.heap.objs.size, upd H s.heap.objs.size (.rng 0 j), I.laid (t' := s.toks + 1 + 1) (fun b o e => Heap.get?_push_of_some _ e) (Nat.le_refl _) ?_, rfl, q _ (I.hok.fresh (Nat.le_refl _))⟩
  exact ⟨s.toks, u, s.toks + 1, Heap.get?_push_size _ rfl⟩
def rListRng : List V → Hp → VK → Prop := fun vs H Q => ∃ p j, vs = [V.ref p] ∧ H p = some (.rng 0 j) ∧ -10000 ≤ j ∧ j ≤ 10000 ∧ ∀ q, H q = none → Q (.ref q) (upd H q (.lst ((List.range j.toNat).map fun (i : Nat) => V.int (0 + i))))
theorem cr_listRng (hc : X.calm = true) : CallR X (.type "list") rListRng := by
  intro pins s σ H vs us Q I r h
  obtain ⟨p, j, rfl, hp, hj0, hj, q⟩ := h
  obtain ⟨u1, rfl, r1⟩ := vals1 r
  obtain rfl : u1 = Value.ref p := r1
  obtain ⟨t, u, v, e⟩ := (show ∃ t u v, s.heap.get? p = some { cls := .type "range", data := .fields #[.int 0 t, .int j u, .int 1 v] } from I.hok p _ hp)
  have hn : Builtin.Range.rangeSize 0 j 1 = (j.toNat : Int) := by
    unfold Builtin.Range.rangeSize
    rw [if_pos (by decide)]
    split <;> omega
  refine call_list_range (n := j.toNat) (I.ok.hd hc) e ?_ hn (by omega) fun h' tk acc c' hk hS hi => ?_
  · exact small_one (by omega) (by omega) (by omega) (by omega)
  · have hl : acc.toList.length = j.toNat := by rw [Array.length_toList]; exact hi.1
    have rv : Vals ((List.range j.toNat).map fun (i : Nat) => V.int (0 + i)) acc.toList := by
      have : ∀ (l : List Value) (k : Nat), (∀ i v, l[i]? = some v → ∃ t, v = Value.int (0 + ((k + i : Nat) : Int) * 1) t) → Vals ((List.range' k l.length).map fun (i : Nat) => V.int (0 + i)) l := fun l => by
        induction l with
        | nil => intro k _; exact .nil
        | cons a l ih =>
          intro k h
          rw [List.length_cons, List.range'_succ, List.map_cons]
          refine .cons ?_ (ih (k + 1) fun i v e => ?_)
          · obtain ⟨t, e⟩ := h 0 a rfl
            exact ⟨t, by rw [e]; congr 1; omega⟩
          · obtain ⟨t, e⟩ := h (i + 1) v (by simpa using e)
            exact ⟨t, by rw [e]; congr 1; omega⟩
      have := this acc.toList 0 fun i v e => by
        obtain ⟨t, e⟩ := hi.2 i v (by simpa using e)
        exact ⟨t, by rw [e]; congr 1; omega⟩
      rw [hl, ← List.range_eq_range'] at this
      exact this
    refine ⟨.ref s.heap.objs.size, _, I.laid (t' := tk) hk (Nat.le_refl _) (show ObjOk X.prog X.w _ h' _ (.lst _) from ⟨?_, acc.toList, c', rv, ?_⟩), rfl, q _ (I.hok.fresh (Nat.le_refl _))⟩
    · rw [List.length_map, List.length_range]
      have : (sizeLine : Nat) = 16777216 := by decide
      omega
    · simpa using hS
theorem c_lrange {n1 n2 : Str} (F : Fx X T W lv cl) (h1 : n1 = "list") (h2 : n2 = "range") (hg1 : Gl X n1) (hg2 : Gl X n2) (ha : PE X a (tE X.K X.w T W Fa)) (hp : plainArgs [a] = true) :
    PE X (.Call (.Name n1 p) [.Call (.Name n2 p2) [a] [] pos] [] pos3) (tE X.K X.w T W fun ρ m => ((Fa ρ m).bind fun d m => .ok [d] m).bind fun ds m => biF T cl .lrange ds m) := by
  have hs := star_cons (env := X.env) hp
  have hm1 : X.mg n1 = none := F.tb.free n1 (by subst h1; decide)
  have hm2 : X.mg n2 = none := F.tb.free n2 (by subst h2; decide)
  subst h1 h2
  have hr := pe_callTy (p := p2) (pos := pos) cr_range1 hg2 hm2 (by first | rfl | decide +kernel | kernel_rfl) (pa_cons ha pa_nil hs.1) (by decide) (by decide) hs.1 (star_none hs.2).1
  have hl := pe_callTy (p := p) (pos := pos3) (cr_listRng F.calm) hg1 hm1 (by first | rfl | decide +kernel | kernel_rfl) (pa_cons hr pa_nil rfl) (by decide) (by decide) rfl rfl
  refine PE_imp hl fun σ H Q ⟨ρ, m, φ, hρ, S, h⟩ => ?_
  have h2 : Post X.K X.w T W σ H φ ((Fa ρ m).bind fun d m => biF T cl .lrange [d] m) fun d m' H' φ' => ∀ v, Rel X.K X.w T H' φ' d v → Q v H' := by
    dsimp only at h
    cases e : Fa ρ m with
    | ok d m' =>
      rw [e] at h
      exact h
    | exc _ _ _ =>
      rw [e] at h
      exact h
    | bad =>
      rw [e] at h
      exact h
  refine first hρ S h2 fun d m1 v H1 φ1 e1 S1 ρ1 r q => ?_
  cases d with
  | int i =>
    cases r
    have q : Post X.K X.w T W σ H1 φ1 (bif decide (-10000 ≤ i) && decide (i ≤ 10000) then R.ok (D.fl (rangeL 0 i)) m1 else .bad) _ := q
    obtain ⟨b1, q⟩ := ite_b q
    obtain ⟨z1, z2⟩ := Bool.and_eq_true_iff.mp b1
    refine ⟨i, rfl, fun p0 hp0 => ⟨p0, i, rfl, upd_same, of_decide_eq_true z1, of_decide_eq_true z2, fun q0 hq0 => ?_⟩⟩
    have e2 : Ext H1 φ1 (upd H1 p0 (.rng 0 i)) φ1 := Ext.upd hp0
    have S2 := S1.upd (o := .rng 0 i) hp0
    have rr : Rels X.K X.w T (upd H1 p0 (.rng 0 i)) φ1 (rangeL 0 i) ((List.range i.toNat).map fun (i : Nat) => V.int (0 + i)) := by
      have := range_rel (X := X) (T := T) (H := upd H1 p0 (.rng 0 i)) (φ := φ1) i.toNat 0
      have e3 : (i - 0).toNat = i.toNat := by omega
      unfold rangeL
      rw [e3]
      exact this
    exact new_fl S2 rr (q.mono e2 fun _ _ _ _ _ _ z => z) q0 hq0
  | _ => exact q.elim
end
end Pd

set_option maxHeartbeats 4000000
/-! Pd15: statements without loops. -/
namespace Pd
open PySem PySem.Spec PyProof.Rows L2
/-- what a statement leaves behind: a value handed back, or the names -/
def PS1 (K : PySem.W.Frag) (w : World) (T : Tab) (n : Nat) (E : Ends) : Option D × Env → M → Hp → Foot → Prop
  | (some d, _), _, H, φ => ∀ v, Rel K w T H φ d v → E.rt v H
  | (none, ρ), m, H, φ => Sim K w T H φ m → ∀ σ, σ.length = n → EnvR K w T H φ ρ σ → E.nx σ H
def tS (K : PySem.W.Frag) (w : World) (T : Tab) (W : WX) (n : Nat) (F : Env → M → R (Option D × Env)) : TS := fun E σ H => ∃ ρ m φ, σ.length = n ∧ EnvR K w T H φ ρ σ ∧ Sim K w T H φ m ∧ Post K w T W σ H φ (F ρ m) (PS1 K w T n E)
theorem PS_imp {X : Cx} {st : Stmt} {t t' : TS} (h : PS X st t) (i : ∀ E σ H, t' E σ H → t E σ H) : PS X st t' := ⟨fun pins s σ H E I q => h.run pins s σ H E I (i E σ H q)⟩
theorem PSs_imp {X : Cx} {st : List Stmt} {t t' : TS} (h : PSs X st t) (i : ∀ E σ H, t' E σ H → t E σ H) : PSs X st t' := ⟨fun pins s σ H E I q => h.run pins s σ H E I (i E σ H q)⟩
section
variable {K : PySem.W.Frag} {w : World} {T : Tab} {W : WX} {H H' : Hp} {φ φ' : Foot} {ρ ρ' : Env} {σ σ' : L2.St} {d : D} {v : V}
theorem EnvR.set (h : EnvR K w T H φ ρ σ) {i : Nat} (hi : i < σ.length) (r : Rel K w T H φ d v) : EnvR K w T H φ (setE ρ i d) (σ.set i (some v)) := by
  intro j e q
  unfold setE at q
  by_cases hj : i = j
  · subst hj
    refine ⟨v, List.getElem?_set_self hi, ?_⟩
    have hl : i < ρ.length := by
      have := (List.getElem?_eq_some_iff.mp q).1
      simpa using this
    rw [List.getElem?_set_self hl] at q
    cases q
    exact r
  · rw [List.getElem?_set_ne hj] at q ⊢
    exact h j e q
/-- names set one behind the other -/
def setS : L2.St → List Nat → List V → L2.St
  | σ, i :: is, v :: vs => setS (σ.set i (some v)) is vs
  | σ, _, _ => σ
theorem setS_len : ∀ (σ : L2.St) (is : List Nat) (vs : List V), (setS σ is vs).length = σ.length
  | σ, [], [] => rfl
  | σ, [], _ :: _ => rfl
  | σ, _ :: _, [] => rfl
  | σ, i :: is, v :: vs => by
    show (setS (σ.set i (some v)) is vs).length = _
    rw [setS_len, List.length_set]
theorem EnvR.setAll : ∀ (is : List Nat) (ds : List D) (vs : List V) (ρ ρ' : Env) (σ : L2.St), EnvR K w T H φ ρ σ → (∀ i ∈ is, i < σ.length) → Rels K w T H φ ds vs → Pd.setAll ρ is ds = some ρ' → EnvR K w T H φ ρ' (setS σ is vs) ∧ is.length = vs.length
  | [], [], _, ρ, ρ', σ, h, _, r, e => by
    cases r
    cases e
    exact ⟨h, rfl⟩
  | [], _ :: _, _, _, _, _, _, _, _, e => by cases e
  | _ :: _, [], _, _, _, _, _, _, _, e => by cases e
  | i :: is, d :: ds, _, ρ, ρ', σ, h, hi, r, e => by
    cases r with
    | cons r1 r2 =>
      obtain ⟨a, b⟩ := EnvR.setAll is ds _ (setE ρ i d) ρ' _ (h.set (hi i (.head _)) r1) (fun j hj => by rw [List.length_set]; exact hi j (.tail _ hj)) r2 e
      exact ⟨a, by simp [b]⟩
end
section
variable {X : Cx} {T : Tab} {W : WX} {lv : Nat} {cl : Call} {pins : List (Addr × Obj)} {σ : L2.St} {H : Hp} {s : Shared} {φ : Foot} {m : M} {d e : D} {ds : List D} {x y : V} {vs : List V} {v u : Value} {us : List Value} {A : Around} {Q : VK}
variable {a b c o : Expr} {Fa Fb Fc Fo : Env → M → R D} {Tc : Env → M → R Bool} {pos p2 p p3 pos3 pos' : Pos} {ρ : Env} {n i : Nat} {z : Str} {f : Str}
/-- a name that may be stored -/
structure NmOk (X : Cx) (i : Nat) (z : Str) : Prop where
  at_ : X.N[i]? = some z
  loc : Loc X.env.scope z
  fn : X.fn z = true ∨ X.env.scope.names.lookup z = some .local
theorem NmOk.lt (h : NmOk X i z) : i < X.N.length := (List.getElem?_eq_some_iff.mp h.at_).1
/-- the first part of a statement -/
theorem firstS {β : Type} {G : D → M → R β} {P : β → M → Hp → Foot → Prop} {Qv : VK} (hρ : EnvR X.K X.w T H φ ρ σ) (S : Sim X.K X.w T H φ m) (h : Post X.K X.w T W σ H φ ((Fa ρ m).bind G) P)
    (k : ∀ d m1 v H1 φ1, Ext H φ H1 φ1 → Sim X.K X.w T H1 φ1 m1 → EnvR X.K X.w T H1 φ1 ρ σ → Rel X.K X.w T H1 φ1 d v → Post X.K X.w T W σ H1 φ1 (G d m1) P → Qv v H1) : tE X.K X.w T W Fa σ H Qv := first hρ S h k
theorem s_pass : PS X (.Pass pos) (tS X.K X.w T W X.N.length fun ρ m => .ok (none, ρ) m) :=
  PS_imp ps_pass fun E σ H ⟨ρ, m, φ, hl, hρ, S, h⟩ => Post.here S h S σ hl hρ
theorem s_ret (ha : PE X a (tE X.K X.w T W Fa)) : PS X (.Return (some a) pos) (tS X.K X.w T W X.N.length fun ρ m => (Fa ρ m).bind fun d m => .ok (some d, ρ) m) :=
  PS_imp (ps_ret ha) fun E σ H ⟨ρ, m, φ, hl, hρ, S, h⟩ => first hρ S h fun d m1 v H1 φ1 e1 S1 ρ1 r q => Post.here S1 q v r
theorem s_retN : PS X (.Return none pos) (tS X.K X.w T W X.N.length fun ρ m => .ok (some .non, ρ) m) :=
  PS_imp ps_retN fun E σ H ⟨ρ, m, φ, hl, hρ, S, h⟩ => Post.here S h _ .non
/-- no comprehension is stored or dropped in its own way -/
def noComp : Expr → Bool
  | .ListComp _ _ _ _ => false
  | .SetComp _ _ _ _ => false
  | .DictComp _ _ _ _ _ => false
  | _ => true
theorem noComp_ok {t : Option Expr} {l : Nat} {env : PySem.Env} (h : noComp a = true) : swapsWith a t l env = pure false := by
  unfold noComp at h
  unfold swapsWith
  cases a <;> first | rfl | cases h
theorem s_drop (ha : PE X a (tE X.K X.w T W Fa)) (hn : noComp a = true) : PS X (.Expr a pos) (tS X.K X.w T W X.N.length fun ρ m => (Fa ρ m).bind fun _ m => .ok (none, ρ) m) :=
  PS_imp (ps_expr ha (noComp_ok hn)) fun E σ H ⟨ρ, m, φ, hl, hρ, S, h⟩ => first hρ S h fun d m1 v H1 φ1 e1 S1 ρ1 r q => Post.here S1 q S1 σ hl ρ1
theorem s_if {A B : List Stmt} {FA FB : Env → M → R (Option D × Env)} (hc : PT X c (tT X.K X.w T W Tc)) (hA : PSs X A (tS X.K X.w T W X.N.length FA)) (hB : PSs X B (tS X.K X.w T W X.N.length FB)) :
    PS X (.If c A B pos) (tS X.K X.w T W X.N.length fun ρ m => (Tc ρ m).bind fun z m => bif z then FA ρ m else FB ρ m) :=
  PS_imp (ps_if hc hA hB) fun E σ H ⟨ρ, m, φ, hl, hρ, S, h⟩ => firstT hρ S h fun z m1 H1 φ1 e1 S1 ρ1 q => by
    cases z with
    | true =>
      rw [if_pos rfl]
      exact ⟨ρ, m1, φ1, hl, ρ1, S1, q⟩
    | false =>
      rw [if_neg Bool.false_ne_true]
      exact ⟨ρ, m1, φ1, hl, ρ1, S1, q⟩
/-- x = e -/
theorem s_asg (hN : X.N.Nodup) (hi : NmOk X i z) (ha : PE X a (tE X.K X.w T W Fa)) (hs : swapsWith a (some (.Name z pos')) pos.line X.env = pure false) :
    PS X (.Assign [.Name z pos'] a pos) (tS X.K X.w T W X.N.length fun ρ m => (Fa ρ m).bind fun d m => .ok (none, setE ρ i d) m) :=
  PS_imp (ps_set hN hi.at_ hi.loc ha hs hi.fn) fun E σ H ⟨ρ, m, φ, hl, hρ, S, h⟩ => first hρ S h fun d m1 v H1 φ1 e1 S1 ρ1 r q =>
    Post.here S1 q S1 _ (by rw [List.length_set]; exact hl) (ρ1.set (by rw [hl]; exact hi.lt) r)
/-! ### several targets -/
inductive NmsOk (X : Cx) : List Nat → List Expr → Prop
  | nil : NmsOk X [] []
  | cons {i : Nat} {z : Str} {p : Pos} {is : List Nat} {es : List Expr} : NmOk X i z → NmsOk X is es → NmsOk X (i :: is) (.Name z p :: es)
def gNames : List Nat → TGs
  | [] => gNil
  | i :: is => gCons (gName i) (gNames is)
theorem pgs_names (hN : X.N.Nodup) {is : List Nat} {es : List Expr} (h : NmsOk X is es) : PGs X es (gNames is) := by
  induction h with
  | nil => exact pgs_nil
  | cons h1 h2 ih => exact pgs_cons (pg_name hN h1.at_ h1.loc h1.fn) ih rfl
theorem names_len {is : List Nat} {es : List Expr} (h : NmsOk X is es) : (assignEach es X.env).length = is.length ∧ (assignEach es X.env).findIdx? (·.1) = none ∧ ∀ i ∈ is, i < X.N.length := by
  induction h with
  | nil => exact ⟨rfl, rfl, fun i h => by cases h⟩
  | @cons i z p is es h1 h2 ih =>
    obtain ⟨a, b, c⟩ := ih
    have e : assignEach (Expr.Name z p :: es) X.env = (false, assign (.Name z p) X.env) :: assignEach es X.env := rfl
    rw [e]
    refine ⟨by simp [a], by simp [List.findIdx?_cons, b], fun j hj => ?_⟩
    rcases List.mem_cons.mp hj with rfl | hj
    · exact h1.lt
    · exact c j hj
theorem gNames_of {P : L2.St → Hp → Prop} : ∀ (is : List Nat) (vs : List V) (σ : L2.St), is.length = vs.length → P (setS σ is vs) H → gNames is vs σ H P
  | [], [], σ, _, h => ⟨rfl, h⟩
  | [], _ :: _, _, e, _ => by cases e
  | _ :: _, [], _, e, _ => by cases e
  | i :: is, v :: vs, σ, e, h => ⟨v, vs, rfl, gNames_of is vs _ (by simpa using e) h⟩
/-- a target takes a value -/
def gT (K : PySem.W.Frag) : IT → TG
  | .nm i => gName i
  | .tp is => gTup K is.length (gNames is)
inductive TgOk (X : Cx) : IT → Expr → Prop
  | nm {i : Nat} {z : Str} {p : Pos} : NmOk X i z → TgOk X (.nm i) (.Name z p)
  | tp {is : List Nat} {es : List Expr} {k : Nat} {p : Pos} : NmsOk X is es → TgOk X (.tp is) (.Tuple es k p)
theorem pg_T (hN : X.N.Nodup) (hc : X.calm = true) {t : IT} {tg : Expr} (h : TgOk X t tg) : PG X tg (gT X.K t) := by
  cases h with
  | nm h1 => exact pg_name hN h1.at_ h1.loc h1.fn
  | tp h1 => exact pg_tup hc (pgs_names hN h1) (names_len h1).1 (names_len h1).2.1
theorem gT_of {t : IT} {tg : Expr} {ρ' : Env} {P : L2.St → Hp → Prop} (h : TgOk X t tg) (hl : σ.length = X.N.length) (hρ : EnvR X.K X.w T H φ ρ σ) (r : Rel X.K X.w T H φ d x) (e : tgt t d ρ = some ρ')
    (q : ∀ σ', σ'.length = X.N.length → EnvR X.K X.w T H φ ρ' σ' → P σ' H) : gT X.K t x σ H P := by
  cases h with
  | nm h1 =>
    cases e
    exact q _ (by rw [List.length_set]; exact hl) (hρ.set (by rw [hl]; exact h1.lt) r)
  | @tp is es k p h1 =>
    cases d with
    | tup xs =>
      cases r with
      | @tup p _ vs a1 a2 =>
        obtain ⟨h2, h3⟩ := EnvR.setAll is xs vs ρ ρ' σ hρ (fun i hi => by rw [hl]; exact (names_len h1).2.2 i hi) a2 e
        exact ⟨p, vs, rfl, a1.sq, h3.symm, gNames_of is vs σ h3 (q _ (by rw [setS_len]; exact hl) h2)⟩
    | _ => cases e
/-- (x, ..) = e -/
theorem s_asgT (F : Fx X T W lv cl) {t : IT} {tg : Expr} (ht : TgOk X t tg) (ha : PE X a (tE X.K X.w T W Fa)) (hs : swapsWithSole [tg] a pos.line X.env = pure false) (hw : swappedStores [tg] a X.env = pure none) (h1 : (assignEach [tg] X.env).map (·.2) = [assign tg X.env]) :
    PS X (.Assign [tg] a pos) (tS X.K X.w T W X.N.length fun ρ m => (Fa ρ m).bind fun d m => match tgt t d ρ with
      | some ρ' => .ok (none, ρ') m
      | none => .bad) :=
  PS_imp (ps_asg ha (pg_T F.nd F.calm ht) hs hw h1) fun E σ H ⟨ρ, m, φ, hl, hρ, S, h⟩ => first hρ S h fun d m1 v H1 φ1 e1 S1 ρ1 r q => by
    cases e : tgt t d ρ with
    | none =>
      rw [e] at q
      exact q.elim
    | some ρ' =>
      rw [e] at q
      exact gT_of ht hl ρ1 r e fun σ' hl' hρ' => Post.here S1 q S1 σ' hl' hρ'
/-! ### statements one behind the other -/
theorem ss_nil : PSs X [] (tS X.K X.w T W X.N.length fun ρ m => .ok (none, ρ) m) :=
  PSs_imp pss_nil fun E σ H ⟨ρ, m, φ, hl, hρ, S, h⟩ => Post.here S h S σ hl hρ
theorem ss_cons (hW : Flat W) {st : Stmt} {rest : List Stmt} {FA FB : Env → M → R (Option D × Env)} (h1 : PS X st (tS X.K X.w T W X.N.length FA)) (h2 : PSs X rest (tS X.K X.w T W X.N.length FB)) :
    PSs X (st :: rest) (tS X.K X.w T W X.N.length fun ρ m => (FA ρ m).bind fun o m => match o with
      | (some d, ρ) => .ok (some d, ρ) m
      | (none, ρ) => FB ρ m) :=
  PSs_imp (pss_cons h1 h2) fun E σ H ⟨ρ, m, φ, hl, hρ, S, h⟩ => by
    refine ⟨ρ, m, φ, hl, hρ, S, h.bind.mono (Ext.refl _ _) fun o m1 H1 φ1 e1 S1 q => ?_⟩
    obtain ⟨od, ρ1⟩ := o
    cases od with
    | some d => exact fun v r => Post.here S1 q v r
    | none =>
      refine fun _ σ' hl' hρ' => ⟨ρ1, m1, φ1, hl', hρ', S1, ?_⟩
      have q : Post X.K X.w T W σ H1 φ1 (FB ρ1 m1) (PS1 X.K X.w T X.N.length E) := q
      cases e : FB ρ1 m1 with
      | ok a m2 =>
        rw [e] at q
        exact q
      | exc c d m2 =>
        rw [e] at q
        exact fun od H' φ' e2 s2 x2 => hW _ _ _ _ _ (q od H' φ' e2 s2 x2)
      | bad =>
        rw [e] at q
        exact q
end
end Pd

set_option maxHeartbeats 4000000
/-! Pd16: what is walked: lists, tuples, texts, zip and enumerate of any of them. -/
namespace PdK
open PySem PySem.Calls PyProof.Rows
theorem meets_enumerate_new1 {v : Value} {o : Obj} {H : Heap → Prop} (B : Begins v o H) :
    Meets (Builtin.«enumerate.__new__» ⟨[.type "enumerate", v], []⟩) (fun _ R s => H s.heap ∧
      R (.ok (.ret (.ref (s.heap.push o).objs.size))) { s with heap := (s.heap.push o).push { cls := .type "enumerate", data := .fields #[.none, .bool false, .ref s.heap.objs.size, rawInt 0, .none, .none] } }) :=
  .of_wp fun prog w A R s h => by
    obtain ⟨hp, g, d, tk, os⟩ := s; obtain ⟨h1, h⟩ := h
    have hsub := sub_enumerate
    have q1 : ∀ {A' : Around} {E : Value → Shared → Prop} {Q : Value → Shared → Prop}, Q (.ref hp.objs.size) ⟨hp.push o, g, d, tk, os⟩ → wpAny (model prog w) A' (pyIter v) Q E ⟨hp, g, d, tk, os⟩ :=
      fun q => B.iter prog w _ _ ⟨hp, g, d, tk, os⟩ _ h1 q
    wp_walk using q1
    refine wpAny_stack_any fun st => wpAny_pure ?_
    split
    · rename_i c _ _ _ _ _
      cases (c == Value.type "enumerate")
      · wp_walk using q1
        exact ⟨_, rfl, h⟩
      · wp_walk using q1
        exact ⟨_, rfl, h⟩
    · wp_walk using q1
      exact ⟨_, rfl, h⟩
section
variable {prog : Program} {w : World} {A : Around} {E : Value → Shared → Prop} {s : Shared}
theorem enum_begins1 {v : Value} {o : Obj} {H : Heap → Prop} {Q : Value → Shared → Prop} (B : Begins v o H) (h1 : H s.heap)
    (h : ∀ h', IsEnum h' (s.heap.objs.size + 1) s.heap.objs.size 0 .none → h'.get? s.heap.objs.size = some o → h'.objs.size = s.heap.objs.size + 2 →
      (∀ b o, s.heap.get? b = some o → h'.get? b = some o) → Q (.ref (s.heap.objs.size + 1)) { s with heap := h' }) :
    wpAny (model prog w) A (call (.type "enumerate") [v]) Q E s := by
  refine callType_new F.called_enumerate (by decide) (F.typeCall_enumerate_1 _) (F.newCall_enumerate_1 _) (fun obj => F.args_object_init_2 obj _) F.entry_enumerate_new
    (meets_enumerate_new1 B) ⟨h1, ?_⟩
  have hz : (s.heap.push o).objs.size = s.heap.objs.size + 1 := Heap.size_push ..
  show _ ∧ _
  rw [hz]
  have he : IsEnum ((s.heap.push o).push { cls := .type "enumerate", data := .fields #[.none, .bool false, .ref s.heap.objs.size, rawInt 0, .none, .none] }) (s.heap.objs.size + 1) s.heap.objs.size 0 .none := by
    have := Heap.get?_push_size (s.heap.push o) (o := { cls := .type "enumerate", data := .fields #[.none, .bool false, .ref s.heap.objs.size, rawInt 0, .none, .none] }) rfl
    rw [hz] at this; exact this
  refine ⟨⟨_, he, rfl⟩, h _ he (Heap.get?_push_of_some _ (Heap.get?_push_size _ B.free)) (by rw [Heap.size_push, hz]) fun b o x => Heap.get?_push_of_some _ (Heap.get?_push_of_some _ x)⟩
end
end PdK
namespace Pd
open PySem PySem.Spec PyProof.Rows L2
/-- what is walked -/
inductive Sk where
  | lst (a : Addr) | tup (a : Addr) | txt (x : Str) (t : Tok)
def Sk.val : Sk → Value
  | .lst a => .ref a
  | .tup a => .ref a
  | .txt x t => .str x t
/-- its iterator when it is new -/
def Sk.new : Sk → Obj
  | .lst a => { cls := .type "list_iterator", data := .fields #[.ref a, .int 0 0] }
  | .tup a => { cls := .type "tuple_iterator", data := .fields #[.ref a, .int 0 0] }
  | .txt x t => { cls := .type (strIterType x), data := .fields #[.str x t, .int 0 0] }
/-- the iterator at turn i -/
def Sk.st (k : Sk) (it : Addr) (i : Nat) (h : Heap) : Prop := match k with
  | .lst a => h.IsListIter it a i
  | .tup a => h.IsTupleIter it a i
  | .txt x t => h.IsStrIter it (strIterType x) x t i
/-- the values it gives -/
def Sk.seq (K : PySem.W.Frag) (H : Hp) (k : Sk) (xs : List V) : Prop := match k with
  | .lst a => SqL K H a xs
  | .tup a => SqT K H a xs
  | .txt x _ => xs = x.cps.toList.map fun c => V.str ⟨#[c]⟩
/-- the container is not b -/
def Sk.off (k : Sk) (b : Addr) : Prop := match k with
  | .lst a => a ≠ b
  | .tup a => a ≠ b
  | .txt _ _ => True
def Sk.box : Sk → List Addr
  | .lst a => [a]
  | .tup a => [a]
  | .txt _ _ => []
theorem Sk.off_box {k : Sk} {b : Addr} (h : k.off b) : b ∉ k.box := by
  cases k with
  | lst a => exact fun q => h (by simp [Sk.box] at q; exact q.symm)
  | tup a => exact fun q => h (by simp [Sk.box] at q; exact q.symm)
  | txt _ _ => exact fun q => by simp [Sk.box] at q
theorem Sk.st_new (k : Sk) {h : Heap} {it : Addr} (e : h.get? it = some k.new) : k.st it 0 h := by
  cases k with
  | lst a => exact ⟨_, e, rfl, rfl⟩
  | tup a => exact ⟨_, e, rfl, rfl⟩
  | txt x t => exact ⟨_, e, rfl, rfl⟩
theorem Sk.st_at (k : Sk) {h h' : Heap} {it : Addr} {i : Nat} (x : k.st it i h) (e : ∀ o, h.get? it = some o → h'.get? it = some o) : k.st it i h' := by
  cases k with
  | lst a => exact Heap.IsListIter.at x e
  | tup a => exact Heap.IsTupleIter.at x e
  | txt y t =>
    obtain ⟨o, ho, r⟩ := x
    exact ⟨o, e o ho, r⟩
theorem Sk.st_obj (k : Sk) {h : Heap} {it : Addr} {i : Nat} (x : k.st it i h) : ∃ o, h.get? it = some o ∧ ∀ v, o.data ≠ .cell v := by
  cases k with
  | lst a =>
    obtain ⟨o, e, c, d⟩ := x
    exact ⟨o, e, fun v z => by rw [d] at z; cases z⟩
  | tup a =>
    obtain ⟨o, e, c, d⟩ := x
    exact ⟨o, e, fun v z => by rw [d] at z; cases z⟩
  | txt y t =>
    obtain ⟨o, e, c, d⟩ := x
    exact ⟨o, e, fun v z => by rw [d] at z; cases z⟩
section
variable {X : Cx} {T : Tab} {W : WX} {lv : Nat} {cl : Call} {pins : List (Addr × Obj)} {σ : L2.St} {H : Hp} {s : Shared} {φ : Foot} {m : M} {d e : D} {ds : List D} {x y : V} {vs xs ys : List V} {v u : Value} {us : List Value} {A : Around} {Q : VK}
/-- how it draws, as the state stands -/
theorem Sk.draws (k : Sk) (I : Inv X pins σ H s) (h : k.seq X.K H xs) (hh : A.handled = none) {it : Addr} (off : k.off it) {i : Nat} (st : k.st it i s.heap) :
    ∃ (P : Nat → Value → Prop) (St : Nat → Heap → Prop), Draws X.prog X.w A it (it :: k.box) xs.length P St ∧ St i s.heap ∧ (∀ j v, j < xs.length → P j v → ∃ x, xs[j]? = some x ∧ RelV x v) ∧ ∀ j h, St j h → k.st it j h := by
  cases k with
  | lst a =>
    obtain ⟨its, rv, p, hz⟩ := I.list h
    have hl : its.toArray.size = xs.length := by rw [List.size_toArray]; exact rv.length.symm
    refine ⟨_, _, hl ▸ Draws.list hh it a off its.toArray, ⟨st, p.isList⟩, fun j v hj hp => ?_, fun j h q => q.1⟩
    obtain ⟨u, hu, ru⟩ := rv.get (List.getElem?_eq_getElem hj)
    refine ⟨_, List.getElem?_eq_getElem hj, ?_⟩
    have : its[j]? = some v := by simpa using hp
    rw [this] at hu
    cases hu
    exact ru
  | tup a =>
    obtain ⟨its, rv, p, hz⟩ := I.tuple h
    have hl : its.toArray.size = xs.length := by rw [List.size_toArray]; exact rv.length.symm
    refine ⟨_, _, hl ▸ Draws.tuple hh it a off its.toArray, ⟨st, p⟩, fun j v hj hp => ?_, fun j h q => q.1⟩
    obtain ⟨u, hu, ru⟩ := rv.get (List.getElem?_eq_getElem hj)
    refine ⟨_, List.getElem?_eq_getElem hj, ?_⟩
    have : its[j]? = some v := by simpa using hp
    rw [this] at hu
    cases hu
    exact ru
  | txt y t =>
    have h : xs = y.cps.toList.map fun c => V.str ⟨#[c]⟩ := h
    have hl : y.cps.size = xs.length := by rw [h]; simp
    refine ⟨_, _, hl ▸ Draws.text hh it y t, st, fun j v hj hp => ?_, fun j h q => q⟩
    obtain ⟨c, u, hc, ev⟩ := hp
    refine ⟨V.str ⟨#[c]⟩, ?_, ?_⟩
    · rw [h, List.getElem?_map]
      have : y.cps.toList[j]? = some c := by simpa using hc
      rw [this]
      rfl
    · rw [ev]
      exact ⟨u, rfl⟩
theorem Sk.begins (k : Sk) (I : Inv X pins σ H s) (h : k.seq X.K H xs) : ∃ Hb : Heap → Prop, Begins k.val k.new Hb ∧ Hb s.heap := by
  cases k with
  | lst a =>
    obtain ⟨its, rv, p, hz⟩ := I.list h
    exact ⟨_, begins_list a its.toArray, p.isList⟩
  | tup a =>
    obtain ⟨its, rv, p, hz⟩ := I.tuple h
    exact ⟨_, begins_tuple a its.toArray, p⟩
  | txt y t => exact ⟨_, begins_text y t, trivial⟩
theorem Sk.off_new (k : Sk) (I : Inv X pins σ H s) (h : k.seq X.K H xs) {b : Addr} (hb : s.heap.objs.size ≤ b) : k.off b := by
  cases k with
  | lst a =>
    obtain ⟨its, rv, p, hz⟩ := I.list h
    exact Nat.ne_of_lt (Nat.lt_of_lt_of_le p.lt hb)
  | tup a =>
    obtain ⟨its, rv, p, hz⟩ := I.tuple h
    obtain ⟨o, ho, _⟩ := id p
    exact Nat.ne_of_lt (Nat.lt_of_lt_of_le (Heap.lt_size ho) hb)
  | txt _ _ => trivial

theorem Sk.inj (k : Sk) (I : Inv X pins σ H s) (h : k.seq X.K H xs) (h' : k.seq X.K H ys) : xs = ys := by
  cases k with
  | lst a => exact I.list_inj h h'
  | tup a => exact I.tuple_inj h h'
  | txt y t => exact (show xs = _ from h).trans (show ys = _ from h').symm
/-- enumerate of it -/
def ItE (K : PySem.W.Frag) (k : Sk) : It :=
  ⟨fun i H => ∃ (xs : List V) (x : V), k.seq K H xs ∧ xs[i]? = some x, fun i H v H' => ∃ T x, v = .ref T ∧ H T = none ∧ H' = upd H T (.tup [.int (i : Nat), x]) ∧ ∀ xs, k.seq K H xs → xs[i]? = some x, fun i H => ∃ xs : List V, k.seq K H xs ∧ xs.length = i⟩
theorem turn_enumK {P : Program} {w : World} {K : PySem.W.Frag} {elts : List Expr} {kk : Nat} {tpos : Pos} (k : Sk) (e it : Addr) :
    Turn P w K (.Tuple elts kk tpos) (ItE K k) [e, it] e (fun i h => (∃ old, IsEnum h e it ((i : Nat) : Int) old) ∧ k.st it i h ∧ e ≠ it ∧ k.off it ∧ k.off e) where
  mem := by simp
  obj := fun i h st b hb => by
    obtain ⟨⟨old, he⟩, hst, _⟩ := st
    have e' : b = e ∨ b = it := by simpa using hb
    rcases e' with z | z
    · rw [z]; exact ⟨_, he, fun v q => nomatch q⟩
    · rw [z]; exact k.st_obj hst
  keep := fun i h h' st kp => let ⟨⟨old, he⟩, hi, hne⟩ := st; ⟨⟨old, kp e (by simp) _ he⟩, k.st_at hi fun o q => kp it (by simp) o q, hne⟩
  item := by
    intro X hP hw hK hc i pins s σ H E I hf st hg
    subst hP hw hK
    obtain ⟨⟨old, he⟩, hit, hne, o1, o2⟩ := st
    obtain ⟨xs, x, hq, hx⟩ := hg
    have hi : i < xs.length := (List.getElem?_eq_some_iff.mp hx).1
    obtain ⟨Pd, St, Dr, st0, hP, hS⟩ := k.draws I hq (A := X.A.in1) (I.ok.hd hc) o1 hit
    have W := GoesN.enumFrom (A := X.A) (elts := elts) (x1 := kk) (pos := tpos) 0 Dr e hne (by
      simp only [List.mem_cons, not_or]
      exact ⟨hne, Sk.off_box o2⟩) (.head _)
    have hel : e < s.heap.objs.size := Heap.lt_size he
    have hil : it < s.heap.objs.size := by obtain ⟨o, q, _⟩ := k.st_obj hit; exact Heap.lt_size q
    refine W.goes i s _ E hi ⟨⟨old, by rw [Int.zero_add]; exact he⟩, st0⟩ fun v h' tk hY st' hk htk => ?_
    obtain ⟨Tn, t, xv, ev, hTn, hPx, hT⟩ := hY
    obtain ⟨x', hx', rx⟩ := hP i xv hi hPx
    rw [hx] at hx'
    cases hx'
    obtain ⟨⟨old', he'⟩, st2⟩ := st'
    have new : ObjOk X.prog X.w (upd H Tn (.tup [.int (i : Nat), x])) h' Tn (.tup [.int (i : Nat), x]) :=
      ⟨by show 2 ≤ sizeLine; decide, [.int (0 + (i : Int)) t, xv], .cons ⟨t, by rw [Int.zero_add]⟩ (.cons rx .nil), hT⟩
    have I1 : Inv X pins σ (upd H Tn (.tup [.int (i : Nat), x])) { s with heap := h', toks := tk } := I.turnedNew (ch := [e, it]) (fun b ob hb q => hk b ob hb q) hf hTn new
    subst ev
    refine ⟨.ref Tn, _, I1, rfl, ⟨_, x, rfl, I.hok.fresh hTn, rfl, fun zs hz => by rw [k.inj I hz hq]; exact hx⟩, ⟨⟨old', ?_⟩, hS _ _ st2, hne, o1, o2⟩, fun b hb => ?_⟩
    · have e1 : ((i + 1 : Nat) : Int) = 0 + ((i + 1 : Nat) : Int) := by omega
      rw [e1]; exact he'
    · have hb' : b < s.heap.objs.size := by
        have e' : b = e ∨ b = it := by simpa using hb
        rcases e' with z | z
        · rw [z]; exact hel
        · rw [z]; exact hil
      rw [upd_ne (Nat.ne_of_lt (Nat.lt_of_lt_of_le hb' hTn))]
      exact (hf b hb).1
  done := by
    intro X hP hw hK hc i pins s σ H E I hf st hg
    subst hP hw hK
    obtain ⟨⟨old, he⟩, hit, hne, o1, o2⟩ := st
    obtain ⟨xs, hq, hx⟩ := hg
    subst hx
    obtain ⟨Pd, St, Dr, st0, hP, hS⟩ := k.draws I hq (A := X.A.in1) (I.ok.hd hc) o1 hit
    have W := GoesN.enumFrom (A := X.A) (elts := elts) (x1 := kk) (pos := tpos) 0 Dr e hne (by
      simp only [List.mem_cons, not_or]
      exact ⟨hne, Sk.off_box o2⟩) (.head _)
    exact W.stops s _ E ⟨⟨old, by rw [Int.zero_add]; exact he⟩, st0⟩ fun h' tk hk htk => I.turnedL (t' := tk) (ch := [e, it]) hk hf
  self := fun A i s Q E st h => let ⟨⟨_, he⟩, _⟩ := st; wpAny_pyIter_enum he h
/-- zip of two -/
def ItZ (K : PySem.W.Frag) (k1 k2 : Sk) : It :=
  ⟨fun i H => ∃ (xs ys : List V) (x y : V), k1.seq K H xs ∧ k2.seq K H ys ∧ xs[i]? = some x ∧ ys[i]? = some y,
    fun i H v H' => ∃ T x y, v = .ref T ∧ H T = none ∧ H' = upd H T (.tup [x, y]) ∧ (∀ xs, k1.seq K H xs → xs[i]? = some x) ∧ ∀ ys, k2.seq K H ys → ys[i]? = some y,
    fun i H => ∃ xs ys : List V, k1.seq K H xs ∧ k2.seq K H ys ∧ min xs.length ys.length = i⟩
theorem turn_zipK {P : Program} {w : World} {K : PySem.W.Frag} {elts : List Expr} {kk : Nat} {tpos : Pos} (k1 k2 : Sk) (z TI TO i1 i2 : Addr) :
    Turn P w K (.Tuple elts kk tpos) (ItZ K k1 k2) [z, TI, TO, i1, i2] z (fun i h => IsZip h z TI TO .none ∧ IsTupOf2 h TI (.ref i1) (.ref i2) ∧ (∃ x y, IsTupOf2 h TO x y) ∧ k1.st i1 i h ∧ k2.st i2 i h ∧ ZipSep2 z TI TO i1 i2 (i1 :: k1.box) (i2 :: k2.box) ∧ k1.off i1 ∧ k2.off i2) where
  mem := by simp
  obj := fun i h st c hc => by
    obtain ⟨hz, hTI, ⟨x, y, hTO⟩, h1, h2, _⟩ := st
    have e' : c = z ∨ c = TI ∨ c = TO ∨ c = i1 ∨ c = i2 := by simpa using hc
    rcases e' with q | q | q | q | q
    · rw [q]; exact ⟨_, hz, fun v q => nomatch q⟩
    · rw [q]; exact ⟨_, hTI, fun v q => nomatch q⟩
    · rw [q]; exact ⟨_, hTO, fun v q => nomatch q⟩
    · rw [q]; exact k1.st_obj h1
    · rw [q]; exact k2.st_obj h2
  keep := fun i h h' st kp => by
    obtain ⟨hz, hTI, ⟨x, y, hTO⟩, h1, h2, r⟩ := st
    exact ⟨kp z (by simp) _ hz, kp TI (by simp) _ hTI, ⟨x, y, kp TO (by simp) _ hTO⟩, k1.st_at h1 fun o q => kp i1 (by simp) o q, k2.st_at h2 fun o q => kp i2 (by simp) o q, r⟩
  item := by
    intro X hP hw hK hc i pins s σ H E I hf st hg
    subst hP hw hK
    obtain ⟨hz, hTI, hTO, h1, h2, sep, o1, o2⟩ := st
    obtain ⟨xs, ys, x, y, hqx, hqy, hx, hy⟩ := hg
    have hi1 : i < xs.length := (List.getElem?_eq_some_iff.mp hx).1
    have hi2 : i < ys.length := (List.getElem?_eq_some_iff.mp hy).1
    obtain ⟨P1, St1, D1, s1, hP1, hS1⟩ := k1.draws I hqx (A := X.A.in1) (I.ok.hd hc) o1 h1
    obtain ⟨P2, St2, D2, s2, hP2, hS2⟩ := k2.draws I hqy (A := X.A.in1) (I.ok.hd hc) o2 h2
    have W := GoesN.zip2 (A := X.A) (elts := elts) (x1 := kk) (pos := tpos) sep D1 D2
    refine W.goes i s _ E (by omega) ⟨hz, hTI, hTO, s1, s2⟩ fun v h' tk hY st' hk htk => ?_
    obtain ⟨Tn, xv, yv, ev, hTn, hPx, hPy, hT⟩ := hY
    obtain ⟨x', hx', rx⟩ := hP1 i xv hi1 hPx
    obtain ⟨y', hy', ry⟩ := hP2 i yv hi2 hPy
    rw [hx] at hx'
    rw [hy] at hy'
    cases hx'; cases hy'
    obtain ⟨z', TI', TO', s1', s2'⟩ := st'
    have new : ObjOk X.prog X.w (upd H Tn (.tup [x, y])) h' Tn (.tup [x, y]) := ⟨by show 2 ≤ sizeLine; decide, [xv, yv], .cons rx (.cons ry .nil), hT⟩
    have I1 : Inv X pins σ (upd H Tn (.tup [x, y])) { s with heap := h', toks := tk } := I.turnedNew (ch := [z, TI, TO, i1, i2]) (fun b ob hb q => hk b ob (fun q' => hb (by
      simp only [List.mem_cons, List.not_mem_nil, or_false] at q' ⊢
      rcases q' with q' | q' | q' | q' <;> simp [q'])) q) hf hTn new
    subst ev
    refine ⟨.ref Tn, _, I1, rfl, ⟨_, x, y, rfl, I.hok.fresh hTn, rfl, fun zs hz => by rw [k1.inj I hz hqx]; exact hx, fun zs hz => by rw [k2.inj I hz hqy]; exact hy⟩, ⟨z', TI', TO', hS1 _ _ s1', hS2 _ _ s2', sep, o1, o2⟩, fun c hcm => ?_⟩
    have hlt : c < s.heap.objs.size := by
      have e' : c = z ∨ c = TI ∨ c = TO ∨ c = i1 ∨ c = i2 := by simpa using hcm
      rcases e' with q | q | q | q | q
      · rw [q]; exact Heap.lt_size hz
      · rw [q]; exact Heap.lt_size hTI
      · rw [q]; obtain ⟨_, _, e⟩ := hTO; exact Heap.lt_size e
      · rw [q]; obtain ⟨o, e, _⟩ := k1.st_obj h1; exact Heap.lt_size e
      · rw [q]; obtain ⟨o, e, _⟩ := k2.st_obj h2; exact Heap.lt_size e
    rw [upd_ne (Nat.ne_of_lt (Nat.lt_of_lt_of_le hlt hTn))]
    exact (hf c hcm).1
  done := by
    intro X hP hw hK hc i pins s σ H E I hf st hg
    subst hP hw hK
    obtain ⟨hz, hTI, hTO, h1, h2, sep, o1, o2⟩ := st
    obtain ⟨xs, ys, hqx, hqy, hend⟩ := hg
    subst hend
    obtain ⟨P1, St1, D1, s1, hP1, hS1⟩ := k1.draws I hqx (A := X.A.in1) (I.ok.hd hc) o1 h1
    obtain ⟨P2, St2, D2, s2, hP2, hS2⟩ := k2.draws I hqy (A := X.A.in1) (I.ok.hd hc) o2 h2
    have W := GoesN.zip2 (A := X.A) (elts := elts) (x1 := kk) (pos := tpos) sep D1 D2
    exact W.stops s _ E ⟨hz, hTI, hTO, s1, s2⟩ fun h' tk hk htk => I.turnedL (t' := tk) (ch := [z, TI, TO, i1, i2]) (fun b ob hb q => hk b ob (fun q' => hb (by
      simp only [List.mem_cons, List.not_mem_nil, or_false] at q' ⊢
      rcases q' with q' | q' | q' | q' <;> simp [q'])) q) hf
  self := fun A i s Q E st h => wpAny_pyIter_zip st.1 h
end
end Pd

set_option maxHeartbeats 4000000
/-! Pd17: sources of loops and comprehensions. -/
namespace Pd
open PySem PySem.Spec PyProof.Rows L2
mutual
theorem D.beq_refl : ∀ d : D, D.beq d d = true
  | .non => rfl
  | .bl b => by show (b == b) = true; simp
  | .int i => by show (i == i) = true; simp
  | .str s => by show (s == s) = true; simp
  | .tup xs => D.beqs_refl xs
  | .fl xs => D.beqs_refl xs
  | .scr xs => D.beqs_refl xs
  | .fd kvs => D.beqk_refl kvs
  | .wd kvs => D.beqk_refl kvs
  | .obj c fs => by show (c == c && D.beqs fs fs) = true; rw [D.beqs_refl fs]; simp
  | .ref a => by show (a == a) = true; simp
  | .fn i => by show (i == i) = true; simp
  | .exn c v => by show (c == c && D.beq v v) = true; rw [D.beq_refl v]; simp
theorem D.beqs_refl : ∀ ds : List D, D.beqs ds ds = true
  | [] => rfl
  | d :: ds => by show (D.beq d d && D.beqs ds ds) = true; rw [D.beq_refl d, D.beqs_refl ds]; rfl
theorem D.beqk_refl : ∀ ds : List (D × D), D.beqk ds ds = true
  | [] => rfl
  | (k, d) :: ds => by show (D.beq k k && (D.beq d d && D.beqk ds ds)) = true; rw [D.beq_refl k, D.beq_refl d, D.beqk_refl ds]; rfl
end
theorem optBeq_refl : ∀ ds : List (Option D), optBeq ds ds = true
  | [] => rfl
  | none :: ds => optBeq_refl ds
  | some d :: ds => by show (D.beq d d && optBeq ds ds) = true; rw [D.beq_refl d, optBeq_refl ds]; rfl
theorem Cell.beq_refl : ∀ c : Cell, Cell.beq c c = true
  | .lst xs => D.beqs_refl xs
  | .dic xs => D.beqk_refl xs
  | .ins c fs => by show (c == c && optBeq fs fs) = true; rw [optBeq_refl fs]; simp
  | .hid => rfl
section
variable {X : Cx} {T : Tab} {W : WX} {lv : Nat} {cl : Call} {pins : List (Addr × Obj)} {σ : L2.St} {H H0 : Hp} {s : Shared} {φ φ0 : Foot} {m m0 : M} {d e : D} {ds xs ys : List D} {x y : V} {vs : List V} {v u : Value} {us : List Value} {A : Around} {Q : VK}
/-- a source's values, as long as it holds -/
def Src (X : Cx) (T : Tab) (k : Sk) (xs : List D) (hold : M → Bool) (H0 : Hp) (φ0 : Foot) : Prop :=
  ∀ H φ m, Mo H0 φ0 H φ → Sim X.K X.w T H φ m → hold m = true → ∃ vs, k.seq X.K H vs ∧ Rels X.K X.w T H φ xs vs
theorem held_refl (S : Sim X.K X.w T H φ m) (r : Rel X.K X.w T H φ d x) : held m d m = true := by
  cases d with
  | ref a =>
    cases r with
    | @ref _ p q b hq =>
      obtain ⟨c, ec, _⟩ := S.there hq
      show (match m[a]?, m[a]? with
        | some c, some c' => Cell.beq c c'
        | _, _ => false) = true
      rw [ec]
      exact Cell.beq_refl c
  | _ => rfl
theorem src_of (S : Sim X.K X.w T H0 φ0 m0) (r : Rel X.K X.w T H0 φ0 d x) (rx : RelV x u) (h : walkOf m0 d = some xs) : ∃ k : Sk, k.val = u ∧ Src X T k xs (held m0 d) H0 φ0 := by
  cases d with
  | str z =>
    cases h
    cases r
    obtain ⟨t, rfl⟩ := rx
    refine ⟨.txt (SS z) t, rfl, fun H φ m e S' hh => ⟨z.map fun c => V.str ⟨#[c]⟩, rfl, ?_⟩⟩
    clear S S' hh
    induction z with
    | nil => exact .nil
    | cons c z ih => exact .cons (.str [c]) ih
  | tup ys =>
    cases h
    cases r with
    | @tup p _ vs a b =>
      obtain rfl : u = Value.ref p := rx
      exact ⟨.tup p, rfl, fun H φ m e S' _ => ⟨vs, (e.tup a).sq, b.mo e⟩⟩
  | fl ys =>
    cases h
    cases r with
    | @fl p _ vs a b =>
      obtain rfl : u = Value.ref p := rx
      exact ⟨.lst p, rfl, fun H φ m e S' _ => ⟨vs, (e.lst a).sq, b.mo e⟩⟩
  | scr ys =>
    cases h
    cases r with
    | @scr p _ vs a b =>
      obtain rfl : u = Value.ref p := rx
      exact ⟨.lst p, rfl, fun H φ m e S' _ => ⟨vs, (e.scr a).sq, b.mo e⟩⟩
  | ref a =>
    cases r with
    | @ref _ p q b hq =>
      obtain rfl : u = Value.ref p := rx
      obtain ⟨c, ec, C⟩ := S.there hq
      have h : (match m0[a]? with
        | some (.lst xs) => some xs
        | _ => none) = some xs := h
      rw [ec] at h
      cases c with
      | lst ys =>
        cases h
        refine ⟨.lst p, rfl, fun H φ m e S' hh => ?_⟩
        obtain ⟨q', b', hq'⟩ := e.at_ _ _ _ _ hq
        obtain ⟨c', ec', C'⟩ := S'.there hq'
        have hh : (match m0[a]?, m[a]? with
          | some c, some c' => Cell.beq c c'
          | _, _ => false) = true := hh
        rw [ec, ec'] at hh
        have := Cell.beq_eq _ _ hh
        subst this
        obtain ⟨_, _, vs, hp, rs⟩ := C'
        exact ⟨vs, .inl (.inl hp), rs⟩
      | _ => cases h
  | _ => cases h
/-- an iterator that gives these -/
structure Wk (K : PySem.W.Frag) (w : World) (T : Tab) (J : It) (xs : List D) (hold : M → Bool) (H0 : Hp) (φ0 : Foot) : Prop where
  go : ∀ (i : Nat) d H φ m, Mo H0 φ0 H φ → Sim K w T H φ m → hold m = true → xs[i]? = some d → J.go i H
  yld : ∀ (i : Nat) d H φ m x H', Mo H0 φ0 H φ → Sim K w T H φ m → hold m = true → xs[i]? = some d → J.yld i H x H' → Ext H φ H' φ ∧ Sim K w T H' φ m ∧ Rel K w T H' φ d x
  stop : ∀ H φ m, Mo H0 φ0 H φ → Sim K w T H φ m → hold m = true → J.stop xs.length H
def tI (K : PySem.W.Frag) (w : World) (T : Tab) (W : WX) (F : Env → M → R Walked) : TI := fun σ H R => ∃ ρ m φ, EnvR K w T H φ ρ σ ∧ Sim K w T H φ m ∧ Post K w T W σ H φ (F ρ m) fun wk m' H' φ' => wk.hold m' = true → ∀ J, Wk K w T J wk.items wk.hold H' φ' → R J H'
theorem PI_imp {tg it : Expr} {t t' : TI} (h : PI X tg it t) (i : ∀ σ H R, t' σ H R → t σ H R) : PI X tg it t' := ⟨fun pins s σ H R I q => h.run pins s σ H R I (i σ H R q)⟩
theorem Rels.at_ {i : Nat} {v : V} (r : Rels X.K X.w T H φ xs vs) (e : vs[i]? = some v) (h : xs[i]? = some d) : Rel X.K X.w T H φ d v := by
  obtain ⟨w', e1, r1⟩ := r.get h
  rw [e] at e1
  cases e1
  exact r1
/-- the plain walk over it -/
def ItP (K : PySem.W.Frag) : Sk → It
  | .lst a => Itl K a
  | .tup a => Itt K a
  | .txt x _ => Its x
theorem turn_P {P : Program} {w : World} {K : PySem.W.Frag} {tg : Expr} (k : Sk) (it : Addr) : Turn P w K tg (ItP K k) [it] it (k.st it) := by
  cases k with
  | lst a => exact turn_list a it
  | tup a => exact turn_tuple a it
  | txt x t => exact turn_str it x t (strIterType x) (by unfold strIterType; cases x.cps.all (· < 128) <;> simp)
theorem wk_P {k : Sk} {hold : M → Bool} (h : Src X T k xs hold H0 φ0) : Wk X.K X.w T (ItP X.K k) xs hold H0 φ0 where
  go := fun i d H φ m e S hh hi => by
    obtain ⟨vs, hs, rs⟩ := h H φ m e S hh
    obtain ⟨v, e1, _⟩ := rs.get hi
    cases k with
    | lst a => exact ⟨vs, v, hs, e1⟩
    | tup a => exact ⟨vs, v, hs, e1⟩
    | txt z t =>
      have hs : vs = z.cps.toList.map fun c => V.str ⟨#[c]⟩ := hs
      have := (List.getElem?_eq_some_iff.mp e1).1
      rw [hs] at this
      show i < z.cps.size
      simpa using this
  yld := fun i d H φ m x H' e S hh hi hy => by
    obtain ⟨vs, hs, rs⟩ := h H φ m e S hh
    cases k with
    | lst a =>
      obtain ⟨rfl, hy⟩ := hy
      exact ⟨Ext.refl _ _, S, rs.at_ (hy vs hs) hi⟩
    | tup a =>
      obtain ⟨rfl, hy⟩ := hy
      exact ⟨Ext.refl _ _, S, rs.at_ (hy vs hs) hi⟩
    | txt z t =>
      obtain ⟨rfl, c, hc, ev⟩ := hy
      have hs : vs = z.cps.toList.map fun c => V.str ⟨#[c]⟩ := hs
      refine ⟨Ext.refl _ _, S, rs.at_ ?_ hi⟩
      rw [hs, List.getElem?_map]
      have : z.cps.toList[i]? = some c := by simpa using hc
      rw [this, ev]
      rfl
  stop := fun H φ m e S hh => by
    obtain ⟨vs, hs, rs⟩ := h H φ m e S hh
    cases k with
    | lst a => exact ⟨vs, hs, Nat.le_of_eq rs.length.symm⟩
    | tup a => exact ⟨vs, hs, Nat.le_of_eq rs.length.symm⟩
    | txt z t =>
      have hs : vs = z.cps.toList.map fun c => V.str ⟨#[c]⟩ := hs
      have := rs.length
      rw [hs] at this
      show z.cps.size ≤ xs.length
      simp at this
      omega
theorem wk_E {k : Sk} {hold : M → Bool} (h : Src X T k xs hold H0 φ0) : Wk X.K X.w T (ItE X.K k) (enumD 0 xs) hold H0 φ0 := by
  have hen : ∀ (n : Nat) (xs : List D) (i : Nat) (d : D), (enumD n xs)[i]? = some d → ∃ d0, xs[i]? = some d0 ∧ d = .tup [.int ((n + i : Nat) : Int), d0] := fun n xs => by
    induction xs generalizing n with
    | nil => intro i d h; simp [enumD] at h
    | cons x xs ih =>
      intro i d h
      cases i with
      | zero =>
        simp [enumD] at h
        exact ⟨x, rfl, by rw [← h]; simp⟩
      | succ i =>
        obtain ⟨d0, h1, h2⟩ := ih (n + 1) i d (by simpa [enumD] using h)
        exact ⟨d0, by simpa using h1, by rw [h2]; congr 4; omega⟩
  have hlen : ∀ (n : Nat) (xs : List D), (enumD n xs).length = xs.length := fun n xs => by
    induction xs generalizing n with
    | nil => rfl
    | cons x xs ih => simp [enumD, ih]
  exact {
    go := fun i d H φ m e S hh hi => by
      obtain ⟨vs, hs, rs⟩ := h H φ m e S hh
      obtain ⟨d0, h1, _⟩ := hen 0 xs i d hi
      obtain ⟨v, e1, _⟩ := rs.get h1
      exact ⟨vs, v, hs, e1⟩
    yld := fun i d H φ m x H' e S hh hi hy => by
      obtain ⟨vs, hs, rs⟩ := h H φ m e S hh
      obtain ⟨d0, h1, rfl⟩ := hen 0 xs i d hi
      obtain ⟨Tn, z, rfl, hT, rfl, hy⟩ := hy
      have r0 := rs.at_ (hy vs hs) h1
      have e2 : Ext H φ (upd H Tn (.tup [.int (i : Nat), z])) φ := Ext.upd hT
      refine ⟨e2, S.upd hT, .tup (.inl ⟨S.nin hT, .inl upd_same⟩) (.cons ?_ (.cons (r0.mono e2) .nil))⟩
      rw [Nat.zero_add]
      exact .int _
    stop := fun H φ m e S hh => by
      obtain ⟨vs, hs, rs⟩ := h H φ m e S hh
      exact ⟨vs, hs, by rw [hlen]; exact rs.length.symm⟩ }
theorem wk_Z {k1 k2 : Sk} {h1 h2 : M → Bool} (s1 : Src X T k1 xs h1 H0 φ0) (s2 : Src X T k2 ys h2 H0 φ0) : Wk X.K X.w T (ItZ X.K k1 k2) (zipD xs ys) (fun m => h1 m && h2 m) H0 φ0 := by
  have hz : ∀ (xs ys : List D) (i : Nat) (d : D), (zipD xs ys)[i]? = some d → ∃ a b, xs[i]? = some a ∧ ys[i]? = some b ∧ d = .tup [a, b] := fun xs => by
    induction xs with
    | nil => intro ys i d h; simp [zipD] at h
    | cons x xs ih =>
      intro ys i d h
      cases ys with
      | nil => simp [zipD] at h
      | cons y ys =>
        cases i with
        | zero =>
          simp [zipD] at h
          exact ⟨x, y, rfl, rfl, h.symm⟩
        | succ i =>
          obtain ⟨a, b, p, q, r⟩ := ih ys i d (by simpa [zipD] using h)
          exact ⟨a, b, by simpa using p, by simpa using q, r⟩
  have hlen : ∀ (xs ys : List D), (zipD xs ys).length = min xs.length ys.length := fun xs => by
    induction xs with
    | nil => intro ys; simp [zipD]
    | cons x xs ih =>
      intro ys
      cases ys with
      | nil => simp [zipD]
      | cons y ys => simp [zipD, ih]
  exact {
    go := fun i d H φ m e S hh hi => by
      have hh := Bool.and_eq_true_iff.mp hh
      obtain ⟨vs, hs, rs⟩ := s1 H φ m e S hh.1
      obtain ⟨ws, ht, rt⟩ := s2 H φ m e S hh.2
      obtain ⟨a, b, p, q, _⟩ := hz xs ys i d hi
      obtain ⟨v, e1, _⟩ := rs.get p
      obtain ⟨w', e2, _⟩ := rt.get q
      exact ⟨vs, ws, v, w', hs, ht, e1, e2⟩
    yld := fun i d H φ m x H' e S hh hi hy => by
      have hh := Bool.and_eq_true_iff.mp hh
      obtain ⟨vs, hs, rs⟩ := s1 H φ m e S hh.1
      obtain ⟨ws, ht, rt⟩ := s2 H φ m e S hh.2
      obtain ⟨a, b, p, q, rfl⟩ := hz xs ys i d hi
      obtain ⟨Tn, z, z', rfl, hT, rfl, hy1, hy2⟩ := hy
      have r1 := rs.at_ (hy1 vs hs) p
      have r2 := rt.at_ (hy2 ws ht) q
      have e2 : Ext H φ (upd H Tn (.tup [z, z'])) φ := Ext.upd hT
      exact ⟨e2, S.upd hT, .tup (.inl ⟨S.nin hT, .inl upd_same⟩) (.cons (r1.mono e2) (.cons (r2.mono e2) .nil))⟩
    stop := fun H φ m e S hh => by
      have hh := Bool.and_eq_true_iff.mp hh
      obtain ⟨vs, hs, rs⟩ := s1 H φ m e S hh.1
      obtain ⟨ws, ht, rt⟩ := s2 H φ m e S hh.2
      exact ⟨vs, ws, hs, ht, by rw [hlen, rs.length, rt.length]⟩ }
theorem wk_R {lo hi : Int} : Wk X.K X.w T (Itr lo (hi - lo).toNat) (rangeL lo hi) (fun _ => true) H0 φ0 where
  go := fun i d H φ m e S hh h => by
    have := (List.getElem?_eq_some_iff.mp h).1
    unfold rangeL at this
    show i < (hi - lo).toNat
    simpa using this
  yld := fun i d H φ m x H' e S hh h hy => by
    obtain ⟨rfl, rfl⟩ := hy
    unfold rangeL at h
    rw [List.getElem?_map] at h
    have hi2 : i < (hi - lo).toNat := by
      cases q : (List.range (hi - lo).toNat)[i]? with
      | none =>
        rw [q] at h
        cases h
      | some z =>
        have := (List.getElem?_eq_some_iff.mp q).1
        simpa using this
    rw [List.getElem?_range hi2] at h
    cases h
    exact ⟨Ext.refl _ _, S, .int _⟩
  stop := fun H φ m e S hh => by
    show (hi - lo).toNat ≤ (rangeL lo hi).length
    unfold rangeL
    simp

variable {a b c : Expr} {Fa Fb Fc : Env → M → R D} {pos p2 p p3 pos3 : Pos} {ρ : Env} {tg : Expr} {n : Str}
/-- for .. in e -/
theorem i_val (ha : PE X a (tE X.K X.w T W Fa)) : PI X tg a (tI X.K X.w T W fun ρ m => (Fa ρ m).bind fun d m => match walkOf m d with
    | some xs => .ok ⟨xs, held m d⟩ m
    | none => .bad) := by
  refine ⟨fun pins s σ H R I ⟨ρ, m, φ, hρ, S, h⟩ => ?_⟩
  have q : tE X.K X.w T W Fa σ H fun x H1 => ∃ d m1 φ1 xs, Sim X.K X.w T H1 φ1 m1 ∧ Rel X.K X.w T H1 φ1 d x ∧ walkOf m1 d = some xs ∧ (held m1 d m1 = true → ∀ J, Wk X.K X.w T J xs (held m1 d) H1 φ1 → R J H1) :=
    first hρ S h fun d m1 v H1 φ1 e1 S1 ρ1 r q => by
      cases ew : walkOf m1 d with
      | none =>
        rw [ew] at q
        exact q.elim
      | some xs =>
        rw [ew] at q
        exact ⟨d, m1, φ1, xs, S1, r, ew, Post.here S1 q⟩
  refine thn (ha.run pins s σ H _ I q) fun v s1 ⟨x, H1, I1, rx, d, m1, φ1, xs, S1, r, ew, hR⟩ => ?_
  have hh := held_refl S1 r
  obtain ⟨k, rfl, hk⟩ := src_of S1 r rx ew
  obtain ⟨vs, hs, _⟩ := hk H1 φ1 m1 (Ext.refl _ _).mo S1 hh
  obtain ⟨Hb, B, hb⟩ := k.begins I1 hs
  exact B.iter X.prog X.w X.A X.xe s1 _ hb (pi_one (tk := s1.toks) I1 k.new (turn_P k _) (k.st_new (Heap.get?_push_size _ B.free)) (hR hh _ (wk_P hk)))
/-- for i, x in enumerate(e) -/
theorem i_enum {elts : List Expr} {kk : Nat} {tpos : Pos} (F : Fx X T W lv cl) (hn : n = "enumerate") (hg : Gl X n) (ha : PE X a (tE X.K X.w T W Fa)) (hp : plainArgs [a] = true) :
    PI X (.Tuple elts kk tpos) (.Call (.Name n p) [a] [] pos) (tI X.K X.w T W fun ρ m => (Fa ρ m).bind fun d m => match walkOf m d with
      | some xs => .ok ⟨enumD 0 xs, held m d⟩ m
      | none => .bad) := by
  refine ⟨fun pins s σ H R I ⟨ρ, m, φ, hρ, S, h⟩ => ?_⟩
  have hs0 := star_cons (env := X.env) hp
  have q : tCons (tE X.K X.w T W Fa) tNil σ H fun vs H1 => ∃ x d m1 φ1 xs, vs = [x] ∧ Sim X.K X.w T H1 φ1 m1 ∧ Rel X.K X.w T H1 φ1 d x ∧ walkOf m1 d = some xs ∧ (held m1 d m1 = true → ∀ J, Wk X.K X.w T J (enumD 0 xs) (held m1 d) H1 φ1 → R J H1) :=
    first hρ S h fun d m1 v H1 φ1 e1 S1 ρ1 r q => by
      cases ew : walkOf m1 d with
      | none =>
        rw [ew] at q
        exact q.elim
      | some xs =>
        rw [ew] at q
        exact ⟨v, d, m1, φ1, xs, rfl, S1, r, ew, Post.here S1 q⟩
  have hA : PA X [a] (tCons (tE X.K X.w T W Fa) tNil) := pa_cons ha pa_nil hs0.1
  have hm : X.mg n = none := F.tb.free n (by subst hn; decide)
  subst hn
  refine Call_ (ld_blt I hg hm boot_enumerate (PyProof.Rows.callWith_type1 (thn (hA.run pos pins s σ H _ I q) fun us s1 ⟨vs, H1, I1, rv, x, d, m1, φ1, xs, ev, S1, r, ew, hR⟩ => ?_) hs0.1 (star_none hs0.2).1) (by decide) (by decide))
  subst ev
  obtain ⟨u, rfl, rx⟩ := vals1 rv
  have hh := held_refl S1 r
  obtain ⟨k, rfl, hk⟩ := src_of S1 r rx ew
  obtain ⟨ws, hs, _⟩ := hk H1 φ1 m1 (Ext.refl _ _).mo S1 hh
  obtain ⟨Hb, B, hb⟩ := k.begins I1 hs
  refine PdK.enum_begins1 B hb fun h' he hit hsz hkp => wpAny_pyIter_enum he ?_
  have I2 : Inv X pins σ H1 { s1 with heap := h' } := I1.kept (t' := s1.toks) hkp
  refine ⟨s1.heap.objs.size + 1, [s1.heap.objs.size + 1, s1.heap.objs.size], _, _, H1, rfl, I2, turn_enumK k (s1.heap.objs.size + 1) s1.heap.objs.size, ⟨⟨.none, he⟩, k.st_new hit, Nat.succ_ne_self _, k.off_new I1 hs (Nat.le_refl _), k.off_new I1 hs (Nat.le_succ _)⟩, fun b hb => ?_, hR hh _ (wk_E hk)⟩
  have e' : b = s1.heap.objs.size + 1 ∨ b = s1.heap.objs.size := by simpa using hb
  have hle : s1.heap.objs.size ≤ b := by
    rcases e' with z | z
    · rw [z]; exact Nat.le_add_right _ _
    · rw [z]; exact Nat.le_refl _
  exact I1.fpOk hle (I1.hok.fresh hle)
/-- for x, y in zip(e, f) -/
theorem i_zip {elts : List Expr} {kk : Nat} {tpos : Pos} (F : Fx X T W lv cl) (hn : n = "zip") (hg : Gl X n) (ha : PE X a (tE X.K X.w T W Fa)) (hb : PE X b (tE X.K X.w T W Fb)) (hp : plainArgs [a, b] = true) :
    PI X (.Tuple elts kk tpos) (.Call (.Name n p) [a, b] [] pos) (tI X.K X.w T W fun ρ m => (Fa ρ m).bind fun d m => (Fb ρ m).bind fun d' m => match walkOf m d, walkOf m d' with
      | some xs, some ys => .ok ⟨zipD xs ys, fun m' => held m d m' && held m d' m'⟩ m
      | _, _ => .bad) := by
  refine ⟨fun pins s σ H R I ⟨ρ, m, φ, hρ, S, h⟩ => ?_⟩
  have hs0 := star_cons (env := X.env) hp
  have hs1 := star_cons (env := X.env) hs0.2
  have q : tCons (tE X.K X.w T W Fa) (tCons (tE X.K X.w T W Fb) tNil) σ H fun vs H1 => ∃ x y d e m1 φ1 xs ys, vs = [x, y] ∧ Sim X.K X.w T H1 φ1 m1 ∧ Rel X.K X.w T H1 φ1 d x ∧ Rel X.K X.w T H1 φ1 e y ∧ walkOf m1 d = some xs ∧ walkOf m1 e = some ys ∧
      ((held m1 d m1 && held m1 e m1) = true → ∀ J, Wk X.K X.w T J (zipD xs ys) (fun m' => held m1 d m' && held m1 e m') H1 φ1 → R J H1) :=
    first hρ S h fun d m1 v H1 φ1 e1 S1 ρ1 r q => first ρ1 S1 q fun e m2 u H2 φ2 e2 S2 ρ2 r2 q2 => by
      cases ew : walkOf m2 d with
      | none =>
        rw [ew] at q2
        exact q2.elim
      | some xs =>
        cases ew2 : walkOf m2 e with
        | none =>
          rw [ew, ew2] at q2
          exact q2.elim
        | some ys =>
          rw [ew, ew2] at q2
          exact ⟨v, u, d, e, m2, φ2, xs, ys, rfl, S2, r.mono e2, r2, ew, ew2, Post.here S2 q2⟩
  have hA : PA X [a, b] (tCons (tE X.K X.w T W Fa) (tCons (tE X.K X.w T W Fb) tNil)) := pa_cons ha (pa_cons hb pa_nil hs1.1) hs0.1
  have hm : X.mg n = none := F.tb.free n (by subst hn; decide)
  subst hn
  refine Call_ (ld_blt I hg hm PyProof.Rows.boot_zip (PyProof.Rows.callWith_type1 (thn (hA.run pos pins s σ H _ I q) fun us s1 ⟨vs, H1, I1, rv, x, y, d, e, m1, φ1, xs, ys, ev, S1, r, r2, ew, ew2, hR⟩ => ?_) hs0.1 (star_none hs0.2).1) (by decide) (by decide))
  subst ev
  obtain ⟨u, u2, rfl, rx, ry⟩ := vals2 rv
  have hh := held_refl S1 r
  have hh2 := held_refl S1 r2
  obtain ⟨k1, rfl, hk1⟩ := src_of S1 r rx ew
  obtain ⟨k2, rfl, hk2⟩ := src_of S1 r2 ry ew2
  obtain ⟨ws, hs, _⟩ := hk1 H1 φ1 m1 (Ext.refl _ _).mo S1 hh
  obtain ⟨zs, ht, _⟩ := hk2 H1 φ1 m1 (Ext.refl _ _).mo S1 hh2
  obtain ⟨Hb, B, hb⟩ := k1.begins I1 hs
  obtain ⟨Hc, C, hc⟩ := k2.begins I1 ht
  refine zip_begins2 B C hb hc fun h' hz hTI hTO h1 h2 hsz hkp => wpAny_pyIter_zip hz ?_
  have I2 : Inv X pins σ H1 { s1 with heap := h' } := I1.kept (t' := s1.toks) hkp
  have off1 : ∀ b, s1.heap.objs.size ≤ b → b ∉ k1.box := fun b hb => Sk.off_box (k1.off_new I1 hs hb)
  have off2 : ∀ b, s1.heap.objs.size ≤ b → b ∉ k2.box := fun b hb => Sk.off_box (k2.off_new I1 ht hb)
  have hsep : ZipSep2 (s1.heap.objs.size + 4) (s1.heap.objs.size + 2) (s1.heap.objs.size + 3) s1.heap.objs.size (s1.heap.objs.size + 1) (s1.heap.objs.size :: k1.box) ((s1.heap.objs.size + 1) :: k2.box) := by
    have ne : ∀ (o i j : Nat), i ≠ j → o + i ≠ o + j := fun o i j h z => h (by omega)
    have ne0 : ∀ (o i : Nat), i ≠ 0 → o + i ≠ o := fun o i h z => h (by omega)
    have nin : ∀ {c a : Addr} {l : List Addr}, c ≠ a → c ∉ l → c ∉ a :: l := fun {c a l} h1 h2 q => by
      rcases List.mem_cons.mp q with q | q
      · exact h1 q
      · exact h2 q
    exact ⟨ne _ 2 4 (by decide), ne _ 3 4 (by decide), ne _ 2 3 (by decide), ne0 _ 2 (by decide), .head _, nin (ne0 _ 4 (by decide)) (off1 _ (Nat.le_add_right _ _)), nin (ne0 _ 3 (by decide)) (off1 _ (Nat.le_add_right _ _)), ne _ 2 1 (by decide), .head _,
      nin (ne _ 4 1 (by decide)) (off2 _ (Nat.le_add_right _ _)), nin (ne _ 3 1 (by decide)) (off2 _ (Nat.le_add_right _ _)), nin (fun z => ne0 _ 1 (by decide) z.symm) (off2 _ (Nat.le_refl _)), nin (ne0 _ 1 (by decide)) (off1 _ (Nat.le_add_right _ _))⟩
  refine ⟨s1.heap.objs.size + 4, [s1.heap.objs.size + 4, s1.heap.objs.size + 2, s1.heap.objs.size + 3, s1.heap.objs.size, s1.heap.objs.size + 1], _, _, H1, rfl, I2, turn_zipK k1 k2 _ _ _ _ _, ⟨hz, hTI, ⟨_, _, hTO⟩, k1.st_new h1, k2.st_new h2, hsep, k1.off_new I1 hs (Nat.le_refl _), k2.off_new I1 ht (Nat.le_succ _)⟩, fun c hcm => ?_, hR (Bool.and_eq_true_iff.mpr ⟨hh, hh2⟩) _ (wk_Z hk1 hk2)⟩
  have e' : c = s1.heap.objs.size + 4 ∨ c = s1.heap.objs.size + 2 ∨ c = s1.heap.objs.size + 3 ∨ c = s1.heap.objs.size ∨ c = s1.heap.objs.size + 1 := by simpa using hcm
  have hle : s1.heap.objs.size ≤ c := by
    rcases e' with z | z | z | z | z
    · rw [z]; exact Nat.le_add_right _ _
    · rw [z]; exact Nat.le_add_right _ _
    · rw [z]; exact Nat.le_add_right _ _
    · rw [z]; exact Nat.le_refl _
    · rw [z]; exact Nat.le_add_right _ _
  exact I1.fpOk hle (I1.hok.fresh hle)
/-- for i in range(e) -/
theorem i_range1 (F : Fx X T W lv cl) (hn : n = "range") (hg : Gl X n) (ha : PE X a (tE X.K X.w T W Fa)) (hp : plainArgs [a] = true) :
    PI X tg (.Call (.Name n p) [a] [] pos) (tI X.K X.w T W fun ρ m => (Fa ρ m).bind fun d m => match d with
      | .int i => bif decide (-10000 ≤ i) && decide (i ≤ 10000) then .ok ⟨rangeL 0 i, fun _ => true⟩ m else .bad
      | _ => .bad) := by
  have hs0 := star_cons (env := X.env) hp
  have hm : X.mg n = none := F.tb.free n (by subst hn; decide)
  subst hn
  refine PI_imp (pi_range1 hg hm (pa_cons ha pa_nil hs0.1) hs0.1) fun σ H R ⟨ρ, m, φ, hρ, S, h⟩ => ?_
  refine first hρ S h fun d m1 v H1 φ1 e1 S1 ρ1 r q => ?_
  cases d with
  | int i =>
    cases r
    cases z : decide (-10000 ≤ i) && decide (i ≤ 10000) with
    | false =>
      simp only [z] at q
      exact q.elim
    | true =>
      simp only [z] at q
      obtain ⟨z1, z2⟩ := Bool.and_eq_true_iff.mp z
      have z1 := of_decide_eq_true z1
      have z2 := of_decide_eq_true z2
      have q2 := Post.here S1 q rfl (Itr 0 (i - 0).toNat) wk_R
      rw [show (i - 0).toNat = i.toNat by omega] at q2
      exact ⟨i, rfl, by omega, by omega, q2⟩
  | _ => exact q.elim
end
end Pd

set_option maxHeartbeats 4000000
/-! Pd18: for, stores. -/
namespace Pd
open PySem PySem.Spec PyProof.Rows L2
section
variable {X : Cx} {T : Tab} {W : WX} {lv : Nat} {cl : Call} {pins : List (Addr × Obj)} {σ σ' : L2.St} {H H0 : Hp} {s : Shared} {φ φ0 : Foot} {m m0 : M} {d e : D} {ds xs ys : List D} {x y : V} {vs : List V} {v u : Value} {us : List Value} {A : Around} {Q : VK}
variable {a b c o : Expr} {Fa Fb Fc Fo : Env → M → R D} {pos p2 p p3 pos3 pos' : Pos} {ρ : Env} {tg iter : Expr} {n : Str} {body : List Stmt} {t : IT} {Fs : Env → M → R Walked} {FB : Env → M → R (Option D × Env)}
theorem Post.flat {α : Type} (hW : Flat W) {r : R α} {P : α → M → Hp → Foot → Prop} (h : Post X.K X.w T W σ H φ r P) : Post X.K X.w T W σ' H φ r P := by
  cases r with
  | ok d m => exact h
  | exc c d m => exact fun od H' φ' e s x => hW _ _ _ _ _ (h od H' φ' e s x)
  | bad => exact h
/-- a turn of a for -/
def turnF (t : IT) (FB : Env → M → R (Option D × Env)) (d : D) (ρ : Env) (m : M) : R (Option D × Env) := match tgt t d ρ with
  | some ρ' => FB ρ' m
  | none => .bad
theorem s_for (F : Fx X T W lv cl) (hW : Flat W) (hp : PassesOwn (model X.prog X.w) X.A X.env X.xe) (hi : PI X tg iter (tI X.K X.w T W Fs)) (ht : TgOk X t tg) (hb : PSs X body (tS X.K X.w T W X.N.length FB)) (hs : ∀ x, foldedSetIterable iter X.env x = pure x) :
    PS X (.For tg iter body [] pos) (tS X.K X.w T W X.N.length fun ρ m => (Fs ρ m).bind fun w m => forLoop (turnF t FB) w.hold w.items ρ m) := by
  refine PS_imp (ps_for hp F.calm hi (pg_T F.nd F.calm ht) hb hs) fun E σ H ⟨ρ, m, φ, hl, hρ, S, h⟩ => ?_
  refine ⟨ρ, m, φ, hρ, S, h.bind.mono (Ext.refl _ _) fun wk m1 H1 φ1 e1 S1 q hh J wj => ?_⟩
  refine ⟨fun i k σ2 H2 => k = wk.items.length - i ∧ i ≤ wk.items.length ∧ ∃ ρ2 m2 φ2, σ2.length = X.N.length ∧ EnvR X.K X.w T H2 φ2 ρ2 σ2 ∧ Sim X.K X.w T H2 φ2 m2 ∧ Ext H1 φ1 H2 φ2 ∧ wk.hold m2 = true ∧
    Post X.K X.w T W σ2 H2 φ2 (forLoop (turnF t FB) wk.hold (wk.items.drop i) ρ2 m2) (PS1 X.K X.w T X.N.length E), ⟨_, rfl, Nat.zero_le _, ρ, m1, φ1, hl, hρ.mono e1, S1, Ext.refl _ _, hh, q⟩, ?_⟩
  rintro i k σ2 H2 ⟨rfl, hik, ρ2, m2, φ2, hl2, hρ2, S2, e2, hh2, q2⟩
  by_cases hlt : i < wk.items.length
  · refine .inr ⟨wj.go i wk.items[i] H2 φ2 m2 e2.mo S2 hh2 (List.getElem?_eq_getElem hlt), fun σ3 H3 => wk.items.length - (i + 1) < wk.items.length - i ∧ i + 1 ≤ wk.items.length ∧ ∃ ρ2 m2 φ2, σ3.length = X.N.length ∧ EnvR X.K X.w T H3 φ2 ρ2 σ3 ∧ Sim X.K X.w T H3 φ2 m2 ∧ Ext H1 φ1 H3 φ2 ∧ wk.hold m2 = true ∧
      Post X.K X.w T W σ3 H3 φ2 (forLoop (turnF t FB) wk.hold (wk.items.drop (i + 1)) ρ2 m2) (PS1 X.K X.w T X.N.length E), fun σ' H' z => ⟨_, z.1, rfl, z.2⟩, fun xv H3 hy => ?_⟩
    obtain ⟨e3, S3, r3⟩ := wj.yld i wk.items[i] H2 φ2 m2 xv H3 e2.mo S2 hh2 (List.getElem?_eq_getElem hlt) hy
    rw [List.drop_eq_getElem_cons hlt] at q2
    have q3 : Post X.K X.w T W σ2 H2 φ2 ((turnF t FB wk.items[i] ρ2 m2).bind fun o m => match o with
      | (some d, ρ) => .ok (some d, ρ) m
      | (none, ρ) => bif wk.hold m then forLoop (turnF t FB) wk.hold (wk.items.drop (i + 1)) ρ m else .bad) (PS1 X.K X.w T X.N.length E) := q2
    unfold turnF at q3
    cases et : tgt t wk.items[i] ρ2 with
    | none =>
      rw [et] at q3
      exact q3.elim
    | some ρ3 =>
      rw [et] at q3
      refine gT_of ht hl2 (hρ2.mono e3) r3 et fun σ4 hl4 hρ4 => ⟨ρ3, m2, φ2, hl4, hρ4, S3, ?_⟩
      refine (Post.flat hW (q3.bind.mono e3 fun o m5 H5 φ5 e5 S5 q5 => ?_))
      obtain ⟨od, ρ5⟩ := o
      cases od with
      | some d => exact fun v r => Post.here S5 q5 v r
      | none =>
        refine fun _ σ6 hl6 hρ6 => ?_
        have q5 : Post X.K X.w T W σ2 H5 φ5 (bif wk.hold m5 then forLoop (turnF t FB) wk.hold (wk.items.drop (i + 1)) ρ5 m5 else .bad) (PS1 X.K X.w T X.N.length E) := q5
        cases hh5 : wk.hold m5 with
        | false =>
          rw [hh5] at q5
          exact q5.elim
        | true =>
          rw [hh5] at q5
          exact ⟨by omega, hlt, ρ5, m5, φ5, hl6, hρ6, S5, (e2.trans e3).trans e5, hh5, Post.flat hW q5⟩
  · have hie : i = wk.items.length := by omega
    subst hie
    refine .inl ⟨wj.stop H2 φ2 m2 e2.mo S2 hh2, ?_⟩
    rw [List.drop_of_length_le (Nat.le_refl _)] at q2
    exact Post.here S2 q2 S2 σ2 hl2 hρ2
/-! ### stores into instances that are being made, into lists -/
theorem putS_at {i : Nat} {v w' : V} {sl : List (Option V)} {j : Nat} (h : (sl[j]? = some (some w') ∧ j ≠ i) ∨ (j = i ∧ w' = v)) : (SlX.putS i v sl)[j]? = some (some w') := by
  rcases h with ⟨h, hj⟩ | ⟨rfl, rfl⟩
  · exact (SlX.putS_ne hj).mpr h
  · exact SlX.putS_get _ _ _
/-- o.a = e -/
theorem s_fld (F : Fx X T W lv cl) {a0 : Nat} {f : Str} (hf : f = attrS T a0) (hv : PE X a (tE X.K X.w T W Fa)) (ho : PE X o (tE X.K X.w T W Fo)) (hs : swapsWith a (some (.Attribute o f pos')) pos.line X.env = pure false) :
    PS X (.Assign [.Attribute o f pos'] a pos) (tS X.K X.w T W X.N.length fun ρ m => (Fa ρ m).bind fun d m => (Fo ρ m).bind fun x m => match x with
      | .ref r => (match m[r]? with
        | some (.ins c fs) => (match (T.clss[c]?).bind fun k => idxN k.slots a0 with
          | some i => .ok (none, ρ) (m.set r (.ins c (fs.set i (some d))))
          | none => .bad)
        | _ => .bad)
      | _ => .bad) := by
  refine PS_imp (SlX.ps_sl ho hv hs) fun E σ H ⟨ρ, m, φ, hl, hρ, S, h⟩ => ?_
  refine first hρ S h fun d m1 v H1 φ1 e1 S1 ρ1 r q => first ρ1 S1 q fun z m2 u H2 φ2 e2 S2 ρ2 r2 q2 => ?_
  have r := r.mono e2
  cases z with
  | ref r0 =>
    cases r2 with
    | @ref _ p q b hq =>
      obtain ⟨c0, ec, C0⟩ := S2.there hq
      simp only [ec] at q2
      cases c0 with
      | ins c fs =>
        obtain ⟨hb, ne, ⟨k, ek, k0, hlen⟩, sl, hsl, hfs⟩ := C0
        subst hb
        simp only [ek, Option.bind_some] at q2
        cases ei : idxN k.slots a0 with
        | none =>
          simp only [ei] at q2
          exact q2.elim
        | some i =>
          simp only [ei] at q2
          have K0 := F.tb.cls c k ek k0
          obtain ⟨pd, hpd⟩ := K0.slot a0 i ei
          subst hf
          refine ⟨p, _, q, pd, sl, i, rfl, hsl.slt, K0.sc, hpd, ?_⟩
          have hk : ∀ x, x ≠ (p, q, false).1 → x ≠ (p, q, false).2.1 → SlX.slH H2 p (clsA X.K T c) q (SlX.putS i v sl) x = H2 x := fun x h1 h2 => by
            unfold SlX.slH
            rw [upd_ne h1, upd_ne h2]
          have e3 := S2.wext hq rfl hk
          obtain ⟨e3, S3⟩ := S2.write (H' := SlX.slH H2 p (clsA X.K T c) q (SlX.putS i v sl)) (c := .ins c (fs.set i (some d))) hq rfl hk (show CellR X.K X.w T _ φ2 (.ins c (fs.set i (some d))) _ from
            ⟨rfl, ne, ⟨k, ek, k0, by rw [List.length_set]; exact hlen⟩, SlX.putS i v sl, .inr ⟨by unfold SlX.slH; exact upd_same, by unfold SlX.slH; rw [upd_ne ne, upd_same]⟩, fun j dj hj => by
              by_cases hji : i = j
              · subst hji
                have hil : i < fs.length := by
                  have := (List.getElem?_eq_some_iff.mp hj).1
                  simpa using this
                rw [List.getElem?_set_self hil] at hj
                cases hj
                exact ⟨v, putS_at (.inr ⟨rfl, rfl⟩), r.mono e3⟩
              · rw [List.getElem?_set_ne hji] at hj
                obtain ⟨w', h1, h2⟩ := hfs j dj hj
                exact ⟨w', putS_at (.inl ⟨h1, fun z => hji z.symm⟩), h2.mono e3⟩⟩)
          exact (Post.here S3 (q2.mono e3 fun _ _ _ _ _ _ z => z)) S3 σ hl (ρ2.mono e3)
      | _ => exact q2.elim
  | _ => exact q2.elim
/-- o[i] = e -/
theorem s_sub (F : Fx X T W lv cl) (hv : PE X a (tE X.K X.w T W Fa)) (ho : PE X o (tE X.K X.w T W Fo)) (hi : PE X b (tE X.K X.w T W Fb)) (hs : swapsWithSole [.Subscript o b pos'] a pos.line X.env = pure false)
    (hw : swappedStores [.Subscript o b pos'] a X.env = pure none) (hx : plainIx b = true) :
    PS X (.Assign [.Subscript o b pos'] a pos) (tS X.K X.w T W X.N.length fun ρ m => (Fa ρ m).bind fun d m => (Fo ρ m).bind fun x m => (Fb ρ m).bind fun y m => match x, y with
      | .ref r, .int i => (match m[r]? with
        | some (.lst xs) => (match placeOf xs.length i with
          | some j => .ok (none, ρ) (m.set r (.lst (xs.set j d)))
          | none => .bad)
        | _ => .bad)
      | _, _ => .bad) := by
  refine PS_imp (ps_asg hv (pg_sub ho hi set_list (fun v => by cases b <;> first | rfl | cases hx)) hs hw rfl) fun E σ H ⟨ρ, m, φ, hl, hρ, S, h⟩ => ?_
  refine first hρ S h fun d m1 v H1 φ1 e1 S1 ρ1 r q => first ρ1 S1 q fun z m2 u H2 φ2 e2 S2 ρ2 r2 q2 => first ρ2 S2 q2 fun y m3 w' H3 φ3 e3 S3 ρ3 r3 q3 => ?_
  have r := (r.mono e2).mono e3
  have r2 := r2.mono e3
  cases z with
  | ref r0 =>
    cases y with
    | int i =>
      cases r3
      cases r2 with
      | @ref _ p q b hq =>
        obtain ⟨c0, ec, C0⟩ := S3.there hq
        simp only [ec] at q3
        cases c0 with
        | lst xs =>
          obtain ⟨hb, hpq, vs, hp, rs⟩ := C0
          subst hb
          subst hpq
          simp only at q3
          cases ei : placeOf xs.length i with
          | none =>
            simp only [ei] at q3
            exact q3.elim
          | some j =>
            simp only [ei] at q3
            refine ⟨q, vs, i, j, rfl, rfl, hp, by rw [← rs.length]; exact ei, ?_⟩
            have hk : ∀ x, x ≠ (q, q, false).1 → x ≠ (q, q, false).2.1 → upd H3 q (.lst (vs.set j v)) x = H3 x := fun x h1 _ => upd_ne h1
            have e4 := S3.wext hq rfl hk
            obtain ⟨e4, S4⟩ := S3.write (H' := upd H3 q (.lst (vs.set j v))) (c := .lst (xs.set j d)) hq rfl hk (show CellR X.K X.w T _ φ3 (.lst (xs.set j d)) _ from ⟨rfl, rfl, _, upd_same, (rs.mono e4).set j (r.mono e4)⟩)
            exact (Post.here S4 (q3.mono e4 fun _ _ _ _ _ _ z => z)) S4 σ hl (ρ3.mono e4)
        | _ => exact q3.elim
    | _ => exact q3.elim
  | _ => exact q3.elim
end
end Pd

set_option maxHeartbeats 4000000
/-! Pd19: list comprehensions. -/
namespace Pd
open PySem PySem.Spec PyProof.Rows L2
section
variable {K : PySem.W.Frag} {w : World} {T : Tab} {W : WX} {H H' : Hp} {φ φ' : Foot} {ρ ρ' : Env} {σ σ' : L2.St} {d : D} {v : V}
theorem EnvR.wipe (h : EnvR K w T H φ ρ σ) : ∀ vs : List Nat, EnvR K w T H φ (wipeE ρ vs) (L2.wipe σ vs)
  | [] => h
  | v :: vs => by
    have ih := EnvR.wipe h vs
    intro i d q
    have q : ((wipeE ρ vs).set v none)[i]? = some (some d) := q
    by_cases hv : v = i
    · subst hv
      by_cases hl : v < (wipeE ρ vs).length
      · rw [List.getElem?_set_self hl] at q
        cases q
      · rw [List.getElem?_eq_none_iff.mpr (by rw [List.length_set]; omega)] at q
        cases q
    · rw [List.getElem?_set_ne hv] at q
      obtain ⟨x, a, b⟩ := ih i d q
      exact ⟨x, by show ((L2.wipe σ vs).set v none)[i]? = _; rw [List.getElem?_set_ne hv]; exact a, b⟩
theorem wipe_at : ∀ (vs : List Nat) (σ : L2.St) (j : Nat), (L2.wipe σ vs)[j]? = if j ∈ vs ∧ j < σ.length then some none else σ[j]?
  | [], σ, j => by simp [L2.wipe]
  | v :: vs, σ, j => by
    show ((L2.wipe σ vs).set v none)[j]? = _
    by_cases hv : v = j
    · subst hv
      by_cases hl : v < σ.length
      · rw [List.getElem?_set_self (by rw [wipe_length]; exact hl), if_pos ⟨.head _, hl⟩]
      · rw [if_neg (fun z => hl z.2), List.getElem?_eq_none_iff.mpr (by rw [List.length_set, wipe_length]; omega), List.getElem?_eq_none_iff.mpr (by omega)]
    · rw [List.getElem?_set_ne hv, wipe_at vs σ j]
      have : (j ∈ v :: vs) ↔ j ∈ vs := ⟨fun z => (List.mem_cons.mp z).resolve_left fun e => hv e.symm, fun z => .tail _ z⟩
      simp only [this]
/-- the names outside vs are the same -/
def Agree (vs : List Nat) (σ σ' : L2.St) : Prop := σ.length = σ'.length ∧ ∀ j, j ∉ vs → σ[j]? = σ'[j]?
theorem Agree.wipe {vs : List Nat} (h : Agree vs σ σ') : L2.wipe σ vs = L2.wipe σ' vs := by
  apply List.ext_getElem?
  intro j
  rw [wipe_at, wipe_at, h.1]
  by_cases hj : j ∈ vs
  · by_cases hl : j < σ'.length
    · rw [if_pos ⟨hj, hl⟩, if_pos ⟨hj, hl⟩]
    · rw [if_neg (fun z => hl z.2), if_neg (fun z => hl z.2), List.getElem?_eq_none_iff.mpr (by rw [h.1]; omega), List.getElem?_eq_none_iff.mpr (by omega)]
  · rw [if_neg (fun z => hj z.1), if_neg (fun z => hj z.1)]
    exact h.2 j hj
theorem Agree.of_wipe (vs : List Nat) (σ : L2.St) : Agree vs (L2.wipe σ vs) σ := ⟨wipe_length σ vs, fun j hj => by rw [wipe_at, if_neg (fun z => hj z.1)]⟩
theorem Agree.trans {vs : List Nat} {σ1 σ2 σ3 : L2.St} (a : Agree vs σ1 σ2) (b : Agree vs σ2 σ3) : Agree vs σ1 σ3 := ⟨a.1.trans b.1, fun j hj => (a.2 j hj).trans (b.2 j hj)⟩
theorem Agree.set {vs : List Nat} {i : Nat} (hi : i ∈ vs) (h : Agree vs σ σ') (x : Option V) : Agree vs (σ.set i x) σ' := ⟨by rw [List.length_set]; exact h.1, fun j hj => by
  have : i ≠ j := fun e => hj (e ▸ hi)
  rw [List.getElem?_set_ne this]
  exact h.2 j hj⟩
theorem Agree.setS {vs : List Nat} : ∀ (is : List Nat) (xs : List V) (σ : L2.St), (∀ i ∈ is, i ∈ vs) → Agree vs σ σ' → Agree vs (setS σ is xs) σ'
  | [], [], σ, _, h => h
  | [], _ :: _, σ, _, h => h
  | _ :: _, [], σ, _, h => h
  | i :: is, x :: xs, σ, hi, h => Agree.setS is xs _ (fun j hj => hi j (.tail _ hj)) (h.set (hi i (.head _)) _)
end
section
variable {X : Cx} {T : Tab} {W : WX} {lv : Nat} {cl : Call} {pins : List (Addr × Obj)} {σ σ' : L2.St} {H H0 H1 H2 : Hp} {s : Shared} {φ φ0 φ1 φ2 : Foot} {m m0 m1 m2 : M} {d e : D} {ds xs ys : List D} {x y : V} {vs : List V} {v u : Value} {us : List Value} {A : Around} {Q : VK}
theorem gT_agree {t : IT} {n : Nat} {ρ ρ' : Env} {P : L2.St → Hp → Prop} {ws : List Nat} (hb : ∀ i ∈ t.vars, i < n) (hw : ∀ i ∈ t.vars, i ∈ ws) (hl : σ.length = n) (hρ : EnvR X.K X.w T H φ ρ σ) (r : Rel X.K X.w T H φ d x) (e : tgt t d ρ = some ρ')
    (q : ∀ σ', σ'.length = n → Agree ws σ' σ → EnvR X.K X.w T H φ ρ' σ' → P σ' H) : gT X.K t x σ H P := by
  have a0 : Agree ws σ σ := ⟨rfl, fun _ _ => rfl⟩
  cases t with
  | nm i =>
    cases e
    exact q _ (by rw [List.length_set]; exact hl) (a0.set (hw _ (.head _)) _) (hρ.set (by rw [hl]; exact hb _ (.head _)) r)
  | tp is =>
    cases d with
    | tup xs =>
      cases r with
      | @tup p _ vs a1 a2 =>
        obtain ⟨h2, h3⟩ := EnvR.setAll is xs vs ρ ρ' σ hρ (fun i hi => by rw [hl]; exact hb i hi) a2 e
        exact ⟨p, vs, rfl, a1.sq, h3.symm, gNames_of is vs σ h3 (q _ (by rw [setS_len]; exact hl) (a0.setS is vs σ hw) h2)⟩
    | _ => cases e
/-- no exception is followed in a comprehension's block -/
abbrev W0 : WX := fun _ _ _ _ => False
/-- the accumulator of the comprehension: a hidden cell -/
theorem acc_new {o : HO} {Dd : Addr} (S : Sim X.K X.w T H φ m) (hD : H Dd = none) : Ext H φ (upd H Dd o) (φ ++ [(Dd, Dd, true)]) ∧ Sim X.K X.w T (upd H Dd o) (φ ++ [(Dd, Dd, true)]) (m ++ [.hid]) :=
  S.alloc (q := (Dd, Dd, true)) (c := .hid) hD hD (upd_more hD) ⟨rfl, ⟨_, upd_same⟩, _, upd_same⟩
/-- the accumulator is written: what is told of all others stays -/
theorem acc_mo {o : HO} {Dd : Addr} (hD : inFt φ Dd) : Mo H φ (upd H Dd o) φ := ⟨fun a p q b h => ⟨q, b, h⟩, fun p u h n => ⟨by rw [upd_ne (fun z => n (by rw [z]; exact hD))]; exact h, n⟩⟩
theorem acc_sim {o : HO} {Dd : Addr} {k : Nat} (S : Sim X.K X.w T H φ m) (hD : φ[k]? = some (Dd, Dd, true)) : Sim X.K X.w T (upd H Dd o) φ m where
  len := S.len
  cell := fun a c q h1 h2 => by
    have hin : inFt φ Dd := ⟨k, _, hD, .inl rfl⟩
    by_cases ha : k = a
    · subst ha
      rw [hD] at h2
      cases h2
      have C := S.cell k c _ h1 hD
      cases c with
      | hid => exact ⟨rfl, ⟨_, upd_same⟩, _, upd_same⟩
      | lst _ => cases C.1
      | dic _ => cases C.1
      | ins _ _ => cases C.1
    · obtain ⟨s1, s2, s3, s4⟩ := S.sep k a _ q hD h2 ha
      exact (S.cell a c q h1 h2).mo (acc_mo hin) (upd_ne (Ne.symm s1)) (upd_ne (Ne.symm s2))
  sep := S.sep
/-- what came before the accumulator does not see it written -/
theorem acc_ext {o : HO} {Dd : Addr} (e : Ext H0 φ0 H φ) (hD : H0 Dd = none) (hin : inFt φ Dd) : Ext H0 φ0 (upd H Dd o) φ where
  pre := e.pre
  keep := fun p u h n => by rw [upd_ne (ne_of_none h hD)]; exact e.keep p u h n
  hid := fun p u h n => by rw [upd_ne (ne_of_none h hD)]; exact e.hid p u h n
  new := e.new
theorem lcEnd_eq {r : R (List D)} {xs : List D} (h : lcEnd m r = .ok xs m2) : ∃ m', r = .ok xs m' ∧ oldOk m.length m m' = true ∧ D.unders m.length xs = true ∧ m2 = m'.take m.length := by
  cases r with
  | bad => cases h
  | exc c v m' => cases h
  | ok ys m' =>
    have h : (bif oldOk m.length m m' && D.unders m.length ys then (.ok ys (m'.take m.length) : R (List D)) else .bad) = .ok xs m2 := h
    cases z : oldOk m.length m m' && D.unders m.length ys with
    | false =>
      rw [z] at h
      cases h
    | true =>
      rw [z] at h
      cases h
      obtain ⟨z1, z2⟩ := Bool.and_eq_true_iff.mp z
      exact ⟨m', rfl, z1, z2, rfl⟩
/-- a clause of a comprehension -/
def clauseF (t : IT) (FT : Env → M → R Bool) (FE : Env → M → R D) (ρ : Env) (d : D) (m : M) : R (List D) := match tgt t d ρ with
  | none => .bad
  | some ρ' => (FT ρ' m).bind fun b m => bif b then (FE ρ' m).bind fun y m => .ok [y] m else .ok [] m
theorem clauseF_eq {t : IT} {FT : Env → M → R Bool} {FE : Env → M → R D} {ρ : Env} {os : List D} (h : clauseF t FT FE ρ d m = .ok os m2) :
    ∃ ρ', tgt t d ρ = some ρ' ∧ ((FT ρ' m = .ok false m2 ∧ os = []) ∨ ∃ m1 y, FT ρ' m = .ok true m1 ∧ FE ρ' m1 = .ok y m2 ∧ os = [y]) := by
  unfold clauseF at h
  cases e : tgt t d ρ with
  | none =>
    rw [e] at h
    cases h
  | some ρ' =>
    rw [e] at h
    obtain ⟨b, m1, h1, h2⟩ := bind_ok h
    refine ⟨ρ', rfl, ?_⟩
    cases b with
    | false =>
      have h2 : (.ok [] m1 : R (List D)) = .ok os m2 := h2
      cases h2
      exact .inl ⟨h1, rfl⟩
    | true =>
      have h2 : ((FE ρ' m1).bind fun y m => .ok [y] m) = .ok os m2 := h2
      obtain ⟨y, m3, h3, h4⟩ := bind_ok h2
      cases h4
      exact .inr ⟨m1, y, h1, h3, rfl⟩
theorem lcLoop_cons {f : D → M → R (List D)} {hold : M → Bool} {z : D} {r ys : List D} (h : lcLoop f hold (z :: r) m = .ok ys m2) : ∃ os m3 zs, f z m = .ok os m3 ∧ hold m3 = true ∧ lcLoop f hold r m3 = .ok zs m2 ∧ ys = os ++ zs := by
  have h : ((f z m).bind fun o m => bif hold m then (lcLoop f hold r m).bind fun ys m => .ok (o ++ ys) m else .bad) = .ok ys m2 := h
  obtain ⟨os, m3, h1, h2⟩ := bind_ok h
  cases hh : hold m3 with
  | false =>
    rw [hh] at h2
    cases h2
  | true =>
    rw [hh] at h2
    obtain ⟨zs, m4, h3, h4⟩ := bind_ok h2
    cases h4
    exact ⟨os, m3, zs, h1, hh, h3, rfl⟩
/-- how the loop stands: i turns done, the accumulator holds as -/
structure LcInv (X : Cx) (T : Tab) (Dd : Addr) (k : Nat) (H1 : Hp) (φ1 : Foot) (xs : List D) (H : Hp) (φ : Foot) (m : M) (as : List D) (ws : List V) (i : Nat) : Prop where
  acc : H Dd = some (.lst ws)
  rel : Rels X.K X.w T H φ as ws
  sz : as.length ≤ i
  sim : Sim X.K X.w T H φ m
  ext : Ext H1 φ1 H φ
  at_ : φ[k]? = some (Dd, Dd, true)
/-- nothing is stored: a part was evaluated -/
theorem LcInv.step {Dd : Addr} {k i : Nat} {as : List D} {ws : List V} (L : LcInv X T Dd k H1 φ1 xs H φ m as ws i) (e : Ext H φ H2 φ2) (S : Sim X.K X.w T H2 φ2 m2) : LcInv X T Dd k H1 φ1 xs H2 φ2 m2 as ws i :=
  ⟨e.hid _ _ L.acc ⟨k, _, L.at_, rfl, .inl rfl⟩, L.rel.mono e, L.sz, S, L.ext.trans e, e.at L.at_⟩
theorem LcInv.next {Dd : Addr} {k i j : Nat} {as : List D} {ws : List V} (L : LcInv X T Dd k H1 φ1 xs H φ m as ws i) (h : i ≤ j) : LcInv X T Dd k H1 φ1 xs H φ m as ws j := ⟨L.acc, L.rel, Nat.le_trans L.sz h, L.sim, L.ext, L.at_⟩
/-- an item is appended -/
theorem LcInv.put {Dd : Addr} {k i : Nat} {as : List D} {ws : List V} {v : V} (L : LcInv X T Dd k H1 φ1 xs H φ m as ws i) (hD : H1 Dd = none) (r : Rel X.K X.w T H φ d v) : LcInv X T Dd k H1 φ1 xs (upd H Dd (.lst (ws ++ [v]))) φ m (as ++ [d]) (ws ++ [v]) (i + 1) :=
  have hin : inFt φ Dd := ⟨k, _, L.at_, .inl rfl⟩
  ⟨upd_same, (L.rel.append (.one r)).mo (acc_mo hin), by rw [List.length_append]; have := L.sz; simp; omega, acc_sim L.sim L.at_, acc_ext L.ext hD hin, L.at_⟩
/-- the end: the list is there -/
theorem LcInv.done {Dd : Addr} {k i : Nat} {ws : List V} {m' : M} {σ : L2.St} (L : LcInv X T Dd k H1 φ1 xs H φ m' xs ws i) (S1 : Sim X.K X.w T H1 φ1 m1) (hD : H1 Dd = none) (ho : oldOk m1.length m1 m' = true) (hu : D.unders m1.length xs = true)
    (q : Post X.K X.w T W σ H1 φ1 (listOf false xs (m'.take m1.length)) fun d m' H' φ' => ∀ v, Rel X.K X.w T H' φ' d v → Q v H') : Q (.ref Dd) H := by
  have S := L.sim
  have e := L.ext
  obtain ⟨ψ, ep⟩ := e.pre
  subst ep
  obtain ⟨e2, S2⟩ := S1.forget e S ho
  have rr : Rels X.K X.w T H φ1 xs ws := L.rel.restrict _ _ (by rw [S1.len]; exact hu)
  unfold listOf at q
  cases z : okLen xs.length with
  | false =>
    rw [z] at q
    exact q.elim
  | true =>
    rw [z] at q
    have q : Post X.K X.w T W σ H1 φ1 (.ok (D.fl xs) (m'.take m1.length)) _ := q
    exact q H φ1 e2 S2 _ (.fl ⟨S1.nin hD, L.acc⟩ rr)
variable {elt tg iter : Expr} {ifs : List Expr} {scope : Scope} {own : List (Str × Nat)} {pos : Pos} {t : IT} {Fs : Env → M → R Walked} {FT : Env → M → R Bool} {FE : Env → M → R D}
theorem lcRun_eq {f : D → M → R (List D)} {wk : Walked} {P : List D → M → R D} {Pq : D → M → Hp → Foot → Prop} (h : Post X.K X.w T W σ H φ ((lcRun f wk m).bind P) Pq) :
    ∃ xs m', wk.items.length ≤ 4000 ∧ wk.hold (m ++ [.hid]) = true ∧ lcLoop f wk.hold wk.items (m ++ [.hid]) = .ok xs m' ∧ oldOk m.length m m' = true ∧ D.unders m.length xs = true ∧ Post X.K X.w T W σ H φ (P xs (m'.take m.length)) Pq := by
  unfold lcRun at h
  cases z : Nat.ble wk.items.length 4000 && wk.hold (m ++ [.hid]) with
  | false =>
    rw [z] at h
    exact h.elim
  | true =>
    rw [z] at h
    obtain ⟨z1, z2⟩ := Bool.and_eq_true_iff.mp z
    cases e : lcEnd m (lcLoop f wk.hold wk.items (m ++ [.hid])) with
    | bad =>
      simp only [cond_true, e] at h
      exact h.elim
    | exc c v m' =>
      exfalso
      cases e2 : lcLoop f wk.hold wk.items (m ++ [.hid]) with
      | ok ys m3 =>
        rw [e2] at e
        have e : (bif oldOk m.length m m3 && D.unders m.length ys then (.ok ys (m3.take m.length) : R (List D)) else .bad) = .exc c v m' := e
        cases q : oldOk m.length m m3 && D.unders m.length ys <;> rw [q] at e <;> cases e
      | exc _ _ _ =>
        rw [e2] at e
        cases e
      | bad =>
        rw [e2] at e
        cases e
    | ok xs m2 =>
      simp only [cond_true, e] at h
      obtain ⟨m', e1, e2, e3, rfl⟩ := lcEnd_eq e
      exact ⟨xs, m', Nat.le_of_ble_eq_true z1, z2, e1, e2, e3, h⟩
/-- one turn: the clause at an item -/
theorem clause_turn {Dd : Addr} {k i : Nat} {as : List D} {ws : List V} {ρ : Env} {z : D} {os : List D} {m3 : M} {xv : V} {vs : List Nat} {Nx : Hp → Prop} (hb : ∀ i ∈ t.vars, i < X.N.length) (hv : ∀ i ∈ t.vars, i ∈ vs) (hl : σ.length = X.N.length) (hρ : EnvR X.K X.w T H φ ρ σ) (hi : i < 16777216)
    (hD : H1 Dd = none) (L : LcInv X T Dd k H1 φ1 xs H φ m as ws i) (r : Rel X.K X.w T H φ z xv) (hc : clauseF t FT FE (wipeE ρ vs) z m = .ok os m3)
    (hN : ∀ H' φ' as' ws', LcInv X T Dd k H1 φ1 xs H' φ' m3 as' ws' (i + 1) → as' = as ++ os → Nx H') :
    gT X.K t xv (L2.wipe σ vs) H fun σ2 H2 => L2.wipe σ2 vs = L2.wipe σ vs ∧ tT X.K X.w T W0 FT σ2 H2 fun b H3 => if b = true then tE X.K X.w T W0 FE σ2 H3 fun y H4 => ∃ acc, H4 Dd = some (.lst acc) ∧ acc.length < sizeLine ∧ Nx (upd H4 Dd (.lst (acc ++ [y]))) else Nx H3 := by
  obtain ⟨ρ', et, hh⟩ := clauseF_eq hc
  refine gT_agree (ws := vs) hb hv (by rw [wipe_length]; exact hl) (hρ.wipe vs) r et fun σ2 hl2 ha hρ2 => ⟨ha.wipe.trans (Agree.of_wipe vs σ).wipe, ?_⟩
  rcases hh with ⟨h1, rfl⟩ | ⟨m4, y, h1, h2, rfl⟩
  · refine ⟨ρ', m, φ, hρ2, L.sim, ?_⟩
    rw [h1]
    intro H' φ' e S'
    show (if false = true then _ else Nx H')
    rw [if_neg Bool.false_ne_true]
    exact hN H' φ' as ws ((L.step e S').next (Nat.le_succ _)) (List.append_nil as).symm
  · refine ⟨ρ', m, φ, hρ2, L.sim, ?_⟩
    rw [h1]
    intro H' φ' e S'
    show (if true = true then tE X.K X.w T W0 FE σ2 H' _ else Nx H')
    rw [if_pos rfl]
    refine ⟨ρ', m4, φ', hρ2.mono e, S', ?_⟩
    rw [h2]
    intro H'' φ'' e2 S'' v rv
    have L2 := (L.step e S').step e2 S''
    refine ⟨ws, L2.acc, ?_, hN _ φ'' _ _ (L2.put hD rv) rfl⟩
    have h3 := L2.rel.length
    have h4 := L2.sz
    have : (sizeLine : Nat) = 16777216 := by decide
    omega
/-- what a comprehension asks, from what the evaluator gives -/
theorem lc_imp (hv : ∀ i ∈ t.vars, i ∈ own.map (·.2)) (hb : ∀ i ∈ t.vars, i < X.N.length) (hl : σ.length = X.N.length) (hE : tE X.K X.w T W (fun ρ m => ((Fs ρ m).bind fun wk m => lcRun (clauseF t FT FE (wipeE ρ (own.map (·.2)))) wk m).bind fun xs m => listOf false xs m) σ H Q) :
    tLc (tI X.K X.w T W Fs) (gT X.K t) (tT X.K X.w T W0 FT) (tE X.K X.w T W0 FE) (own.map (·.2)) σ H Q := by
  obtain ⟨ρ, m, φ, hρ, S, h⟩ := hE
  have h2 : Post X.K X.w T W σ H φ ((Fs ρ m).bind fun wk m => (lcRun (clauseF t FT FE (wipeE ρ (own.map (·.2)))) wk m).bind fun xs m => listOf false xs m) fun d m' H' φ' => ∀ v, Rel X.K X.w T H' φ' d v → Q v H' := by
    dsimp only at h
    cases e : Fs ρ m with
    | ok a m' =>
      rw [e] at h
      exact h
    | exc _ _ _ =>
      rw [e] at h
      exact h
    | bad =>
      rw [e] at h
      exact h
  refine ⟨ρ, m, φ, hρ, S, h2.bind.mono (Ext.refl _ _) fun wk m1 H1 φ1 e1 S1 q hh J wj Dd hD => ?_⟩
  obtain ⟨xs, m', hsz, hh2, er, ho, hu, q⟩ := lcRun_eq q
  obtain ⟨ea, Sa⟩ := acc_new (o := .lst []) S1 hD
  refine ⟨fun i n H' => n = wk.items.length - i ∧ i ≤ wk.items.length ∧ ∃ φ' m2 as ws ys, LcInv X T Dd φ1.length H1 φ1 xs H' φ' m2 as ws i ∧ wk.hold m2 = true ∧ lcLoop (clauseF t FT FE (wipeE ρ (own.map (·.2)))) wk.hold (wk.items.drop i) m2 = .ok ys m' ∧ as ++ ys = xs,
    ⟨_, rfl, Nat.zero_le _, φ1 ++ [(Dd, Dd, true)], m1 ++ [Cell.hid], [], [], xs, ⟨upd_same, .nil, Nat.le_refl _, Sa, ea, by simp⟩, hh2, by rw [List.drop_zero]; exact er, rfl⟩, ?_⟩
  rintro i n H' ⟨rfl, hi', φ', m2, as, ws, ys, L, hh3, el, eys⟩
  by_cases hlt : i < wk.items.length
  · rw [List.drop_eq_getElem_cons hlt] at el
    obtain ⟨os, m3, zs, c1, c2, c3, rfl⟩ := lcLoop_cons el
    refine .inr ⟨wj.go i wk.items[i] H' φ' m2 L.ext.mo L.sim hh3 (List.getElem?_eq_getElem hlt), fun H'' => wk.items.length - (i + 1) < wk.items.length - i ∧ i + 1 ≤ wk.items.length ∧ ∃ φ' m2 as ws ys, LcInv X T Dd φ1.length H1 φ1 xs H'' φ' m2 as ws (i + 1) ∧ wk.hold m2 = true ∧
      lcLoop (clauseF t FT FE (wipeE ρ (own.map (·.2)))) wk.hold (wk.items.drop (i + 1)) m2 = .ok ys m' ∧ as ++ ys = xs, fun H'' z => ⟨_, z.1, rfl, z.2⟩, fun xv H3 hy => ?_⟩
    obtain ⟨e3, S3, r3⟩ := wj.yld i wk.items[i] H' φ' m2 xv H3 L.ext.mo L.sim hh3 (List.getElem?_eq_getElem hlt) hy
    have L3 := L.step e3 S3
    exact clause_turn hb hv hl (hρ.mono (e1.trans L3.ext)) (by omega) hD L3 r3 c1 fun H'' φ'' as' ws' L' ea => ⟨by omega, hlt, φ'', m3, as', ws', zs, L', c2, c3, by rw [ea, List.append_assoc]; exact eys⟩
  · have hie : i = wk.items.length := by omega
    subst hie
    rw [List.drop_of_length_le (Nat.le_refl _)] at el
    cases el
    rw [List.append_nil] at eys
    subst eys
    exact .inl ⟨wj.stop H' φ' _ L.ext.mo L.sim hh3, L.done S1 hD ho hu q⟩
/-- [e for x in s if c] -/
theorem c_lc (F : Fx X T W lv cl) (ok : BlkOk X.N X.env.scope scope own) (hv : ∀ i ∈ t.vars, i ∈ own.map (·.2)) (hb : ∀ i ∈ t.vars, i < X.N.length) (hi : PI X tg iter (tI X.K X.w T W Fs))
    (hg : ∀ (s : Shared) (H : Hp) (C : Addr) (cl : List (Str × Addr)) (fp : List Addr), PG (X.blk s H scope (compEnvC scope cl C X.env) fp) tg (gT X.K t))
    (ht : ∀ (s : Shared) (H : Hp) (C : Addr) (cl : List (Str × Addr)) (fp : List Addr), PTs (X.blk s H scope (compEnvC scope cl C X.env) fp) ifs (tT X.K X.w T W0 FT))
    (he : ∀ (s : Shared) (H : Hp) (C : Addr) (cl : List (Str × Addr)) (fp : List Addr), PE (X.blk s H scope (compEnvC scope cl C X.env) fp) elt (tE X.K X.w T W0 FE)) (hs : ∀ x, foldedSetIterable iter X.env x = pure x) :
    PE X (.ListComp elt [⟨tg, iter, ifs, 0⟩] scope pos) (tE X.K X.w T W fun ρ m => ((Fs ρ m).bind fun wk m => lcRun (clauseF t FT FE (wipeE ρ (own.map (·.2)))) wk m).bind fun xs m => listOf false xs m) := by
  exact ⟨fun pins s σ H Q I h => (pe_lc F.calm F.nd hi ok hg ht he hs).run pins s σ H Q I (lc_imp hv hb I.len h)⟩
/-- name = [e for x in s if c], on one line -/
theorem s_asgLc {i : Nat} {z : Str} {pos' spos : Pos} (F : Fx X T W lv cl) (hz : NmOk X i z) (hyl : X.env.scope.names.lookup z = some .local) (hsw : swapsWith (.ListComp elt [⟨tg, iter, ifs, 0⟩] scope pos) (some (.Name z pos')) spos.line X.env = pure true) (ok : BlkOk X.N X.env.scope scope own) (hv : ∀ i ∈ t.vars, i ∈ own.map (·.2)) (hb : ∀ i ∈ t.vars, i < X.N.length) (hi : PI X tg iter (tI X.K X.w T W Fs))
    (hg : ∀ (s : Shared) (H : Hp) (C : Addr) (cl : List (Str × Addr)) (fp : List Addr), PG (X.blk s H scope (compEnvC scope cl C X.env) fp) tg (gT X.K t))
    (ht : ∀ (s : Shared) (H : Hp) (C : Addr) (cl : List (Str × Addr)) (fp : List Addr), PTs (X.blk s H scope (compEnvC scope cl C X.env) fp) ifs (tT X.K X.w T W0 FT))
    (he : ∀ (s : Shared) (H : Hp) (C : Addr) (cl : List (Str × Addr)) (fp : List Addr), PE (X.blk s H scope (compEnvC scope cl C X.env) fp) elt (tE X.K X.w T W0 FE)) (hs : ∀ x, foldedSetIterable iter X.env x = pure x) :
    PS X (.Assign [.Name z pos'] (.ListComp elt [⟨tg, iter, ifs, 0⟩] scope pos) spos) (tS X.K X.w T W X.N.length fun ρ m => (((Fs ρ m).bind fun wk m => lcRun (clauseF t FT FE (wipeE ρ (own.map (·.2)))) wk m).bind fun xs m => listOf false xs m).bind fun d m => .ok (none, setE ρ i d) m) :=
  PS_imp (ps_setLc F.calm F.nd hz.at_ hyl hsw hi ok hg ht he hs) fun E σ H ⟨ρ, m, φ, hl, hρ, S, h⟩ => lc_imp hv hb hl (first (F := fun ρ m => ((Fs ρ m).bind fun wk m => lcRun (clauseF t FT FE (wipeE ρ (own.map (·.2)))) wk m).bind fun xs m => listOf false xs m) hρ S h fun d m1 v H1 φ1 e1 S1 ρ1 r q =>
    Post.here S1 q S1 _ (by rw [List.length_set]; exact hl) (ρ1.set (by rw [hl]; exact hz.lt) r))
end
end Pd

set_option maxHeartbeats 4000000
/-! Pd20: stars in displays, a, b = x, y. -/
namespace Pd
open PySem PySem.Spec PyProof.Rows L2
section
variable {X : Cx} {T : Tab} {W : WX} {lv : Nat} {cl : Call} {pins : List (Addr × Obj)} {σ σ' : L2.St} {H H0 H1 H2 : Hp} {s : Shared} {φ φ0 φ1 φ2 : Foot} {m m0 m1 m2 : M} {d e : D} {ds xs ys : List D} {x y : V} {vs : List V} {v u : Value} {us : List Value} {A : Around} {Q : VK}
variable {a b c : Expr} {es : List Expr} {Fa : Env → M → R D} {Fr : Env → M → R (List D)} {pos p pos' pt pt2 px py pz : Pos} {ρ : Env} {i j l kt k2 : Nat} {n1 n2 n3 : Str}
theorem a_star (ha : PE X a (tE X.K X.w T W Fa)) (hr : PA X es (tA X.K X.w T W Fr)) : PA X (.Starred a p :: es) (tA X.K X.w T W fun ρ m => (Fa ρ m).bind fun d m => match itemsOf m d with
    | some xs => (Fr ρ m).bind fun ds m => .ok (xs ++ ds) m
    | none => .bad) := by
  refine PA_imp (StX.pa_star ha hr) fun σ H Q ⟨ρ, m, φ, hρ, S, h⟩ => ?_
  refine first hρ S h fun d m1 v H1 φ1 e1 S1 ρ1 r q => ?_
  cases ei : itemsOf m1 d with
  | none =>
    rw [ei] at q
    exact q.elim
  | some xs =>
    rw [ei] at q
    obtain ⟨q0, vs, rfl, hs, rs⟩ := items_sq S1 r ei
    refine ⟨q0, vs, rfl, hs.symm, ?_⟩
    exact firstA ρ1 S1 q fun ds m2 ws H2 φ2 e2 S2 ρ2 r2 q2 => Post.here S2 q2 _ ((rs.mono e2).append r2)
/-- a, b = x, y -/
theorem s_par (F : Fx X T W lv cl) (h1 : NmOk X i n1) (h2 : NmOk X j n2) (hij : i ≠ j) (g1 : X.env.scope.names.lookup n1 = some .local) (g2 : X.env.scope.names.lookup n2 = some .local) (ha : PA X [a, b] (tA X.K X.w T W Fr))
    (hw : swappedStores [.Tuple [.Name n1 px, .Name n2 py] kt pt] (.Tuple [a, b] k2 pt2) X.env = pure (some [n1, n2])) (hs : swapsWithSole [.Tuple [.Name n1 px, .Name n2 py] kt pt] (.Tuple [a, b] k2 pt2) pos.line X.env = pure false) :
    PS X (.Assign [.Tuple [.Name n1 px, .Name n2 py] kt pt] (.Tuple [a, b] k2 pt2) pos) (tS X.K X.w T W X.N.length fun ρ m => ((Fr ρ m).bind fun xs m => tupF xs m).bind fun d m => match tgt (.tp [i, j]) d ρ with
      | some ρ' => .ok (none, ρ') m
      | none => .bad) := by
  refine PS_imp (ps_par F.calm F.nd h1.at_ h2.at_ hij g1 g2 ha hw hs) fun E σ H ⟨ρ, m, φ, hl, hρ, S, h⟩ => ?_
  have h3 : Post X.K X.w T W σ H φ ((Fr ρ m).bind fun xs m => bif okLen xs.length then (match setAll ρ [i, j] xs with
      | some ρ' => .ok (none, ρ') m
      | none => .bad) else .bad) (PS1 X.K X.w T X.N.length E) := by
    dsimp only at h
    cases e : Fr ρ m with
    | ok xs m' =>
      rw [e] at h
      have h : Post X.K X.w T W σ H φ ((bif okLen xs.length then (.ok (.tup xs) m' : R D) else .bad).bind _) _ := h
      show Post X.K X.w T W σ H φ (bif okLen xs.length then _ else .bad) _
      cases z : okLen xs.length with
      | false =>
        rw [z] at h
        exact h.elim
      | true =>
        rw [z] at h
        exact h
    | exc _ _ _ =>
      rw [e] at h
      exact h
    | bad =>
      rw [e] at h
      exact h
  refine firstA hρ S h3 fun xs m1 vs H1 φ1 e1 S1 ρ1 r q => ?_
  cases z : okLen xs.length with
  | false =>
    rw [z] at q
    exact q.elim
  | true =>
    rw [z] at q
    cases es : setAll ρ [i, j] xs with
    | none =>
      simp only [es, cond_true] at q
      exact q.elim
    | some ρ' =>
      simp only [es, cond_true] at q
      obtain ⟨k1, k2⟩ := EnvR.setAll [i, j] xs vs ρ ρ' σ ρ1 (fun q hq => by
        rw [hl]
        rcases List.mem_cons.mp hq with rfl | hq
        · exact h1.lt
        · rcases List.mem_cons.mp hq with rfl | hq
          · exact h2.lt
          · cases hq) r es
      match vs, k2, k1 with
      | [v, w'], _, k1 => exact ⟨v, w', rfl, Post.here S1 q S1 _ (by simp [hl]) k1⟩
theorem s_par3 (F : Fx X T W lv cl) (h1 : NmOk X i n1) (h2 : NmOk X j n2) (h0 : NmOk X l n3) (hij : i ≠ j) (hil : i ≠ l) (hjl : j ≠ l) (g1 : X.env.scope.names.lookup n1 = some .local) (g2 : X.env.scope.names.lookup n2 = some .local) (g3 : X.env.scope.names.lookup n3 = some .local) (ha : PA X [a, b, c] (tA X.K X.w T W Fr))
    (hw : swappedStores [.Tuple [.Name n1 px, .Name n2 py, .Name n3 pz] kt pt] (.Tuple [a, b, c] k2 pt2) X.env = pure (some [n1, n2, n3])) (hs : swapsWithSole [.Tuple [.Name n1 px, .Name n2 py, .Name n3 pz] kt pt] (.Tuple [a, b, c] k2 pt2) pos.line X.env = pure false) :
    PS X (.Assign [.Tuple [.Name n1 px, .Name n2 py, .Name n3 pz] kt pt] (.Tuple [a, b, c] k2 pt2) pos) (tS X.K X.w T W X.N.length fun ρ m => ((Fr ρ m).bind fun xs m => tupF xs m).bind fun d m => match tgt (.tp [i, j, l]) d ρ with
      | some ρ' => .ok (none, ρ') m
      | none => .bad) := by
  refine PS_imp (ps_par3 F.calm F.nd h1.at_ h2.at_ h0.at_ hij hil hjl g1 g2 g3 ha hw hs) fun E σ H ⟨ρ, m, φ, hl, hρ, S, h⟩ => ?_
  have h3 : Post X.K X.w T W σ H φ ((Fr ρ m).bind fun xs m => bif okLen xs.length then (match setAll ρ [i, j, l] xs with
      | some ρ' => .ok (none, ρ') m
      | none => .bad) else .bad) (PS1 X.K X.w T X.N.length E) := by
    dsimp only at h
    cases e : Fr ρ m with
    | ok xs m' =>
      rw [e] at h
      have h : Post X.K X.w T W σ H φ ((bif okLen xs.length then (.ok (.tup xs) m' : R D) else .bad).bind _) _ := h
      show Post X.K X.w T W σ H φ (bif okLen xs.length then _ else .bad) _
      cases z : okLen xs.length with
      | false =>
        rw [z] at h
        exact h.elim
      | true =>
        rw [z] at h
        exact h
    | exc _ _ _ =>
      rw [e] at h
      exact h
    | bad =>
      rw [e] at h
      exact h
  refine firstA hρ S h3 fun xs m1 vs H1 φ1 e1 S1 ρ1 r q => ?_
  cases z : okLen xs.length with
  | false =>
    rw [z] at q
    exact q.elim
  | true =>
    rw [z] at q
    cases es : setAll ρ [i, j, l] xs with
    | none =>
      simp only [es, cond_true] at q
      exact q.elim
    | some ρ' =>
      simp only [es, cond_true] at q
      obtain ⟨k1, k2⟩ := EnvR.setAll [i, j, l] xs vs ρ ρ' σ ρ1 (fun q hq => by
        rw [hl]
        rcases List.mem_cons.mp hq with rfl | hq
        · exact h1.lt
        · rcases List.mem_cons.mp hq with rfl | hq
          · exact h2.lt
          · rcases List.mem_cons.mp hq with rfl | hq
            · exact h0.lt
            · cases hq) r es
      match vs, k2, k1 with
      | [u, v, w'], _, k1 => exact ⟨u, v, w', rfl, Post.here S1 q S1 _ (by simp [hl]) k1⟩
end
end Pd

set_option maxHeartbeats 4000000
/-! Pd21: comprehensions of two generators. -/
namespace Pd
open PySem PySem.Spec PyProof.Rows L2
section
variable {K : PySem.W.Frag} {w : World} {T : Tab} {H H1 H2 : Hp} {φ φ1 φ2 : Foot} {ρ : Env} {σ : L2.St}
theorem Mo.trans (a : Mo H φ H1 φ1) (b : Mo H1 φ1 H2 φ2) : Mo H φ H2 φ2 := ⟨fun i p q c h => by
  obtain ⟨q', c', h'⟩ := a.at_ i p q c h
  exact b.at_ i p q' c' h', fun p o h n => b.keep p o (a.keep p o h n).1 (a.keep p o h n).2⟩
theorem EnvR.mo (e : Mo H φ H1 φ1) (h : EnvR K w T H φ ρ σ) : EnvR K w T H1 φ1 ρ σ := fun i d q => by
  obtain ⟨v, a, b⟩ := h i d q
  exact ⟨v, a, b.mo e⟩
end
section
variable {X : Cx} {T : Tab} {W : WX} {lv : Nat} {cl : Call} {pins : List (Addr × Obj)} {σ σ' : L2.St} {H H0 H1 H2 : Hp} {s : Shared} {φ φ0 φ1 φ2 : Foot} {m m0 m1 m2 : M} {d e : D} {ds xs ys : List D} {x y : V} {vs : List V} {v u : Value} {us : List Value} {A : Around} {Q : VK}
variable {elt tg iter tg1 iter1 : Expr} {ifs1 : List Expr} {scope : Scope} {own : List (Str × Nat)} {pos : Pos} {t t1 : IT} {Fs Fs1 : Env → M → R Walked} {FT : Env → M → R Bool} {FE : Env → M → R D}
/-- the outer clause of two -/
def outerF (t : IT) (FI : Env → D → M → R (List D)) (Fs1 : Env → M → R Walked) (vs1 : List Nat) (ρ : Env) (d : D) (m : M) : R (List D) := match tgt t d ρ with
  | none => .bad
  | some ρ' => (Fs1 ρ' m).bind fun w2 m => lcIn (FI (wipeE ρ' vs1)) w2 m
theorem outerF_eq {FI : Env → D → M → R (List D)} {vs1 : List Nat} {ρ : Env} {os : List D} {m3 : M} (h : outerF t FI Fs1 vs1 ρ d m = .ok os m3) :
    ∃ ρ' w2 m4, tgt t d ρ = some ρ' ∧ Fs1 ρ' m = .ok w2 m4 ∧ w2.items.length ≤ 4000 ∧ w2.hold m4 = true ∧ lcLoop (FI (wipeE ρ' vs1)) w2.hold w2.items m4 = .ok os m3 := by
  unfold outerF at h
  cases e : tgt t d ρ with
  | none =>
    rw [e] at h
    cases h
  | some ρ' =>
    rw [e] at h
    obtain ⟨w2, m4, h1, h2⟩ := bind_ok h
    unfold lcIn at h2
    cases z : Nat.ble w2.items.length 4000 && w2.hold m4 with
    | false =>
      rw [z] at h2
      cases h2
    | true =>
      rw [z] at h2
      obtain ⟨z1, z2⟩ := Bool.and_eq_true_iff.mp z
      exact ⟨ρ', w2, m4, rfl, h1, Nat.le_of_ble_eq_true z1, z2, h2⟩
theorem LcInv.mo {Dd : Addr} {k i : Nat} {as : List D} {ws : List V} (L : LcInv X T Dd k H1 φ1 xs H φ m as ws i) (o : HO) : Mo H φ (upd H Dd o) φ := acc_mo ⟨k, _, L.at_, .inl rfl⟩

theorem lc2_imp (hv : ∀ i ∈ t.vars, i ∈ own.map (·.2)) (hb : ∀ i ∈ t.vars, i < X.N.length) (hb1 : ∀ i ∈ t1.vars, i < X.N.length) (hl : σ.length = X.N.length) (hE : tE X.K X.w T W (fun ρ m => ((Fs ρ m).bind fun wk m => lcRun (outerF t (clauseF t1 FT FE) Fs1 t1.vars (wipeE ρ (own.map (·.2)))) wk m).bind fun xs m => listOf false xs m) σ H Q) :
    tLc2 (tI X.K X.w T W Fs) (gT X.K t) tYes (tI X.K X.w T W0 Fs1) (gT X.K t1) (tT X.K X.w T W0 FT) (tE X.K X.w T W0 FE) (own.map (·.2)) t1.vars σ H Q := by
  obtain ⟨ρ, m, φ, hρ, S, h⟩ := hE
  have h2 : Post X.K X.w T W σ H φ ((Fs ρ m).bind fun wk m => (lcRun (outerF t (clauseF t1 FT FE) Fs1 t1.vars (wipeE ρ (own.map (·.2)))) wk m).bind fun xs m => listOf false xs m) fun d m' H' φ' => ∀ v, Rel X.K X.w T H' φ' d v → Q v H' := by
    dsimp only at h
    cases e : Fs ρ m with
    | ok a m' =>
      rw [e] at h
      exact h
    | exc _ _ _ =>
      rw [e] at h
      exact h
    | bad =>
      rw [e] at h
      exact h
  refine ⟨ρ, m, φ, hρ, S, h2.bind.mono (Ext.refl _ _) fun wk m1 H1 φ1 e1 S1 q hh J wj Dd hD => ?_⟩
  obtain ⟨xs, m', hsz, hh2, er, ho, hu, q⟩ := lcRun_eq q
  obtain ⟨ea, Sa⟩ := acc_new (o := .lst []) S1 hD
  refine ⟨fun i n H' => n = wk.items.length - i ∧ i ≤ wk.items.length ∧ ∃ φ' m2 as ws ys, LcInv X T Dd φ1.length H1 φ1 xs H' φ' m2 as ws (4000 * i) ∧ wk.hold m2 = true ∧ lcLoop (outerF t (clauseF t1 FT FE) Fs1 t1.vars (wipeE ρ (own.map (·.2)))) wk.hold (wk.items.drop i) m2 = .ok ys m' ∧ as ++ ys = xs,
    ⟨_, rfl, Nat.zero_le _, φ1 ++ [(Dd, Dd, true)], m1 ++ [Cell.hid], [], [], xs, ⟨upd_same, .nil, Nat.le_refl _, Sa, ea, by simp⟩, hh2, by rw [List.drop_zero]; exact er, rfl⟩, ?_⟩
  rintro i n H' ⟨rfl, hi', φ', m2, as, ws, ys, L, hh3, el, eys⟩
  by_cases hlt : i < wk.items.length
  · rw [List.drop_eq_getElem_cons hlt] at el
    obtain ⟨os, m3, zs, c1, c2, c3, rfl⟩ := lcLoop_cons el
    refine .inr ⟨wj.go i wk.items[i] H' φ' m2 L.ext.mo L.sim hh3 (List.getElem?_eq_getElem hlt), fun H'' => wk.items.length - (i + 1) < wk.items.length - i ∧ i + 1 ≤ wk.items.length ∧ ∃ φ' m2 as ws ys, LcInv X T Dd φ1.length H1 φ1 xs H'' φ' m2 as ws (4000 * (i + 1)) ∧ wk.hold m2 = true ∧
      lcLoop (outerF t (clauseF t1 FT FE) Fs1 t1.vars (wipeE ρ (own.map (·.2)))) wk.hold (wk.items.drop (i + 1)) m2 = .ok ys m' ∧ as ++ ys = xs, fun H'' z => ⟨_, z.1, rfl, z.2⟩, fun xv H3 hy => ?_⟩
    obtain ⟨e3, S3, r3⟩ := wj.yld i wk.items[i] H' φ' m2 xv H3 L.ext.mo L.sim hh3 (List.getElem?_eq_getElem hlt) hy
    have L3 := L.step e3 S3
    obtain ⟨ρ', w2, m4, et, f1, f2, f3, f4⟩ := outerF_eq c1
    refine gT_agree (ws := own.map (·.2)) hb hv (by rw [wipe_length]; exact hl) ((hρ.mono (e1.trans L3.ext)).wipe _) r3 et fun σ2 hl2 ha hρ2 => ⟨ha.wipe.trans (Agree.of_wipe _ σ).wipe, ?_⟩
    unfold tYes
    refine (if_pos rfl : _ = _).mpr ?_
    refine ⟨ρ', m2, φ', hρ2, S3, ?_⟩
    rw [f1]
    intro H4 φ4 e4 S4 _ J1 wj1
    have L4 := L3.step e4 S4
    refine ⟨fun j n H5 => n = w2.items.length - j ∧ j ≤ w2.items.length ∧ ∃ φ5 m5 as5 ws5 ys5, LcInv X T Dd φ1.length H1 φ1 xs H5 φ5 m5 as5 ws5 (4000 * i + j) ∧ Mo H4 φ4 H5 φ5 ∧ w2.hold m5 = true ∧ lcLoop (clauseF t1 FT FE (wipeE ρ' t1.vars)) w2.hold (w2.items.drop j) m5 = .ok ys5 m3 ∧ as5 ++ ys5 = as ++ os,
      ⟨_, rfl, Nat.zero_le _, φ4, m4, as, ws, os, L4, (Ext.refl _ _).mo, f3, by rw [List.drop_zero]; exact f4, rfl⟩, ?_⟩
    rintro j n H5 ⟨rfl, hj, φ5, m5, as5, ws5, ys5, L5, mo5, hh5, el5, eys5⟩
    by_cases hlt2 : j < w2.items.length
    · rw [List.drop_eq_getElem_cons hlt2] at el5
      obtain ⟨os5, m6, zs5, d1, d2, d3, rfl⟩ := lcLoop_cons el5
      refine .inr ⟨wj1.go j w2.items[j] H5 φ5 m5 mo5 L5.sim hh5 (List.getElem?_eq_getElem hlt2), fun H'' => w2.items.length - (j + 1) < w2.items.length - j ∧ j + 1 ≤ w2.items.length ∧ ∃ φ5 m5 as5 ws5 ys5, LcInv X T Dd φ1.length H1 φ1 xs H'' φ5 m5 as5 ws5 (4000 * i + (j + 1)) ∧ Mo H4 φ4 H'' φ5 ∧ w2.hold m5 = true ∧
        lcLoop (clauseF t1 FT FE (wipeE ρ' t1.vars)) w2.hold (w2.items.drop (j + 1)) m5 = .ok ys5 m3 ∧ as5 ++ ys5 = as ++ os, fun H'' z => ⟨_, z.1, rfl, z.2⟩, fun xv5 H6 hy5 => ?_⟩
      obtain ⟨e6, S6, r6⟩ := wj1.yld j w2.items[j] H5 φ5 m5 xv5 H6 mo5 L5.sim hh5 (List.getElem?_eq_getElem hlt2) hy5
      have L6 := L5.step e6 S6
      have hρ6 : EnvR X.K X.w T H6 φ5 ρ' σ2 := (hρ2.mo e4.mo).mo (mo5.trans e6.mo)
      obtain ⟨ρ7, et7, hh7⟩ := clauseF_eq d1
      refine gT_agree (ws := t1.vars) hb1 (fun i h => h) (by rw [wipe_length]; exact hl2) (hρ6.wipe _) r6 et7 fun σ7 hl7 ha7 hρ7 => ⟨ha7.wipe.trans (Agree.of_wipe _ σ2).wipe, ?_⟩
      rcases hh7 with ⟨g1, rfl⟩ | ⟨m8, y8, g1, g2, rfl⟩
      · refine ⟨ρ7, m5, φ5, hρ7, S6, ?_⟩
        rw [g1]
        intro H8 φ8 e8 S8
        refine (if_neg Bool.false_ne_true : _ = _).mpr ?_
        exact ⟨by omega, hlt2, φ8, m6, as5, ws5, zs5, (L6.step e8 S8).next (by omega), (mo5.trans e6.mo).trans e8.mo, d2, d3, by simpa using eys5⟩
      · refine ⟨ρ7, m5, φ5, hρ7, S6, ?_⟩
        rw [g1]
        intro H8 φ8 e8 S8
        refine (if_pos rfl : _ = _).mpr ?_
        refine ⟨ρ7, m8, φ8, hρ7.mono e8, S8, ?_⟩
        rw [g2]
        intro H9 φ9 e9 S9 v9 rv9
        have L9 := (L6.step e8 S8).step e9 S9
        refine ⟨ws5, L9.acc, ?_, by omega, hlt2, φ9, m6, as5 ++ [y8], ws5 ++ [v9], zs5, L9.put hD rv9, (((mo5.trans e6.mo).trans e8.mo).trans e9.mo).trans (L9.mo _), d2, d3, by rw [List.append_assoc]; exact eys5⟩
        have h3 := L9.rel.length
        have h4 := L9.sz
        have : (sizeLine : Nat) = 16777216 := by decide
        omega
    · have hje : j = w2.items.length := by omega
      subst hje
      rw [List.drop_of_length_le (Nat.le_refl _)] at el5
      cases el5
      rw [List.append_nil] at eys5
      refine .inl ⟨wj1.stop H5 φ5 _ mo5 L5.sim hh5, by omega, hlt, φ5, m3, as5, ws5, zs, L5.next (by omega), c2, c3, by rw [eys5, List.append_assoc]; exact eys⟩
  · have hie : i = wk.items.length := by omega
    subst hie
    rw [List.drop_of_length_le (Nat.le_refl _)] at el
    cases el
    rw [List.append_nil] at eys
    subst eys
    exact .inl ⟨wj.stop H' φ' _ L.ext.mo L.sim hh3, L.done S1 hD ho hu q⟩
theorem c_lc2 (F : Fx X T W lv cl) (ok : BlkOk X.N X.env.scope scope own) (hv : ∀ i ∈ t.vars, i ∈ own.map (·.2)) (hb : ∀ i ∈ t.vars, i < X.N.length) (hv1 : ∀ i ∈ t1.vars, i ∈ own.map (·.2)) (hb1 : ∀ i ∈ t1.vars, i < X.N.length) (hi : PI X tg iter (tI X.K X.w T W Fs))
    (hg : ∀ (s : Shared) (H : Hp) (C : Addr) (cl : List (Str × Addr)) (fp : List Addr), PG (X.blk s H scope (compEnvC scope cl C X.env) fp) tg (gT X.K t))
    (hi1 : ∀ (s : Shared) (H : Hp) (C : Addr) (cl : List (Str × Addr)) (fp : List Addr), PI (X.blk s H scope (compEnvC scope cl C X.env) fp) tg1 iter1 (tI X.K X.w T W0 Fs1))
    (hg1 : ∀ (s : Shared) (H : Hp) (C : Addr) (cl : List (Str × Addr)) (fp : List Addr), PG (X.blk s H scope (compEnvC scope cl C X.env) fp) tg1 (gT X.K t1))
    (ht1 : ∀ (s : Shared) (H : Hp) (C : Addr) (cl : List (Str × Addr)) (fp : List Addr), PTs (X.blk s H scope (compEnvC scope cl C X.env) fp) ifs1 (tT X.K X.w T W0 FT))
    (he : ∀ (s : Shared) (H : Hp) (C : Addr) (cl : List (Str × Addr)) (fp : List Addr), PE (X.blk s H scope (compEnvC scope cl C X.env) fp) elt (tE X.K X.w T W0 FE)) (hs : ∀ x, foldedSetIterable iter X.env x = pure x) (hs1 : ∀ env x, foldedSetIterable iter1 env x = pure x) :
    PE X (.ListComp elt [⟨tg, iter, [], 0⟩, ⟨tg1, iter1, ifs1, 0⟩] scope pos) (tE X.K X.w T W fun ρ m => ((Fs ρ m).bind fun wk m => lcRun (outerF t (clauseF t1 FT FE) Fs1 t1.vars (wipeE ρ (own.map (·.2)))) wk m).bind fun xs m => listOf false xs m) := by
  exact ⟨fun pins s σ H Q I h => (pe_lc2 F.calm F.nd hi ok hv1 hg (fun _ _ _ _ _ => pts_nil) hi1 hg1 ht1 he hs hs1).run pins s σ H Q I (lc2_imp hv hb hb1 I.len h)⟩
theorem s_asgLc2 {i : Nat} {z : Str} {pos' spos : Pos} (F : Fx X T W lv cl) (hz : NmOk X i z) (hyl : X.env.scope.names.lookup z = some .local) (hsw : swapsWith (.ListComp elt [⟨tg, iter, [], 0⟩, ⟨tg1, iter1, ifs1, 0⟩] scope pos) (some (.Name z pos')) spos.line X.env = pure true) (ok : BlkOk X.N X.env.scope scope own) (hv : ∀ i ∈ t.vars, i ∈ own.map (·.2)) (hb : ∀ i ∈ t.vars, i < X.N.length) (hv1 : ∀ i ∈ t1.vars, i ∈ own.map (·.2)) (hb1 : ∀ i ∈ t1.vars, i < X.N.length) (hi : PI X tg iter (tI X.K X.w T W Fs))
    (hg : ∀ (s : Shared) (H : Hp) (C : Addr) (cl : List (Str × Addr)) (fp : List Addr), PG (X.blk s H scope (compEnvC scope cl C X.env) fp) tg (gT X.K t))
    (hi1 : ∀ (s : Shared) (H : Hp) (C : Addr) (cl : List (Str × Addr)) (fp : List Addr), PI (X.blk s H scope (compEnvC scope cl C X.env) fp) tg1 iter1 (tI X.K X.w T W0 Fs1))
    (hg1 : ∀ (s : Shared) (H : Hp) (C : Addr) (cl : List (Str × Addr)) (fp : List Addr), PG (X.blk s H scope (compEnvC scope cl C X.env) fp) tg1 (gT X.K t1))
    (ht1 : ∀ (s : Shared) (H : Hp) (C : Addr) (cl : List (Str × Addr)) (fp : List Addr), PTs (X.blk s H scope (compEnvC scope cl C X.env) fp) ifs1 (tT X.K X.w T W0 FT))
    (he : ∀ (s : Shared) (H : Hp) (C : Addr) (cl : List (Str × Addr)) (fp : List Addr), PE (X.blk s H scope (compEnvC scope cl C X.env) fp) elt (tE X.K X.w T W0 FE)) (hs : ∀ x, foldedSetIterable iter X.env x = pure x) (hs1 : ∀ env x, foldedSetIterable iter1 env x = pure x) :
    PS X (.Assign [.Name z pos'] (.ListComp elt [⟨tg, iter, [], 0⟩, ⟨tg1, iter1, ifs1, 0⟩] scope pos) spos) (tS X.K X.w T W X.N.length fun ρ m => ((fun ρ m => ((Fs ρ m).bind fun wk m => lcRun (outerF t (clauseF t1 FT FE) Fs1 t1.vars (wipeE ρ (own.map (·.2)))) wk m).bind fun xs m => listOf false xs m) ρ m).bind fun d m => .ok (none, setE ρ i d) m) :=
  PS_imp (ps_setLc2 F.calm F.nd hz.at_ hyl hsw hi ok hv1 hg (fun _ _ _ _ _ => pts_nil) hi1 hg1 ht1 he hs hs1) fun E σ H ⟨ρ, m, φ, hl, hρ, S, h⟩ => lc2_imp hv hb hb1 hl (first (F := fun ρ m => ((Fs ρ m).bind fun wk m => lcRun (outerF t (clauseF t1 FT FE) Fs1 t1.vars (wipeE ρ (own.map (·.2)))) wk m).bind fun xs m => listOf false xs m) hρ S h fun d m1 v H1 φ1 e1 S1 ρ1 r q =>
    Post.here S1 q S1 _ (by rw [List.length_set]; exact hl) (ρ1.set (by rw [hl]; exact hz.lt) r))
end
end Pd

set_option maxHeartbeats 4000000
/-! Pd22: dict comprehensions. -/
namespace Pd
open PySem PySem.Spec PyProof.Rows L2
section
variable {κ : Type} [DecidableEq κ]
def putV (kvs : List (κ × V)) (k : κ) (v : V) : List (κ × V) := match kvs with
  | [] => [(k, v)]
  | p :: r => if p.1 = k then (p.1, v) :: r else p :: putV r k v
theorem map_none (k : κ) (v : V) : ∀ kvs : List (κ × V), k ∉ kvs.map (·.1) → kvs.map (fun kv => if kv.1 = k then (kv.1, v) else kv) = kvs
  | [], _ => rfl
  | p :: r, h => by
    rw [List.map_cons, if_neg (fun e => h (by rw [List.map_cons, e]; exact .head _)), map_none k v r fun z => h (.tail _ z)]
theorem putV_eq (k : κ) (v : V) : ∀ kvs : List (κ × V), (kvs.map (·.1)).Nodup → putV kvs k v = putK kvs k v
  | [], _ => rfl
  | p :: r, h => by
    have ih := putV_eq k v r (List.nodup_cons.mp h).2
    have hn := (List.nodup_cons.mp h).1
    unfold putV
    by_cases e : p.1 = k
    · rw [if_pos e]
      unfold putK
      rw [if_pos (by rw [List.any_cons, decide_eq_true e]; rfl), List.map_cons, if_pos e, map_none k v r (by rw [← e]; exact hn)]
    · rw [if_neg e, ih]
      unfold putK
      rw [List.any_cons, decide_eq_false e, Bool.false_or]
      by_cases a : (r.any fun kv => decide (kv.1 = k)) = true
      · rw [if_pos a, if_pos a, List.map_cons, if_neg e]
      · rw [if_neg a, if_neg a, List.cons_append]
theorem putK_keys (k : κ) (v : V) (kvs : List (κ × V)) (h : (kvs.map (·.1)).Nodup) : ((putK kvs k v).map (·.1)).Nodup := by
  cases q : valV kvs k with
  | none => exact nd_putK v h q
  | some x =>
    unfold putK
    rw [if_pos (by rw [valV_any, q]; rfl), List.map_map]
    have : ((fun x : κ × V => x.1) ∘ fun kv => if kv.1 = k then (kv.1, v) else kv) = fun x => x.1 := by
      funext x
      show (if x.1 = k then (x.1, v) else x).1 = x.1
      split <;> rfl
    rw [this]
    exact h
end
section
variable {X : Cx} {T : Tab} {W : WX} {lv : Nat} {cl : Call} {pins : List (Addr × Obj)} {σ σ' : L2.St} {H H0 H1 H2 : Hp} {s : Shared} {φ φ0 φ1 φ2 : Foot} {m m0 m1 m2 : M} {d e : D} {ds xs ys : List D} {x y : V} {vs : List V} {v u : V} {us : List Value} {A : Around} {Q : VK}
theorem RelK.cons' (hk : keyOk d = true) (r : Rel X.K X.w T H φ e v) {kvs : List (D × D)} {ks : List (Key × V)} (rs : RelK X.K X.w T H φ kvs ks) : RelK X.K X.w T H φ ((d, e) :: kvs) ((keyV d, v) :: ks) := by
  cases d <;> (try cases hk)
  · exact .consI r rs
  · exact .consS r rs
theorem RelK.put' (hk : keyOk d = true) (rv : Rel X.K X.w T H φ e v) : ∀ {kvs : List (D × D)} {ks : List (Key × V)}, RelK X.K X.w T H φ kvs ks → RelK X.K X.w T H φ (dput kvs d e) (putV ks (keyV d) v)
  | [], _, r => by
    cases r
    exact RelK.cons' hk rv .nil
  | (a, b) :: kvs, _, r => by
    have go : ∀ {k : Key} {w : V} {ks : List (Key × V)}, keyOk a = true → k = keyV a → Rel X.K X.w T H φ b w → RelK X.K X.w T H φ kvs ks → RelK X.K X.w T H φ (dput ((a, b) :: kvs) d e) (putV ((k, w) :: ks) (keyV d) v) := fun {k w ks} ha ek r1 r2 => by
      subst ek
      show RelK X.K X.w T H φ (bif D.beq a d then (a, e) :: kvs else (a, b) :: dput kvs d e) (if keyV a = keyV d then (keyV a, v) :: ks else (keyV a, w) :: putV ks (keyV d) v)
      rw [keyV_inj ha hk]
      by_cases q : keyV a = keyV d
      · rw [decide_eq_true q, if_pos q]
        exact RelK.cons' ha rv r2
      · rw [decide_eq_false q, if_neg q]
        exact RelK.cons' ha r1 (RelK.put' hk rv r2)
    cases r with
    | consS r1 r2 => exact go rfl rfl r1 r2
    | consI r1 r2 => exact go rfl rfl r1 r2
theorem RelK.put (hk : keyOk d = true) (rv : Rel X.K X.w T H φ e v) {kvs : List (D × D)} {ks : List (Key × V)} (r : RelK X.K X.w T H φ kvs ks) (nd : (ks.map (·.1)).Nodup) : RelK X.K X.w T H φ (dput kvs d e) (putK ks (keyV d) v) := by
  rw [← putV_eq _ _ _ nd]
  exact RelK.put' hk rv r
theorem RelK.len : ∀ {kvs : List (D × D)} {ks : List (Key × V)}, RelK X.K X.w T H φ kvs ks → kvs.length = ks.length
  | _, _, .nil => rfl
  | _, _, .consS _ r => congrArg (· + 1) (RelK.len r)
  | _, _, .consI _ r => congrArg (· + 1) (RelK.len r)
theorem dput_len (d e : D) : ∀ kvs : List (D × D), (dput kvs d e).length ≤ kvs.length + 1
  | [] => Nat.le_refl _
  | (a, b) :: r => by
    show (bif D.beq a d then (a, e) :: r else (a, b) :: dput r d e).length ≤ _
    have := dput_len d e r
    cases D.beq a d
    · simp only [cond_false, List.length_cons]; omega
    · simp only [cond_true, List.length_cons]; omega

/-- how the loop stands -/
structure DcInv (X : Cx) (T : Tab) (Dd : Addr) (k : Nat) (H1 : Hp) (φ1 : Foot) (H : Hp) (φ : Foot) (m : M) (as : List (D × D)) (ws : List (Key × V)) (i : Nat) : Prop where
  acc : H Dd = some (.dK ws)
  rel : RelK X.K X.w T H φ as ws
  nd : (ws.map (·.1)).Nodup
  sz : as.length ≤ i
  sim : Sim X.K X.w T H φ m
  ext : Ext H1 φ1 H φ
  at_ : φ[k]? = some (Dd, Dd, true)
theorem DcInv.step {Dd : Addr} {k i : Nat} {as : List (D × D)} {ws : List (Key × V)} (L : DcInv X T Dd k H1 φ1 H φ m as ws i) (e : Ext H φ H2 φ2) (S : Sim X.K X.w T H2 φ2 m2) : DcInv X T Dd k H1 φ1 H2 φ2 m2 as ws i :=
  ⟨e.hid _ _ L.acc ⟨k, _, L.at_, rfl, .inl rfl⟩, RelK.mono e _ _ L.rel, L.nd, L.sz, S, L.ext.trans e, e.at L.at_⟩
theorem DcInv.next {Dd : Addr} {k i j : Nat} {as : List (D × D)} {ws : List (Key × V)} (L : DcInv X T Dd k H1 φ1 H φ m as ws i) (h : i ≤ j) : DcInv X T Dd k H1 φ1 H φ m as ws j := ⟨L.acc, L.rel, L.nd, Nat.le_trans L.sz h, L.sim, L.ext, L.at_⟩
theorem DcInv.put {Dd : Addr} {k i : Nat} {as : List (D × D)} {ws : List (Key × V)} {v : V} (L : DcInv X T Dd k H1 φ1 H φ m as ws i) (hD : H1 Dd = none) (hk : keyOk d = true) (r : Rel X.K X.w T H φ e v) :
    DcInv X T Dd k H1 φ1 (upd H Dd (.dK (putK ws (keyV d) v))) φ m (dput as d e) (putK ws (keyV d) v) (i + 1) :=
  have hin : inFt φ Dd := ⟨k, _, L.at_, .inl rfl⟩
  ⟨upd_same, RelK.mo (acc_mo hin) _ _ (L.rel.put hk r L.nd), putK_keys _ _ _ L.nd, by have := L.sz; have := dput_len d e as; omega, acc_sim L.sim L.at_, acc_ext L.ext hD hin, L.at_⟩
theorem DcInv.done {Dd : Addr} {k i : Nat} {kvs : List (D × D)} {ws : List (Key × V)} {m' : M} {σ : L2.St} (L : DcInv X T Dd k H1 φ1 H φ m' kvs ws i) (S1 : Sim X.K X.w T H1 φ1 m1) (hD : H1 Dd = none) (ho : oldOk m1.length m1 m' = true) (hu : D.underk m1.length kvs = true)
    (q : Post X.K X.w T W σ H1 φ1 (.ok (D.fd kvs) (m'.take m1.length)) fun d m' H' φ' => ∀ v, Rel X.K X.w T H' φ' d v → Q v H') : Q (.ref Dd) H := by
  have S := L.sim
  have e := L.ext
  obtain ⟨ψ, ep⟩ := e.pre
  subst ep
  obtain ⟨e2, S2⟩ := S1.forget e S ho
  have rr : RelK X.K X.w T H φ1 kvs ws := RelK.restrict _ _ L.rel (by rw [S1.len]; exact hu)
  exact q H φ1 e2 S2 _ (.fdK (S1.nin hD) L.acc rr)
theorem dcLoop_cons {f : D → M → R (Option (D × D))} {hold : M → Bool} {z : D} {r : List D} {acc ys : List (D × D)} (h : dcLoop f hold (z :: r) acc m = .ok ys m2) :
    ∃ o m3, f z m = .ok o m3 ∧ hold m3 = true ∧ dcLoop f hold r (match o with | some (k, v) => dput acc k v | none => acc) m3 = .ok ys m2 := by
  have h : ((f z m).bind fun o m => bif hold m then dcLoop f hold r (match o with | some (k, v) => dput acc k v | none => acc) m else .bad) = .ok ys m2 := h
  obtain ⟨o, m3, h1, h2⟩ := bind_ok h
  cases hh : hold m3 with
  | false =>
    rw [hh] at h2
    cases h2
  | true =>
    rw [hh] at h2
    exact ⟨o, m3, h1, hh, h2⟩
def dclauseF (t : IT) (FT : Env → M → R Bool) (FK FE : Env → M → R D) (ρ : Env) (d : D) (m : M) : R (Option (D × D)) := match tgt t d ρ with
  | none => .bad
  | some ρ' => (FT ρ' m).bind fun b m => bif b then (FK ρ' m).bind fun k m => (FE ρ' m).bind fun v m => bif keyOk k then .ok (some (k, v)) m else .bad else .ok none m
theorem dclauseF_eq {t : IT} {FT : Env → M → R Bool} {FK FE : Env → M → R D} {ρ : Env} {o : Option (D × D)} (h : dclauseF t FT FK FE ρ d m = .ok o m2) :
    ∃ ρ', tgt t d ρ = some ρ' ∧ ((FT ρ' m = .ok false m2 ∧ o = none) ∨ ∃ m1 k m3 y, FT ρ' m = .ok true m1 ∧ FK ρ' m1 = .ok k m3 ∧ FE ρ' m3 = .ok y m2 ∧ keyOk k = true ∧ o = some (k, y)) := by
  unfold dclauseF at h
  cases e : tgt t d ρ with
  | none =>
    rw [e] at h
    cases h
  | some ρ' =>
    rw [e] at h
    obtain ⟨b, m1, h1, h2⟩ := bind_ok h
    refine ⟨ρ', rfl, ?_⟩
    cases b with
    | false =>
      have h2 : (.ok none m1 : R (Option (D × D))) = .ok o m2 := h2
      cases h2
      exact .inl ⟨h1, rfl⟩
    | true =>
      have h2 : ((FK ρ' m1).bind fun k m => (FE ρ' m).bind fun v m => bif keyOk k then .ok (some (k, v)) m else .bad) = .ok o m2 := h2
      obtain ⟨k, m3, h3, h4⟩ := bind_ok h2
      obtain ⟨y, m4, h5, h6⟩ := bind_ok h4
      cases hk : keyOk k with
      | false =>
        rw [hk] at h6
        cases h6
      | true =>
        rw [hk] at h6
        cases h6
        exact .inr ⟨m1, k, m3, y, h1, h3, h5, hk, rfl⟩
variable {kx vx tg iter : Expr} {ifs : List Expr} {scope : Scope} {own : List (Str × Nat)} {pos : Pos} {t : IT} {Fs : Env → M → R Walked} {FT : Env → M → R Bool} {FK FE : Env → M → R D}
theorem dcRun_eq {f : D → M → R (Option (D × D))} {wk : Walked} {P : List (D × D) → M → R D} {Pq : D → M → Hp → Foot → Prop} (h : Post X.K X.w T W σ H φ ((dcRun f wk m).bind P) Pq) :
    ∃ kvs m', wk.items.length ≤ 4000 ∧ wk.hold (m ++ [.hid]) = true ∧ dcLoop f wk.hold wk.items [] (m ++ [.hid]) = .ok kvs m' ∧ oldOk m.length m m' = true ∧ D.underk m.length kvs = true ∧ Post X.K X.w T W σ H φ (P kvs (m'.take m.length)) Pq := by
  unfold dcRun at h
  cases z : Nat.ble wk.items.length 4000 && wk.hold (m ++ [.hid]) with
  | false =>
    rw [z] at h
    exact h.elim
  | true =>
    rw [z] at h
    obtain ⟨z1, z2⟩ := Bool.and_eq_true_iff.mp z
    have h : Post X.K X.w T W σ H φ ((dcEnd m (dcLoop f wk.hold wk.items [] (m ++ [.hid]))).bind P) Pq := h
    cases e2 : dcLoop f wk.hold wk.items [] (m ++ [.hid]) with
    | ok ys m3 =>
      rw [e2] at h
      have h : Post X.K X.w T W σ H φ ((bif oldOk m.length m m3 && D.underk m.length ys then (.ok ys (m3.take m.length) : R (List (D × D))) else .bad).bind P) Pq := h
      cases q : oldOk m.length m m3 && D.underk m.length ys with
      | false =>
        rw [q] at h
        exact h.elim
      | true =>
        rw [q] at h
        obtain ⟨q1, q2⟩ := Bool.and_eq_true_iff.mp q
        exact ⟨ys, m3, Nat.le_of_ble_eq_true z1, z2, rfl, q1, q2, h⟩
    | exc _ _ _ =>
      rw [e2] at h
      exact h.elim
    | bad =>
      rw [e2] at h
      exact h.elim
theorem dc_imp (hv : ∀ i ∈ t.vars, i ∈ own.map (·.2)) (hb : ∀ i ∈ t.vars, i < X.N.length) (hl : σ.length = X.N.length) (hE : tE X.K X.w T W (fun ρ m => (Fs ρ m).bind fun wk m => (dcRun (dclauseF t FT FK FE (wipeE ρ (own.map (·.2)))) wk m).bind fun kvs m => .ok (.fd kvs) m) σ H Q) :
    tDc (tI X.K X.w T W Fs) (gT X.K t) (tT X.K X.w T W0 FT) (tE X.K X.w T W0 FK) (tE X.K X.w T W0 FE) (own.map (·.2)) σ H Q := by
  obtain ⟨ρ, m, φ, hρ, S, h⟩ := hE
  dsimp only at h
  refine ⟨ρ, m, φ, hρ, S, h.bind.mono (Ext.refl _ _) fun wk m1 H1 φ1 e1 S1 q hh J wj Dd hD => ?_⟩
  obtain ⟨kvs, m', hsz, hh2, er, ho, hu, q⟩ := dcRun_eq q
  obtain ⟨ea, Sa⟩ := acc_new (o := .dK []) S1 hD
  refine ⟨fun i n H' => n = wk.items.length - i ∧ i ≤ wk.items.length ∧ ∃ φ' m2 as ws, DcInv X T Dd φ1.length H1 φ1 H' φ' m2 as ws i ∧ wk.hold m2 = true ∧ dcLoop (dclauseF t FT FK FE (wipeE ρ (own.map (·.2)))) wk.hold (wk.items.drop i) as m2 = .ok kvs m',
    ⟨_, rfl, Nat.zero_le _, φ1 ++ [(Dd, Dd, true)], m1 ++ [Cell.hid], [], [], ⟨upd_same, .nil, List.nodup_nil, Nat.le_refl _, Sa, ea, by simp⟩, hh2, by rw [List.drop_zero]; exact er⟩, ?_⟩
  rintro i n H' ⟨rfl, hi', φ', m2, as, ws, L, hh3, el⟩
  by_cases hlt : i < wk.items.length
  · rw [List.drop_eq_getElem_cons hlt] at el
    obtain ⟨o, m3, c1, c2, c3⟩ := dcLoop_cons el
    refine .inr ⟨wj.go i wk.items[i] H' φ' m2 L.ext.mo L.sim hh3 (List.getElem?_eq_getElem hlt), fun H'' => wk.items.length - (i + 1) < wk.items.length - i ∧ i + 1 ≤ wk.items.length ∧ ∃ φ' m2 as ws, DcInv X T Dd φ1.length H1 φ1 H'' φ' m2 as ws (i + 1) ∧ wk.hold m2 = true ∧
      dcLoop (dclauseF t FT FK FE (wipeE ρ (own.map (·.2)))) wk.hold (wk.items.drop (i + 1)) as m2 = .ok kvs m', fun H'' z => ⟨_, z.1, rfl, z.2⟩, fun xv H3 hy => ?_⟩
    obtain ⟨e3, S3, r3⟩ := wj.yld i wk.items[i] H' φ' m2 xv H3 L.ext.mo L.sim hh3 (List.getElem?_eq_getElem hlt) hy
    have L3 := L.step e3 S3
    obtain ⟨ρ', et, hh7⟩ := dclauseF_eq c1
    refine gT_agree (ws := own.map (·.2)) hb hv (by rw [wipe_length]; exact hl) ((hρ.mono (e1.trans L3.ext)).wipe _) r3 et fun σ2 hl2 ha hρ2 => ⟨ha.wipe.trans (Agree.of_wipe _ σ).wipe, ?_⟩
    rcases hh7 with ⟨g1, rfl⟩ | ⟨m4, k, m5, y, g1, g2, g3, hk2, rfl⟩
    · refine ⟨ρ', m2, φ', hρ2, S3, ?_⟩
      rw [g1]
      intro H8 φ8 e8 S8
      refine (if_neg Bool.false_ne_true : _ = _).mpr ?_
      exact ⟨by omega, hlt, φ8, m3, as, ws, (L3.step e8 S8).next (by omega), c2, c3⟩
    · refine ⟨ρ', m2, φ', hρ2, S3, ?_⟩
      rw [g1]
      intro H8 φ8 e8 S8
      refine (if_pos rfl : _ = _).mpr ?_
      refine ⟨ρ', m4, φ8, hρ2.mono e8, S8, ?_⟩
      rw [g2]
      intro H9 φ9 e9 S9 kv rk
      refine ⟨ρ', m5, φ9, (hρ2.mono e8).mono e9, S9, ?_⟩
      rw [g3]
      intro Ha φa e10 Sa v rv
      have L9 := ((L3.step e8 S8).step e9 S9).step e10 Sa
      refine ⟨ws, keyV k, keyV_rel rk hk2, L9.acc, ?_, by omega, hlt, φa, m3, _, _, L9.put hD hk2 rv, c2, c3⟩
      have h3 := L9.rel.len
      have h4 := L9.sz
      have : (sizeLine : Nat) = 16777216 := by decide
      omega
  · have hie : i = wk.items.length := by omega
    subst hie
    rw [List.drop_of_length_le (Nat.le_refl _)] at el
    cases el
    exact .inl ⟨wj.stop H' φ' _ L.ext.mo L.sim hh3, L.done S1 hD ho hu q⟩
/-- {k: e for x in s if c} -/
theorem c_dc (F : Fx X T W lv cl) (ok : BlkOk X.N X.env.scope scope own) (hv : ∀ i ∈ t.vars, i ∈ own.map (·.2)) (hb : ∀ i ∈ t.vars, i < X.N.length) (hi : PI X tg iter (tI X.K X.w T W Fs))
    (hg : ∀ (s : Shared) (H : Hp) (C : Addr) (cl : List (Str × Addr)) (fp : List Addr), PG (X.blk s H scope (compEnvC scope cl C X.env) fp) tg (gT X.K t))
    (ht : ∀ (s : Shared) (H : Hp) (C : Addr) (cl : List (Str × Addr)) (fp : List Addr), PTs (X.blk s H scope (compEnvC scope cl C X.env) fp) ifs (tT X.K X.w T W0 FT))
    (hk : ∀ (s : Shared) (H : Hp) (C : Addr) (cl : List (Str × Addr)) (fp : List Addr), PE (X.blk s H scope (compEnvC scope cl C X.env) fp) kx (tE X.K X.w T W0 FK))
    (he : ∀ (s : Shared) (H : Hp) (C : Addr) (cl : List (Str × Addr)) (fp : List Addr), PE (X.blk s H scope (compEnvC scope cl C X.env) fp) vx (tE X.K X.w T W0 FE)) (hs : ∀ x, foldedSetIterable iter X.env x = pure x) :
    PE X (.DictComp kx vx [⟨tg, iter, ifs, 0⟩] scope pos) (tE X.K X.w T W fun ρ m => (Fs ρ m).bind fun wk m => (dcRun (dclauseF t FT FK FE (wipeE ρ (own.map (·.2)))) wk m).bind fun kvs m => .ok (.fd kvs) m) := by
  exact ⟨fun pins s σ H Q I h => (pe_dc F.calm F.nd hi ok hg ht hk he hs).run pins s σ H Q I (dc_imp hv hb I.len h)⟩
end
end Pd

set_option maxHeartbeats 4000000
/-! Pd23: chains of two comparisons. -/
namespace Pd
open PySem PySem.Spec PyProof.Rows L2
section
variable {X : Cx} {T : Tab} {W : WX} {lv : Nat} {cl : Call} {pins : List (Addr × Obj)} {σ σ' : L2.St} {H H0 H1 H2 : Hp} {s : Shared} {φ φ0 φ1 φ2 : Foot} {m m0 m1 m2 : M} {d e : D} {ds xs ys : List D} {x y : V} {vs : List V} {v u : Value} {us : List Value} {A : Around} {Q : VK} {a b c : Expr} {Fa Fb Fc : Env → M → R D} {pos : Pos}
/-- what is asked after the first two -/
theorem cmp2_first (o1 o2 : CO) {Qv : V → Hp → Prop} {ρ : Env} (hρ : EnvR X.K X.w T H φ ρ σ) (S : Sim X.K X.w T H φ m)
    (h : Post X.K X.w T W σ H φ ((Fa ρ m).bind fun x m => (Fb ρ m).bind fun y m => (cmpF T cl o1 x y m).bind fun z m =>
      bif z then (Fc ρ m).bind fun w m => (cmpF T cl o2 y w m).bind fun z m => .ok (.bl z) m else .ok (.bl false) m) fun d m' H' φ' => ∀ v, Rel X.K X.w T H' φ' d v → Qv v H') :
    tE X.K X.w T W Fa σ H fun v H1 => tE X.K X.w T W Fb σ H1 fun u H2 => ∃ d e m2 φ2, Sim X.K X.w T H2 φ2 m2 ∧ Rel X.K X.w T H2 φ2 d v ∧ Rel X.K X.w T H2 φ2 e u ∧ Post X.K X.w T W σ H2 φ2 (cmpF T cl o1 d e m2) fun b m3 H3 φ3 =>
      if b = true then tE X.K X.w T W Fc σ H3 fun w H4 => ∃ e f m4 φ4, Sim X.K X.w T H4 φ4 m4 ∧ Rel X.K X.w T H4 φ4 e u ∧ Rel X.K X.w T H4 φ4 f w ∧ Post X.K X.w T W σ H4 φ4 (cmpF T cl o2 e f m4) fun b m' H' φ' => Qv (.bl b) H'
      else Qv (.bl false) H3 :=
  first hρ S h fun d m1 v H1 φ1 e1 S1 ρ1 r q => first ρ1 S1 q fun e m2 u H2 φ2 e2 S2 ρ2 r2 q2 => ⟨d, e, m2, φ2, S2, r.mono e2, r2, q2.bind.mono (Ext.refl _ _) fun b m3 H3 φ3 e3 S3 z => by
    cases b with
    | false =>
      refine (if_neg Bool.false_ne_true : _ = _).mpr ?_
      exact Post.here S3 z _ (.bl _)
    | true =>
      refine (if_pos rfl : _ = _).mpr ?_
      exact first (ρ2.mono e3) S3 z fun f m4 w H4 φ4 e4 S4 ρ4 r4 q4 => ⟨e, f, m4, φ4, S4, (r2.mono e3).mono e4, r4, q4.bind.mono (Ext.refl _ _) fun b m' H' φ' _ S' z => Post.here S' z _ (.bl _)⟩⟩
theorem c_cmp2 (F : Fx X T W lv cl) (o1 o2 : CO) (ha : PE X a (tE X.K X.w T W Fa)) (hb : PE X b (tE X.K X.w T W Fb)) (hc : PE X c (tE X.K X.w T W Fc)) (hm : lastMarks [o1.py, o2.py] [b, c] = false) :
    PE X (.Compare a [o1.py, o2.py] [b, c] pos) (tE X.K X.w T W fun ρ m => (Fa ρ m).bind fun x m => (Fb ρ m).bind fun y m => (cmpF T cl o1 x y m).bind fun z m =>
      bif z then (Fc ρ m).bind fun w m => (cmpF T cl o2 y w m).bind fun z m => .ok (.bl z) m else .ok (.bl false) m) := by
  refine ⟨fun pins s σ H Q I ⟨ρ, m, φ, hρ, S, h⟩ => ?_⟩
  refine Compare_chain (thn (ha.run pins s σ H _ I (cmp2_first (Qv := Q) o1 o2 hρ S h)) fun v s1 ⟨x, H1, I1, r1, q1⟩ => chain_link (thn (hb.run pins s1 σ H1 _ I1 q1) fun u s2 ⟨y, H2, I2, r2, d, e, m2, φ2, S2, rd, re, q2⟩ =>
    thn (run_cmp (Q := fun z H3 => ∃ k, z = .bl k ∧ (if k = true then tE X.K X.w T W Fc σ H3 fun w H4 => ∃ e f m4 φ4, Sim X.K X.w T H4 φ4 m4 ∧ Rel X.K X.w T H4 φ4 e y ∧ Rel X.K X.w T H4 φ4 f w ∧ Post X.K X.w T W σ H4 φ4 (cmpF T cl o2 e f m4) fun b m' H' φ' => Q (.bl b) H'
      else Q (.bl false) H3)) F o1 I2 r1 r2 S2 rd re (q2.mono (Ext.refl _ _) fun b m' H' φ' _ _ z => ⟨b, rfl, z⟩)) fun dd s3 ⟨z, H3, I3, r3, k, ez, q3⟩ => ?_)) hm
  subst ez
  cases r3
  refine wpAny_truthy_bool ?_
  cases k with
  | false => exact ite_ff ⟨.bl false, H3, I3, rfl, (if_neg Bool.false_ne_true : _ = _).mp q3⟩
  | true => exact ite_tt (chain_last (thn (hc.run pins s3 σ H3 _ I3 ((if_pos rfl : _ = _).mp q3)) fun w' s4 ⟨z', H4, I4, r4, e, f, m4, φ4, S4, re4, rf4, q4⟩ => run_cmp F o2 I4 r2 r4 S4 re4 rf4 q4))
theorem t_cmp2 (F : Fx X T W lv cl) (o1 o2 : CO) (ha : PE X a (tE X.K X.w T W Fa)) (hb : PE X b (tE X.K X.w T W Fb)) (hc : PE X c (tE X.K X.w T W Fc)) (hm : lastMarks [o1.py, o2.py] [b, c] = false) :
    PT X (.Compare a [o1.py, o2.py] [b, c] pos) (tT X.K X.w T W fun ρ m => ((Fa ρ m).bind fun x m => (Fb ρ m).bind fun y m => (cmpF T cl o1 x y m).bind fun z m =>
      bif z then (Fc ρ m).bind fun w m => (cmpF T cl o2 y w m).bind fun z m => .ok (.bl z) m else .ok (.bl false) m).bind isBl) := by
  refine ⟨fun pins s σ H Q I ⟨ρ, m, φ, hρ, S, h⟩ => ?_⟩
  have h2 : Post X.K X.w T W σ H φ ((Fa ρ m).bind fun x m => (Fb ρ m).bind fun y m => (cmpF T cl o1 x y m).bind fun z m =>
      bif z then (Fc ρ m).bind fun w m => (cmpF T cl o2 y w m).bind fun z m => .ok (.bl z) m else .ok (.bl false) m) fun d m' H' φ' => ∀ v, Rel X.K X.w T H' φ' d v → ∃ b, v = .bl b ∧ Q b H' :=
    h.bind.mono (Ext.refl _ _) fun d m1 H1 φ1 e1 S1 z v r => by
      cases d with
      | bl b =>
        cases r
        exact ⟨b, rfl, Post.here S1 z⟩
      | _ => exact z.elim
  refine isTrue_chain (thn (ha.run pins s σ H _ I (cmp2_first (Qv := fun v H' => ∃ b, v = .bl b ∧ Q b H') o1 o2 hρ S h2)) fun v s1 ⟨x, H1, I1, r1, q1⟩ => test_link (thn (hb.run pins s1 σ H1 _ I1 q1) fun u s2 ⟨y, H2, I2, r2, d, e, m2, φ2, S2, rd, re, q2⟩ =>
    thn (run_cmp (Q := fun z H3 => ∃ k, z = .bl k ∧ (if k = true then tE X.K X.w T W Fc σ H3 fun w H4 => ∃ e f m4 φ4, Sim X.K X.w T H4 φ4 m4 ∧ Rel X.K X.w T H4 φ4 e y ∧ Rel X.K X.w T H4 φ4 f w ∧ Post X.K X.w T W σ H4 φ4 (cmpF T cl o2 e f m4) fun b m' H' φ' => ∃ b', V.bl b = .bl b' ∧ Q b' H'
      else ∃ b', V.bl false = .bl b' ∧ Q b' H3)) F o1 I2 r1 r2 S2 rd re (q2.mono (Ext.refl _ _) fun b m' H' φ' _ _ z => ⟨b, rfl, z⟩)) fun dd s3 ⟨z, H3, I3, r3, k, ez, q3⟩ => ?_)) hm
  subst ez
  cases r3
  refine wpAny_truthy_bool ?_
  cases k with
  | false =>
    obtain ⟨k', e', q'⟩ := (if_neg Bool.false_ne_true : _ = _).mp q3
    cases e'
    exact ite_ff ⟨H3, I3, q'⟩
  | true =>
    refine ite_tt (test_last (thn (hc.run pins s3 σ H3 _ I3 ((if_pos rfl : _ = _).mp q3)) fun w' s4 ⟨z', H4, I4, r4, e, f, m4, φ4, S4, re4, rf4, q4⟩ => thn (run_cmp (Q := fun z H' => ∃ b', z = .bl b' ∧ Q b' H') F o2 I4 r2 r4 S4 re4 rf4 q4) fun d' s5 ⟨z2, H5, I5, r5, k2, e2, q5⟩ => ?_))
    subst e2
    cases r5
    exact wpAny_truthy_bool ⟨H5, I5, q5⟩
end
end Pd

set_option maxHeartbeats 4000000
/-! Pd24: the checker of expressions: names, parts, sources. -/
namespace Pd
open PySem PySem.Spec PyProof.Rows L2
/-- what is known of the place: names by slot, the scope, whose cells are new -/
structure Ck where
  N : List Str
  sc : Scope
  fn : Str → Bool
def Ck.blk (C : Ck) (scope : Scope) : Ck := ⟨C.N, relS scope C.sc, fun x => scope.names.lookup x == some .cell⟩
structure CxIs (X : Cx) (C : Ck) : Prop where
  N : X.N = C.N
  sc : X.env.scope = C.sc
  fn : X.fn = C.fn
theorem CxIs.blk {X : Cx} {C : Ck} (h : CxIs X C) {s : Shared} {H : Hp} {scope : Scope} {cl : List (Str × Addr)} {c : Addr} {fp : List Addr} : CxIs (X.blk s H scope (compEnvC scope cl c X.env) fp) (C.blk scope) :=
  ⟨h.N, by show relS scope X.env.scope = relS scope C.sc; rw [h.sc], rfl⟩
def okNm (x : Str) : Bool := !(x == ("__debug__" : Str)) && !(x == ("__classdict__" : Str))
theorem okNm_ok {x : Str} (h : okNm x = true) : (x == ("__debug__" : Str)) = false ∧ (x == ("__classdict__" : Str)) = false := by
  have h := Bool.and_eq_true_iff.mp h
  exact ⟨by simpa using h.1, by simpa using h.2⟩
def Ck.vis (C : Ck) (x : Str) : Bool := match C.sc.names.lookup x with
  | some .local => true
  | some .cell => true
  | some .free => true
  | _ => false
def Ck.gl (C : Ck) (x : Str) : Bool := match C.sc.names.lookup x with
  | some .globalImplicit => true
  | _ => false
def Ck.loc (C : Ck) (x : Str) : Bool := match C.sc.names.lookup x with
  | some .local => true
  | some .cell => C.fn x
  | _ => false
def Ck.isLoc (C : Ck) (x : Str) : Bool := match C.sc.names.lookup x with
  | some .local => true
  | _ => false
def Ck.nm (C : Ck) (i : Nat) (z : Str) : Bool := decide (C.N[i]? = some z) && C.loc z
def Ck.tgs (C : Ck) : List Nat → List Expr → Bool
  | [], [] => true
  | i :: is, .Name z _ :: es => C.nm i z && C.tgs is es
  | _, _ => false
def Ck.tg (C : Ck) : IT → Expr → Bool
  | .nm i, .Name z _ => C.nm i z
  | .tp is, .Tuple es _ _ => C.tgs is es
  | _, _ => false
section
variable {X : Cx} {C : Ck} {x z : Str} {i : Nat}
theorem CxIs.vis (h : CxIs X C) (k : C.vis x = true) : Vis X.env.scope x := by
  rw [h.sc]
  unfold Ck.vis at k
  unfold Vis
  split at k
  · rename_i e; exact .inl e
  · rename_i e; exact .inr (.inl e)
  · rename_i e; exact .inr (.inr e)
  · cases k
theorem CxIs.gl (h : CxIs X C) (k : C.gl x = true) : Gl X x := by
  unfold Ck.gl at k
  show X.env.scope.names.lookup x = _
  rw [h.sc]
  split at k
  · assumption
  · cases k
theorem CxIs.isLoc (h : CxIs X C) (k : C.isLoc x = true) : X.env.scope.names.lookup x = some .local := by
  unfold Ck.isLoc at k
  rw [h.sc]
  split at k
  · assumption
  · cases k
theorem CxIs.nm (h : CxIs X C) (k : C.nm i z = true) : NmOk X i z := by
  obtain ⟨k1, k2⟩ := Bool.and_eq_true_iff.mp k
  unfold Ck.loc at k2
  refine ⟨by rw [h.N]; exact of_decide_eq_true k1, ?_, ?_⟩
  · unfold L2.Loc
    rw [h.sc]
    split at k2
    · rename_i e; exact .inl e
    · rename_i e; exact .inr e
    · cases k2
  · rw [h.sc, h.fn]
    split at k2
    · rename_i e; exact .inr e
    · exact .inl k2
    · cases k2
theorem CxIs.tgs (h : CxIs X C) : ∀ {is : List Nat} {es : List Expr}, C.tgs is es = true → NmsOk X is es
  | [], [], _ => .nil
  | i :: is, .Name z p :: es, k => by
    obtain ⟨k1, k2⟩ := Bool.and_eq_true_iff.mp (show (C.nm i z && C.tgs is es) = true from k)
    exact .cons (h.nm k1) (h.tgs k2)
  | [], _ :: _, k => by cases k
  | _ :: _, [], k => by cases k
  | i :: is, e :: es, k => by
    unfold Ck.tgs at k
    split at k
    · rename_i e1 e2; cases e1
    · rename_i a1 a2 a3 a4 e1 e2
      cases e1
      cases e2
      obtain ⟨k1, k2⟩ := Bool.and_eq_true_iff.mp k
      exact .cons (h.nm k1) (h.tgs k2)
    · cases k
theorem CxIs.tg (h : CxIs X C) {t : IT} {e : Expr} (k : C.tg t e = true) : TgOk X t e := by
  unfold Ck.tg at k
  split at k
  · exact .nm (h.nm k)
  · exact .tp (h.tgs k)
  · cases k
end
/-- the row of globals by name -/
def glook : List (List Nat × GV) → Str → Option GV
  | [], _ => none
  | (y, g) :: r, x => bif decide (x = SS y) then some g else glook r x
theorem glook_ok : ∀ {l : List (List Nat × GV)} {x : Str} {g : GV}, glook l x = some g → ∃ (j : Nat) (y : List Nat), l[j]? = some (y, g) ∧ x = SS y
  | [], _, _, h => by cases h
  | (y, g') :: r, x, g, h => by
    unfold glook at h
    by_cases e : x = SS y
    · rw [decide_eq_true e] at h
      cases h
      exact ⟨0, y, rfl, e⟩
    · rw [decide_eq_false e] at h
      obtain ⟨j, y', h1, h2⟩ := glook_ok h
      exact ⟨j + 1, y', h1, h2⟩
/-- the checkers of the parts -/
structure Chk where
  E : Ck → IE → Expr → Bool
  T : Ck → IE → Expr → Bool
  S : Ck → ST → Stmt → Bool
structure Snd (TT : Tab) (cl : Call) (ch : Chk) (ev : Ev) : Prop where
  E : ∀ (X : Cx) (C : Ck) (W : WX) (lv : Nat), CxIs X C → Fx X TT W lv cl → ∀ ie e, ch.E C ie e = true → PE X e (tE X.K X.w TT W (ev.E ie))
  T : ∀ (X : Cx) (C : Ck) (W : WX) (lv : Nat), CxIs X C → Fx X TT W lv cl → ∀ ie e, ch.T C ie e = true → PT X e (tT X.K X.w TT W (ev.T ie))
  S : ∀ (X : Cx) (C : Ck) (W : WX) (lv : Nat), CxIs X C → Fx X TT W lv cl → Flat W → PassesOwn (model X.prog X.w) X.A X.env X.xe → ∀ st s, ch.S C st s = true → PS X s (tS X.K X.w TT W X.N.length (ev.S st))
theorem Fx.blk {X : Cx} {T : Tab} {W : WX} {lv : Nat} {cl : Call} (F : Fx X T W lv cl) {s : Shared} {H : Hp} {scope : Scope} {cenv : PySem.Env} {fp : List Addr} : Fx (X.blk s H scope cenv fp) T W0 lv cl :=
  ⟨F.nd, F.calm, F.room, fun u s' h => by
    unfold XE at h
    obtain ⟨_, _, _, _, _, _, _, _, _, _, _, _, _, _, _, _, z⟩ := h
    exact z, F.fn, F.tb⟩
def notStar : Expr → Bool
  | .Starred _ _ => false
  | _ => true
theorem star_one {e : Expr} {es : List Expr} {env : PySem.Env} (h : notStar e = true) : starEach (e :: es) env = (false, eval e env) :: starEach es env := by
  cases e <;> first | rfl | cases h
def notSet : Expr → Bool
  | .Set _ _ _ => false
  | _ => true
theorem notSet_ok {e : Expr} {env : PySem.Env} {x : Value} (h : notSet e = true) : foldedSetIterable e env x = pure x := by
  cases e <;> first | rfl | cases h
section
variable {X : Cx} {T : Tab} {W : WX} {lv : Nat} {cl : Call} {C : Ck} {ch : Chk} {ev : Ev}
/-- rows of parts -/
def ckL (f : IE → Expr → Bool) : List IE → List Expr → Bool
  | [], [] => true
  | i :: is, e :: es => f i e && ckL f is es
  | _, _ => false
def ckA (f : IE → Expr → Bool) : List IA → List Expr → Bool
  | [], [] => true
  | .one i :: is, e :: es => notStar e && (f i e && ckA f is es)
  | .star i :: is, .Starred e _ :: es => f i e && ckA f is es
  | _, _ => false
theorem snd_L {f : IE → Expr → Bool} {E : IE → Env → M → R D} (h : ∀ ie e, f ie e = true → PE X e (tE X.K X.w T W (E ie))) : ∀ {is : List IE} {es : List Expr}, ckL f is es = true → plainArgs es = true → PA X es (tA X.K X.w T W (evL E is))
  | [], [], _, _ => a_nil
  | i :: is, e :: es, k, p => by
    obtain ⟨k1, k2⟩ := Bool.and_eq_true_iff.mp (show (f i e && ckL f is es) = true from k)
    obtain ⟨p1, p2⟩ := star_cons (env := X.env) p
    exact a_cons (h i e k1) (snd_L h k2 p2) p1
  | [], _ :: _, k, _ => by cases k
  | _ :: _, [], k, _ => by cases k
theorem snd_A {f : IE → Expr → Bool} {E : IE → Env → M → R D} (h : ∀ ie e, f ie e = true → PE X e (tE X.K X.w T W (E ie))) : ∀ {is : List IA} {es : List Expr}, ckA f is es = true → PA X es (tA X.K X.w T W (evA E is))
  | [], [], _ => a_nil
  | .one i :: is, e :: es, k => by
    have k : (notStar e && (f i e && ckA f is es)) = true := by
      unfold ckA at k
      exact k
    obtain ⟨k0, k⟩ := Bool.and_eq_true_iff.mp k
    obtain ⟨k1, k2⟩ := Bool.and_eq_true_iff.mp k
    exact a_cons (h i e k1) (snd_A h k2) (star_one k0)
  | .star i :: is, e :: es, k => by
    unfold ckA at k
    split at k
    · rename_i e1 e2; cases e1
    · rename_i e1 e2; cases e1
    · rename_i e1 e2
      cases e1
      cases e2
      obtain ⟨k1, k2⟩ := Bool.and_eq_true_iff.mp k
      exact a_star (h i _ k1) (snd_A h k2)
    · cases k
  | [], _ :: _, k => by cases k
  | .one _ :: _, [], k => by cases k
  | .star _ :: _, [], k => by cases k
theorem ckL_len {f : IE → Expr → Bool} : ∀ {is : List IE} {es : List Expr}, ckL f is es = true → is.length = es.length
  | [], [], _ => rfl
  | i :: is, e :: es, k => by
    have := ckL_len (Bool.and_eq_true_iff.mp (show (f i e && ckL f is es) = true from k)).2
    simp [this]
  | [], _ :: _, k => by cases k
  | _ :: _, [], k => by cases k
/-- sources of loops -/
def isTup : Expr → Bool
  | .Tuple _ _ _ => true
  | _ => false
def Ck.fname (C : Ck) (n : Str) (m : Str) : Bool := decide (n = m) && C.gl n
def ckI (C : Ck) (f : IE → Expr → Bool) : IS → Expr → Expr → Bool
  | .val e, _, it => f e it
  | .enum a, tg, .Call (.Name n _) [x] [] _ => isTup tg && (C.fname n "enumerate" && (f a x && plainArgs [x]))
  | .zip a b, tg, .Call (.Name n _) [x, y] [] _ => isTup tg && (C.fname n "zip" && (f a x && (f b y && plainArgs [x, y])))
  | .range [a], _, .Call (.Name n _) [x] [] _ => C.fname n "range" && (f a x && plainArgs [x])
  | _, _, _ => false
theorem src_enum {E : IE → Env → M → R D} {a : IE} : srcF E (.enum a) = fun ρ m => (E a ρ m).bind fun d m => match walkOf m d with
    | some xs => .ok ⟨enumD 0 xs, held m d⟩ m
    | none => .bad := by
  funext ρ m
  show ((E a ρ m).bind _) = ((E a ρ m).bind _)
  congr 1
  funext d m
  cases walkOf m d <;> rfl
theorem src_range {E : IE → Env → M → R D} {a : IE} : srcF E (.range [a]) = fun ρ m => (E a ρ m).bind fun d m => match d with
    | .int i => bif decide (-10000 ≤ i) && decide (i ≤ 10000) then .ok ⟨rangeL 0 i, fun _ => true⟩ m else .bad
    | _ => .bad := by
  funext ρ m
  show ((evL E [a] ρ m).bind _) = ((E a ρ m).bind _)
  unfold evL evL
  cases E a ρ m with
  | ok d m1 => cases d <;> rfl
  | exc c d m1 => rfl
  | bad => rfl
theorem snd_I {f : IE → Expr → Bool} {E : IE → Env → M → R D} (hC : CxIs X C) (F : Fx X T W lv cl) (h : ∀ ie e, f ie e = true → PE X e (tE X.K X.w T W (E ie))) {s : IS} {tg it : Expr} (k : ckI C f s tg it = true) : PI X tg it (tI X.K X.w T W (srcF E s)) := by
  unfold ckI at k
  split at k
  · exact i_val (h _ _ k)
  · obtain ⟨k0, k⟩ := Bool.and_eq_true_iff.mp k
    obtain ⟨k1, k⟩ := Bool.and_eq_true_iff.mp k
    obtain ⟨k2, k3⟩ := Bool.and_eq_true_iff.mp k
    obtain ⟨n1, n2⟩ := Bool.and_eq_true_iff.mp k1
    unfold isTup at k0
    split at k0
    · rw [src_enum]
      exact i_enum F (of_decide_eq_true n1) (hC.gl n2) (h _ _ k2) k3
    · cases k0
  · obtain ⟨k0, k⟩ := Bool.and_eq_true_iff.mp k
    obtain ⟨k1, k⟩ := Bool.and_eq_true_iff.mp k
    obtain ⟨k2, k⟩ := Bool.and_eq_true_iff.mp k
    obtain ⟨k3, k4⟩ := Bool.and_eq_true_iff.mp k
    obtain ⟨n1, n2⟩ := Bool.and_eq_true_iff.mp k1
    unfold isTup at k0
    split at k0
    · exact i_zip F (of_decide_eq_true n1) (hC.gl n2) (h _ _ k2) (h _ _ k3) k4
    · cases k0
  · obtain ⟨k1, k⟩ := Bool.and_eq_true_iff.mp k
    obtain ⟨k2, k3⟩ := Bool.and_eq_true_iff.mp k
    obtain ⟨n1, n2⟩ := Bool.and_eq_true_iff.mp k1
    rw [src_range]
    exact i_range1 F (of_decide_eq_true n1) (hC.gl n2) (h _ _ k2) k3
  · cases k
end
end Pd

set_option maxHeartbeats 4000000
/-! Pd25: the checker of expressions. -/
namespace Pd
open PySem PySem.Spec PyProof.Rows L2
section
variable {X : Cx} {T : Tab} {W : WX} {lv : Nat} {cl : Call} {C : Ck} {ch : Chk} {ev : Ev} {e : Expr}
def ckVar (C : Ck) (i : Nat) : Expr → Bool
  | .Name x _ => decide (C.N[i]? = some x) && (C.vis x && okNm x)
  | _ => false
theorem snd_var {i : Nat} (hC : CxIs X C) (k : ckVar C i e = true) : PE X e (tE X.K X.w T W (stepE T cl ev (.var i))) := by
  unfold ckVar at k
  split at k
  · obtain ⟨k1, k⟩ := Bool.and_eq_true_iff.mp k
    obtain ⟨k2, k3⟩ := Bool.and_eq_true_iff.mp k
    obtain ⟨n1, n2⟩ := okNm_ok k3
    exact c_var (by rw [hC.N]; exact of_decide_eq_true k1) (hC.vis k2) n1 n2
  · cases k
def ckK : D → Expr → Bool
  | .non, .Constant .none _ _ => true
  | .bl b, .Constant (.bool c) _ _ => decide (b = c)
  | .int i, .Constant (.int j) _ _ => decide (i = j)
  | .str s, .Constant (.str x) _ _ => decide (x = SS s)
  | _, _ => false
theorem snd_k {d : D} (k : ckK d e = true) : PE X e (tE X.K X.w T W (stepE T cl ev (.k d))) := by
  unfold ckK at k
  split at k
  · exact c_non
  · cases of_decide_eq_true k
    exact c_bl
  · cases of_decide_eq_true k
    exact c_int
  · cases of_decide_eq_true k
    exact c_str
  · cases k
def ckG (T : Tab) (C : Ck) (i : Nat) : Expr → Bool
  | .Name x _ => C.gl x && (okNm x && match T.globs[i]? with
    | some (y, _) => decide (x = SS y)
    | none => false)
  | _ => false
theorem snd_g {i : Nat} (hC : CxIs X C) (F : Fx X T W lv cl) (k : ckG T C i e = true) : PE X e (tE X.K X.w T W (stepE T cl ev (.g i))) := by
  unfold ckG at k
  split at k
  · obtain ⟨k1, k⟩ := Bool.and_eq_true_iff.mp k
    obtain ⟨k2, k3⟩ := Bool.and_eq_true_iff.mp k
    split at k3
    · rename_i y g eg
      exact c_glob F (hC.gl k1) (of_decide_eq_true k3) eg (okNm_ok k2).1
    · cases k3
  · cases k
def ckAttr (T : Tab) (f : IE → Expr → Bool) (e : IE) (a : Nat) : Expr → Bool
  | .Attribute o n _ => f e o && (plainBase o && decide (n = attrS T a))
  | _ => false
theorem snd_attr {f : IE → Expr → Bool} (h : ∀ ie e, f ie e = true → PE X e (tE X.K X.w T W (ev.E ie))) (F : Fx X T W lv cl) {i : IE} {a : Nat} (k : ckAttr T f i a e = true) : PE X e (tE X.K X.w T W (stepE T cl ev (.attr i a))) := by
  unfold ckAttr at k
  split at k
  · obtain ⟨k1, k⟩ := Bool.and_eq_true_iff.mp k
    obtain ⟨k2, k3⟩ := Bool.and_eq_true_iff.mp k
    exact c_attr F (of_decide_eq_true k3) (h _ _ k1) (base_ok k2)
  · cases k
def ckBin (f : IE → Expr → Bool) (op : BO) (a b : IE) : Expr → Bool
  | .BinOp l o r _ => decide (o = op.py) && (f a l && f b r)
  | _ => false
theorem snd_bin {f : IE → Expr → Bool} (h : ∀ ie e, f ie e = true → PE X e (tE X.K X.w T W (ev.E ie))) (F : Fx X T W lv cl) {op : BO} {a b : IE} (k : ckBin f op a b e = true) : PE X e (tE X.K X.w T W (stepE T cl ev (.bin op a b))) := by
  unfold ckBin at k
  split at k
  · obtain ⟨k1, k⟩ := Bool.and_eq_true_iff.mp k
    obtain ⟨k2, k3⟩ := Bool.and_eq_true_iff.mp k
    cases of_decide_eq_true k1
    exact c_bin F op (h _ _ k2) (h _ _ k3)
  · cases k
def ckCmp (f : IE → Expr → Bool) (op : CO) (a b : IE) : Expr → Bool
  | .Compare l [o] [r] _ => decide (o = op.py) && (f a l && (f b r && !behindInMarks o r))
  | _ => false
theorem snd_cmp {f : IE → Expr → Bool} (h : ∀ ie e, f ie e = true → PE X e (tE X.K X.w T W (ev.E ie))) (F : Fx X T W lv cl) {op : CO} {a b : IE} (k : ckCmp f op a b e = true) :
    PE X e (tE X.K X.w T W (stepE T cl ev (.cmp op a b))) ∧ PT X e (tT X.K X.w T W (stepT T cl ev (.cmp op a b))) := by
  unfold ckCmp at k
  split at k
  · obtain ⟨k1, k⟩ := Bool.and_eq_true_iff.mp k
    obtain ⟨k2, k⟩ := Bool.and_eq_true_iff.mp k
    obtain ⟨k3, k4⟩ := Bool.and_eq_true_iff.mp k
    cases of_decide_eq_true k1
    exact ⟨c_cmp F op (h _ _ k2) (h _ _ k3) (by simpa using k4), t_cmp F op (h _ _ k2) (h _ _ k3) (by simpa using k4)⟩
  · cases k
def ckCmp2 (f : IE → Expr → Bool) (o1 o2 : CO) (a b c : IE) : Expr → Bool
  | .Compare l [p, q] [r, s] _ => decide (p = o1.py) && (decide (q = o2.py) && (f a l && (f b r && (f c s && !lastMarks [p, q] [r, s]))))
  | _ => false
theorem snd_cmp2 {f : IE → Expr → Bool} (h : ∀ ie e, f ie e = true → PE X e (tE X.K X.w T W (ev.E ie))) (F : Fx X T W lv cl) {o1 o2 : CO} {a b c : IE} (k : ckCmp2 f o1 o2 a b c e = true) :
    PE X e (tE X.K X.w T W (stepE T cl ev (.cmp2 o1 o2 a b c))) ∧ PT X e (tT X.K X.w T W (stepT T cl ev (.cmp2 o1 o2 a b c))) := by
  unfold ckCmp2 at k
  split at k
  · obtain ⟨k1, k⟩ := Bool.and_eq_true_iff.mp k
    obtain ⟨k2, k⟩ := Bool.and_eq_true_iff.mp k
    obtain ⟨k3, k⟩ := Bool.and_eq_true_iff.mp k
    obtain ⟨k4, k⟩ := Bool.and_eq_true_iff.mp k
    obtain ⟨k5, k6⟩ := Bool.and_eq_true_iff.mp k
    cases of_decide_eq_true k1
    cases of_decide_eq_true k2
    exact ⟨c_cmp2 F o1 o2 (h _ _ k3) (h _ _ k4) (h _ _ k5) (by simpa using k6), t_cmp2 F o1 o2 (h _ _ k3) (h _ _ k4) (h _ _ k5) (by simpa using k6)⟩
  · cases k
/-- and, or: the rest of the row -/
def ckBo (f : IE → Expr → Bool) (op : BoolOp) (a b : IE) : Expr → Bool
  | .BoolOp o [x, y] _ => decide (o = op) && (f a x && f b y)
  | .BoolOp o (x :: y :: z :: r) p => decide (o = op) && (f a x && f b (.BoolOp op (y :: z :: r) p))
  | _ => false
theorem snd_and {f : IE → Expr → Bool} (h : ∀ ie e, f ie e = true → PE X e (tE X.K X.w T W (ev.E ie))) {a b : IE} (k : ckBo f .And a b e = true) : PE X e (tE X.K X.w T W (stepE T cl ev (.and a b))) := by
  unfold ckBo at k
  split at k
  · obtain ⟨k1, k⟩ := Bool.and_eq_true_iff.mp k
    obtain ⟨k2, k3⟩ := Bool.and_eq_true_iff.mp k
    cases of_decide_eq_true k1
    exact c_and (h _ _ k2) (pe_one (h _ _ k3))
  · obtain ⟨k1, k⟩ := Bool.and_eq_true_iff.mp k
    obtain ⟨k2, k3⟩ := Bool.and_eq_true_iff.mp k
    cases of_decide_eq_true k1
    exact c_and (h _ _ k2) (h _ _ k3)
  · cases k
theorem snd_or {f : IE → Expr → Bool} (h : ∀ ie e, f ie e = true → PE X e (tE X.K X.w T W (ev.E ie))) {a b : IE} (k : ckBo f .Or a b e = true) : PE X e (tE X.K X.w T W (stepE T cl ev (.or a b))) := by
  unfold ckBo at k
  split at k
  · obtain ⟨k1, k⟩ := Bool.and_eq_true_iff.mp k
    obtain ⟨k2, k3⟩ := Bool.and_eq_true_iff.mp k
    cases of_decide_eq_true k1
    exact c_or (h _ _ k2) (pe_one (h _ _ k3))
  · obtain ⟨k1, k⟩ := Bool.and_eq_true_iff.mp k
    obtain ⟨k2, k3⟩ := Bool.and_eq_true_iff.mp k
    cases of_decide_eq_true k1
    exact c_or (h _ _ k2) (h _ _ k3)
  · cases k
theorem pw_of {op : BoolOp} {es : List Expr} {p : Pos} {t : TT} (h : PT X (.BoolOp op es p) t) : PW X (.BoolOp op es p) t :=
  ⟨fun whole pins s σ H Q I q => h.run pins s σ H Q I q⟩
theorem snd_andT {f : IE → Expr → Bool} (h : ∀ ie e, f ie e = true → PT X e (tT X.K X.w T W (ev.T ie))) {a b : IE} (k : ckBo f .And a b e = true) : PT X e (tT X.K X.w T W (stepT T cl ev (.and a b))) := by
  unfold ckBo at k
  split at k
  · obtain ⟨k1, k⟩ := Bool.and_eq_true_iff.mp k
    obtain ⟨k2, k3⟩ := Bool.and_eq_true_iff.mp k
    cases of_decide_eq_true k1
    exact (t_and (h _ _ k2) (pw_and1 (h _ _ k3))).pt
  · obtain ⟨k1, k⟩ := Bool.and_eq_true_iff.mp k
    obtain ⟨k2, k3⟩ := Bool.and_eq_true_iff.mp k
    cases of_decide_eq_true k1
    exact (t_and (h _ _ k2) (pw_of (h _ _ k3))).pt
  · cases k
theorem snd_orT {f : IE → Expr → Bool} (h : ∀ ie e, f ie e = true → PT X e (tT X.K X.w T W (ev.T ie))) {a b : IE} (k : ckBo f .Or a b e = true) : PT X e (tT X.K X.w T W (stepT T cl ev (.or a b))) := by
  unfold ckBo at k
  split at k
  · obtain ⟨k1, k⟩ := Bool.and_eq_true_iff.mp k
    obtain ⟨k2, k3⟩ := Bool.and_eq_true_iff.mp k
    cases of_decide_eq_true k1
    exact (t_or (h _ _ k2) (pw_or1 (h _ _ k3))).pt
  · obtain ⟨k1, k⟩ := Bool.and_eq_true_iff.mp k
    obtain ⟨k2, k3⟩ := Bool.and_eq_true_iff.mp k
    cases of_decide_eq_true k1
    exact (t_or (h _ _ k2) (pw_of (h _ _ k3))).pt
  · cases k
def ckUn (f : IE → Expr → Bool) (op : UnaryOp) (a : IE) : Expr → Bool
  | .UnaryOp o x _ => decide (o = op) && f a x
  | _ => false
theorem snd_not {f : IE → Expr → Bool} (h : ∀ ie e, f ie e = true → PE X e (tE X.K X.w T W (ev.E ie))) {a : IE} (k : ckUn f .Not a e = true) : PE X e (tE X.K X.w T W (stepE T cl ev (.not a))) := by
  unfold ckUn at k
  split at k
  · obtain ⟨k1, k2⟩ := Bool.and_eq_true_iff.mp k
    cases of_decide_eq_true k1
    exact c_not (h _ _ k2)
  · cases k
theorem snd_notT {f : IE → Expr → Bool} (h : ∀ ie e, f ie e = true → PT X e (tT X.K X.w T W (ev.T ie))) {a : IE} (k : ckUn f .Not a e = true) : PT X e (tT X.K X.w T W (stepT T cl ev (.not a))) := by
  unfold ckUn at k
  split at k
  · obtain ⟨k1, k2⟩ := Bool.and_eq_true_iff.mp k
    cases of_decide_eq_true k1
    exact t_not (h _ _ k2)
  · cases k
theorem snd_neg {f : IE → Expr → Bool} (h : ∀ ie e, f ie e = true → PE X e (tE X.K X.w T W (ev.E ie))) (F : Fx X T W lv cl) {a : IE} (k : ckUn f .USub a e = true) : PE X e (tE X.K X.w T W (stepE T cl ev (.neg a))) := by
  unfold ckUn at k
  split at k
  · obtain ⟨k1, k2⟩ := Bool.and_eq_true_iff.mp k
    cases of_decide_eq_true k1
    exact c_neg F (h _ _ k2)
  · cases k
theorem snd_inv {f : IE → Expr → Bool} (h : ∀ ie e, f ie e = true → PE X e (tE X.K X.w T W (ev.E ie))) (F : Fx X T W lv cl) {a : IE} (k : ckUn f .Invert a e = true) : PE X e (tE X.K X.w T W (stepE T cl ev (.inv a))) := by
  unfold ckUn at k
  split at k
  · obtain ⟨k1, k2⟩ := Bool.and_eq_true_iff.mp k
    cases of_decide_eq_true k1
    exact c_inv F (h _ _ k2)
  · cases k
def ckIte (f g : IE → Expr → Bool) (c a b : IE) : Expr → Bool
  | .IfExp x y z _ => g c x && (f a y && f b z)
  | _ => false
theorem snd_ite {f g : IE → Expr → Bool} (h : ∀ ie e, f ie e = true → PE X e (tE X.K X.w T W (ev.E ie))) (h2 : ∀ ie e, g ie e = true → PT X e (tT X.K X.w T W (ev.T ie))) {c a b : IE} (k : ckIte f g c a b e = true) : PE X e (tE X.K X.w T W (stepE T cl ev (.ite c a b))) := by
  unfold ckIte at k
  split at k
  · obtain ⟨k1, k⟩ := Bool.and_eq_true_iff.mp k
    obtain ⟨k2, k3⟩ := Bool.and_eq_true_iff.mp k
    exact c_ite (h2 _ _ k1) (h _ _ k2) (h _ _ k3)
  · cases k
def ckTup (f : IE → Expr → Bool) (es : List IA) : Expr → Bool
  | .Tuple xs _ _ => ckA f es xs
  | _ => false
theorem snd_tup {f : IE → Expr → Bool} (h : ∀ ie e, f ie e = true → PE X e (tE X.K X.w T W (ev.E ie))) {es : List IA} (k : ckTup f es e = true) : PE X e (tE X.K X.w T W (stepE T cl ev (.tup es))) := by
  unfold ckTup at k
  split at k
  · exact c_tup (snd_A h k)
  · cases k
def ckLst (f : IE → Expr → Bool) (es : List IA) : Expr → Bool
  | .List xs _ => ckA f es xs
  | _ => false
theorem snd_lst {f : IE → Expr → Bool} (h : ∀ ie e, f ie e = true → PE X e (tE X.K X.w T W (ev.E ie))) {es : List IA} {keep : Bool} (k : ckLst f es e = true) : PE X e (tE X.K X.w T W (stepE T cl ev (.lst keep es))) := by
  unfold ckLst at k
  split at k
  · exact c_lst (snd_A h k)
  · cases k
def ckIdx (f : IE → Expr → Bool) (a b : IE) : Expr → Bool
  | .Subscript x y _ => f a x && (f b y && plainIx y)
  | _ => false
theorem snd_idx {f : IE → Expr → Bool} (h : ∀ ie e, f ie e = true → PE X e (tE X.K X.w T W (ev.E ie))) (F : Fx X T W lv cl) {a b : IE} (k : ckIdx f a b e = true) : PE X e (tE X.K X.w T W (stepE T cl ev (.idx a b))) := by
  unfold ckIdx at k
  split at k
  · obtain ⟨k1, k⟩ := Bool.and_eq_true_iff.mp k
    obtain ⟨k2, k3⟩ := Bool.and_eq_true_iff.mp k
    exact c_idx F (h _ _ k1) (h _ _ k2) k3
  · cases k
def ckO (f : IE → Expr → Bool) : Option IE → Option Expr → Bool
  | none, none => true
  | some i, some e => f i e
  | _, _ => false
theorem snd_O {f : IE → Expr → Bool} (h : ∀ ie e, f ie e = true → PE X e (tE X.K X.w T W (ev.E ie))) : ∀ {o : Option IE} {e : Option Expr}, ckO f o e = true → PO X e (tO X.K X.w T W (evO ev.E o))
  | none, none, _ => o_none
  | some i, some e, k => o_some (h i e k)
  | none, some _, k => by cases k
  | some _, none, k => by cases k
def ckSl (f : IE → Expr → Bool) (a : IE) (lo hi : Option IE) : Expr → Bool
  | .Subscript x (.Slice l h none _) _ => f a x && (ckO f lo l && ckO f hi h)
  | _ => false
theorem snd_sl {f : IE → Expr → Bool} (h : ∀ ie e, f ie e = true → PE X e (tE X.K X.w T W (ev.E ie))) {a : IE} {lo hi : Option IE} (k : ckSl f a lo hi e = true) : PE X e (tE X.K X.w T W (stepE T cl ev (.sl a lo hi))) := by
  unfold ckSl at k
  split at k
  · obtain ⟨k1, k⟩ := Bool.and_eq_true_iff.mp k
    obtain ⟨k2, k3⟩ := Bool.and_eq_true_iff.mp k
    exact c_sl (h _ _ k1) (snd_O h k2) (snd_O h k3)
  · cases k
def ckStp (f : IE → Expr → Bool) (a : IE) (lo : Option IE) (b : IE) : Expr → Bool
  | .Subscript x (.Slice l none (some z) _) _ => f a x && (ckO f lo l && f b z)
  | _ => false
theorem snd_stp {f : IE → Expr → Bool} (h : ∀ ie e, f ie e = true → PE X e (tE X.K X.w T W (ev.E ie))) {a b : IE} {lo : Option IE} (k : ckStp f a lo b e = true) : PE X e (tE X.K X.w T W (stepE T cl ev (.stp a lo b))) := by
  unfold ckStp at k
  split at k
  · obtain ⟨k1, k⟩ := Bool.and_eq_true_iff.mp k
    obtain ⟨k2, k3⟩ := Bool.and_eq_true_iff.mp k
    exact c_stp (h _ _ k1) (snd_O h k2) (h _ _ k3)
  · cases k
end
end Pd

set_option maxHeartbeats 4000000
/-! Pd26: the checker of calls, f-strings, comprehensions. -/
namespace Pd
open PySem PySem.Spec PyProof.Rows L2
section
variable {X : Cx} {T : Tab} {W : WX} {lv : Nat} {cl : Call} {C : Ck} {ch : Chk} {ev : Ev} {e : Expr}
def isFnG (g : Option GV) (i : Nat) : Bool := match g with
  | some (.fn j) => decide (j = i)
  | _ => false
def isClsG (g : Option GV) (i : Nat) : Bool := match g with
  | some (.cls j) => decide (j = i)
  | _ => false
theorem isFnG_ok {g : Option GV} {i : Nat} (h : isFnG g i = true) : g = some (.fn i) := by
  unfold isFnG at h
  split at h
  · rw [of_decide_eq_true h]
  · cases h
theorem isClsG_ok {g : Option GV} {i : Nat} (h : isClsG g i = true) : g = some (.cls i) := by
  unfold isClsG at h
  split at h
  · rw [of_decide_eq_true h]
  · cases h
def ckCall (T : Tab) (C : Ck) (f : IE → Expr → Bool) (i : Nat) (es : List IE) : Expr → Bool
  | .Call (.Name x _) xs [] _ => C.gl x && (okNm x && (Nat.blt i T.fns.length && (ckL f es xs && (plainArgs xs && isFnG (glook T.globs x) i))))
  | _ => false
theorem snd_call {f : IE → Expr → Bool} (hC : CxIs X C) (h : ∀ ie e, f ie e = true → PE X e (tE X.K X.w T W (ev.E ie))) (F : Fx X T W lv cl) {i : Nat} {es : List IE} (k : ckCall T C f i es e = true) : PE X e (tE X.K X.w T W (stepE T cl ev (.call i es))) := by
  unfold ckCall at k
  split at k
  · rename_i x p xs pos
    obtain ⟨k1, k⟩ := Bool.and_eq_true_iff.mp k
    obtain ⟨k2, k⟩ := Bool.and_eq_true_iff.mp k
    obtain ⟨k3, k⟩ := Bool.and_eq_true_iff.mp k
    obtain ⟨k4, k⟩ := Bool.and_eq_true_iff.mp k
    obtain ⟨k5, k6⟩ := Bool.and_eq_true_iff.mp k
    obtain ⟨j, y, hj, hy⟩ := glook_ok (isFnG_ok k6)
    have k3 : i < T.fns.length := Nat.le_of_ble_eq_true k3
    cases xs with
    | nil =>
      cases es with
      | nil => exact c_call0 F (hC.gl k1) hy hj k3 (okNm_ok k2).1
      | cons _ _ => cases k4
    | cons z zs =>
      obtain ⟨s1, s2⟩ := star_cons (env := X.env) k5
      exact c_call F (hC.gl k1) hy hj k3 (snd_L h k4 k5) (okNm_ok k2).1 s1 (star_none s2).1
  · cases k
def kind0 (T : Tab) (c : Nat) : Bool := match T.clss[c]? with
  | some k => Nat.beq k.kind 0
  | none => false
theorem kind0_ok {c : Nat} (h : kind0 T c = true) : ∃ k, T.clss[c]? = some k ∧ k.kind = 0 := by
  unfold kind0 at h
  split at h
  · rename_i k e
    exact ⟨k, e, Nat.eq_of_beq_eq_true h⟩
  · cases h
def ckMake (T : Tab) (C : Ck) (f : IE → Expr → Bool) (i : Nat) (es : List IE) : Expr → Bool
  | .Call (.Name x _) (z :: zs) [] _ => C.gl x && (okNm x && (kind0 T i && (ckL f es (z :: zs) && (plainArgs (z :: zs) && isClsG (glook T.globs x) i))))
  | _ => false
theorem snd_make {f : IE → Expr → Bool} (hC : CxIs X C) (h : ∀ ie e, f ie e = true → PE X e (tE X.K X.w T W (ev.E ie))) (F : Fx X T W lv cl) {i : Nat} {es : List IE} (k : ckMake T C f i es e = true) : PE X e (tE X.K X.w T W (stepE T cl ev (.make i es))) := by
  unfold ckMake at k
  split at k
  · rename_i x p z zs pos
    obtain ⟨k1, k⟩ := Bool.and_eq_true_iff.mp k
    obtain ⟨k2, k⟩ := Bool.and_eq_true_iff.mp k
    obtain ⟨k3, k⟩ := Bool.and_eq_true_iff.mp k
    obtain ⟨k4, k⟩ := Bool.and_eq_true_iff.mp k
    obtain ⟨k5, k6⟩ := Bool.and_eq_true_iff.mp k
    obtain ⟨j, y, hj, hy⟩ := glook_ok (isClsG_ok k6)
    obtain ⟨c, hc, hc0⟩ := kind0_ok k3
    obtain ⟨s1, s2⟩ := star_cons (env := X.env) k5
    exact c_make F (hC.gl k1) hy hj hc hc0 (snd_L h k4 k5) (okNm_ok k2).1 s1 (star_none s2).1
  · cases k
def BI.isLr : BI → Bool
  | .lrange => true
  | _ => false
def ckBi (C : Ck) (f : IE → Expr → Bool) (b : BI) (es : List IE) : Expr → Bool
  | .Call (.Name n _) (z :: zs) [] _ => !b.isLr && (C.fname n b.nm && (ckL f es (z :: zs) && plainArgs (z :: zs)))
  | _ => false
def ckLr (C : Ck) (f : IE → Expr → Bool) (b : BI) (es : List IE) : Expr → Bool
  | .Call (.Name n1 _) [.Call (.Name n2 _) [x] [] _] [] _ => b.isLr && (C.fname n1 "list" && (C.fname n2 "range" && (ckL f es [x] && plainArgs [x])))
  | _ => false
theorem fname_ok {n m : Str} (hC : CxIs X C) (h : C.fname n m = true) : n = m ∧ Gl X n := by
  obtain ⟨h1, h2⟩ := Bool.and_eq_true_iff.mp h
  exact ⟨of_decide_eq_true h1, hC.gl h2⟩
theorem snd_bi {f : IE → Expr → Bool} (hC : CxIs X C) (h : ∀ ie e, f ie e = true → PE X e (tE X.K X.w T W (ev.E ie))) (F : Fx X T W lv cl) {b : BI} {es : List IE} (k : ckBi C f b es e = true) : PE X e (tE X.K X.w T W (stepE T cl ev (.bi b es))) := by
  unfold ckBi at k
  split at k
  · obtain ⟨k1, k⟩ := Bool.and_eq_true_iff.mp k
    obtain ⟨k2, k⟩ := Bool.and_eq_true_iff.mp k
    obtain ⟨k3, k4⟩ := Bool.and_eq_true_iff.mp k
    obtain ⟨n1, n2⟩ := fname_ok hC k2
    obtain ⟨s1, s2⟩ := star_cons (env := X.env) k4
    exact c_bi F b (by rintro rfl; cases k1) n1 n2 (snd_L h k3 k4) s1 (star_none s2).1
  · cases k
theorem snd_lr {f : IE → Expr → Bool} (hC : CxIs X C) (h : ∀ ie e, f ie e = true → PE X e (tE X.K X.w T W (ev.E ie))) (F : Fx X T W lv cl) {b : BI} {es : List IE} (k : ckLr C f b es e = true) : PE X e (tE X.K X.w T W (stepE T cl ev (.bi b es))) := by
  unfold ckLr at k
  split at k
  · obtain ⟨k1, k⟩ := Bool.and_eq_true_iff.mp k
    obtain ⟨k2, k⟩ := Bool.and_eq_true_iff.mp k
    obtain ⟨k3, k⟩ := Bool.and_eq_true_iff.mp k
    obtain ⟨k4, k5⟩ := Bool.and_eq_true_iff.mp k
    obtain ⟨n1, n2⟩ := fname_ok hC k2
    obtain ⟨m1, m2⟩ := fname_ok hC k3
    cases b <;> (try cases k1)
    cases es with
    | nil => cases k4
    | cons a r =>
      cases r with
      | nil =>
        have k4 : f a _ = true := (Bool.and_eq_true_iff.mp k4).1
        exact c_lrange F n1 m1 n2 m2 (h _ _ k4) k5
      | cons b r => cases (Bool.and_eq_true_iff.mp k4).2
  · cases k
def ckBm (f : IE → Expr → Bool) (b : BM) (o : IE) (es : List IE) : Expr → Bool
  | .Call (.Attribute e n apos) (z :: zs) [] pos => decide (n = b.nm) && (f o e && (ckL f es (z :: zs) && (plainBase e && fewArgs (z :: zs) apos pos)))
  | _ => false
theorem snd_bm {f : IE → Expr → Bool} (h : ∀ ie e, f ie e = true → PE X e (tE X.K X.w T W (ev.E ie))) (F : Fx X T W lv cl) {b : BM} {o : IE} {es : List IE} (k : ckBm f b o es e = true) : PE X e (tE X.K X.w T W (stepE T cl ev (.bm b o es))) := by
  unfold ckBm at k
  split at k
  · obtain ⟨k1, k⟩ := Bool.and_eq_true_iff.mp k
    obtain ⟨k2, k⟩ := Bool.and_eq_true_iff.mp k
    obtain ⟨k3, k⟩ := Bool.and_eq_true_iff.mp k
    obtain ⟨k4, k5⟩ := Bool.and_eq_true_iff.mp k
    exact c_bm F b (of_decide_eq_true k1) (h _ _ k2) (snd_L h k3 (Bool.and_eq_true_iff.mp k5).1) k4 k5
  · cases k
def ckMeth (T : Tab) (f : IE → Expr → Bool) (o : IE) (a : Nat) (es : List IE) : Expr → Bool
  | .Call (.Attribute e n apos) zs [] pos => decide (n = attrS T a) && (f o e && (ckL f es zs && (plainBase e && fewArgs zs apos pos)))
  | _ => false
theorem snd_meth {f : IE → Expr → Bool} (h : ∀ ie e, f ie e = true → PE X e (tE X.K X.w T W (ev.E ie))) (F : Fx X T W lv cl) {a : Nat} {o : IE} {es : List IE} (k : ckMeth T f o a es e = true) : PE X e (tE X.K X.w T W (stepE T cl ev (.meth o a es))) := by
  unfold ckMeth at k
  split at k
  · rename_i e n apos zs pos
    obtain ⟨k1, k⟩ := Bool.and_eq_true_iff.mp k
    obtain ⟨k2, k⟩ := Bool.and_eq_true_iff.mp k
    obtain ⟨k3, k⟩ := Bool.and_eq_true_iff.mp k
    obtain ⟨k4, k5⟩ := Bool.and_eq_true_iff.mp k
    cases zs with
    | nil =>
      cases es with
      | nil => exact c_meth0 F (of_decide_eq_true k1) (h _ _ k2) k4 k5
      | cons _ _ => cases k3
    | cons z zs => exact c_meth F (of_decide_eq_true k1) (h _ _ k2) (snd_L h k3 (Bool.and_eq_true_iff.mp k5).1) k4 k5
  · cases k
def ckTy (T : Tab) (C : Ck) (t : ITy) : Expr → Bool
  | .Name z _ => C.gl z && (okNm z && match t with
    | .int => decide (z = "int")
    | .bool => decide (z = "bool")
    | .str => decide (z = "str")
    | .tuple => decide (z = "tuple")
    | .cls c => isClsG (glook T.globs z) c)
  | _ => false
def tyNames : List Str := ["int", "bool", "str", "tuple"]
theorem snd_ty {t : ITy} (hC : CxIs X C) (F : Fx X T W lv cl) (hf : ∀ x ∈ tyNames, X.mg x = none) (k : ckTy T C t e = true) : PE X e (tC (t.vv X.K T)) := by
  unfold ckTy at k
  split at k
  · obtain ⟨k1, k⟩ := Bool.and_eq_true_iff.mp k
    obtain ⟨k2, k3⟩ := Bool.and_eq_true_iff.mp k
    have hg := hC.gl k1
    split at k3
    · cases of_decide_eq_true k3
      exact pe_bltn hg (hf _ (by decide)) (by decide +kernel) (show RelV (.ty "int") (.type "int") from rfl) (by decide) (by decide)
    · cases of_decide_eq_true k3
      exact pe_bltn hg (hf _ (by decide)) (by decide +kernel) (show RelV (.ty "bool") (.type "bool") from rfl) (by decide) (by decide)
    · cases of_decide_eq_true k3
      exact pe_bltn hg (hf _ (by decide)) (by decide +kernel) (show RelV (.ty "str") (.type "str") from rfl) (by decide) (by decide)
    · cases of_decide_eq_true k3
      exact pe_bltn hg (hf _ (by decide)) (by decide +kernel) (show RelV (.ty "tuple") (.type "tuple") from rfl) (by decide) (by decide)
    · obtain ⟨j, y, hj, hy⟩ := glook_ok (isClsG_ok k3)
      exact pe_glob hg (by rw [hy]; exact F.tb.gk j y _ hj) rfl (okNm_ok k2).1
  · cases k
def ckIsi (T : Tab) (C : Ck) (f : IE → Expr → Bool) (o : IE) (t : ITy) : Expr → Bool
  | .Call (.Name n _) [x, y] [] _ => C.fname n "isinstance" && (f o x && (t.ok T && (plainArgs [x, y] && ckTy T C t y)))
  | _ => false
theorem snd_isi {f : IE → Expr → Bool} (hC : CxIs X C) (h : ∀ ie e, f ie e = true → PE X e (tE X.K X.w T W (ev.E ie))) (F : Fx X T W lv cl) (hf : ∀ x ∈ tyNames, X.mg x = none) {o : IE} {t : ITy} (k : ckIsi T C f o t e = true) : PE X e (tE X.K X.w T W (stepE T cl ev (.isi o t))) := by
  unfold ckIsi at k
  split at k
  · obtain ⟨k1, k⟩ := Bool.and_eq_true_iff.mp k
    obtain ⟨k2, k⟩ := Bool.and_eq_true_iff.mp k
    obtain ⟨k3, k⟩ := Bool.and_eq_true_iff.mp k
    obtain ⟨k4, k5⟩ := Bool.and_eq_true_iff.mp k
    obtain ⟨n1, n2⟩ := fname_ok hC k1
    exact c_isi F k3 n1 n2 (h _ _ k2) (snd_ty hC F hf k5) k4
  · cases k
/-! ### f-strings -/
def isK : IE → Bool
  | .k _ => true
  | _ => false
def ckF1 (f : IE → Expr → Bool) (i : IE) : Expr → Bool
  | .Constant (.str x) _ _ => (match i with
    | .k (.str s) => decide (x = SS s) && Nat.ble x.cps.size 2000
    | _ => false)
  | .FormattedValue a c none _ => decide (c = -1) && (!isK i && f i a)
  | _ => false
theorem kE_of {E : IE → Env → M → R D} {i : IE} (h : isK i = false) : kE E i = E i := by
  cases i <;> first | rfl | cases h
theorem snd_F1 {f : IE → Expr → Bool} (h : ∀ ie e, f ie e = true → PE X e (tE X.K X.w T W (ev.E ie))) {i : IE} (k : ckF1 f i e = true) : PE X e (tE X.K X.w T W (fsS (kE ev.E i))) := by
  unfold ckF1 at k
  split at k
  · split at k
    · rename_i s
      obtain ⟨k1, k2⟩ := Bool.and_eq_true_iff.mp k
      cases of_decide_eq_true k1
      exact f_str (Nat.le_of_ble_eq_true k2)
    · cases k
  · obtain ⟨k1, k⟩ := Bool.and_eq_true_iff.mp k
    obtain ⟨k2, k3⟩ := Bool.and_eq_true_iff.mp k
    cases of_decide_eq_true k1
    rw [kE_of (by simpa using k2)]
    exact f_fmt (h _ _ k3)
  · cases k
theorem snd_FJ {f : IE → Expr → Bool} (h : ∀ ie e, f ie e = true → PE X e (tE X.K X.w T W (ev.E ie))) : ∀ {is : List IE} {es : List Expr}, ckL (ckF1 f) is es = true → FJ X T W (kE ev.E) es is
  | [], [], _ => .nil
  | i :: is, e :: es, k => by
    obtain ⟨k1, k2⟩ := Bool.and_eq_true_iff.mp (show (ckF1 f i e && ckL (ckF1 f) is es) = true from k)
    exact .cons (snd_F1 h k1) (snd_FJ h k2)
  | [], _ :: _, k => by cases k
  | _ :: _, [], k => by cases k
def ckFs (f : IE → Expr → Bool) (is : List IE) : Expr → Bool
  | .JoinedStr (a :: b :: r) _ => ckL (ckF1 f) is (a :: b :: r) && Nat.ble r.length 40
  | _ => false
theorem snd_fs {f : IE → Expr → Bool} (h : ∀ ie e, f ie e = true → PE X e (tE X.K X.w T W (ev.E ie))) {is : List IE} (k : ckFs f is e = true) : PE X e (tE X.K X.w T W (stepE T cl ev (.fs is))) := by
  unfold ckFs at k
  split at k
  · obtain ⟨k1, k2⟩ := Bool.and_eq_true_iff.mp k
    exact c_fs (snd_FJ h k1) k2
  · cases k
/-! ### comprehensions -/
def ownOf (C : Ck) (vs : List Nat) : List (Str × Nat) := vs.map fun i => (C.N.getD i ("" : Str), i)
theorem own_map (C : Ck) (vs : List Nat) : (ownOf C vs).map (·.2) = vs := by
  unfold ownOf
  rw [List.map_map]
  exact List.map_id _
def ftOf (ev : Ev) : Option IE → Env → M → R Bool
  | none => fun _ m => .ok true m
  | some c => ev.T c
/-- an item's own cells are closed -/
def clE (F : Env → M → R D) : Env → M → R D := fun ρ m => closeR m (F ρ m)
theorem PE_close {F : Env → M → R D} (h : PE X e (tE X.K X.w T W F)) : PE X e (tE X.K X.w T W (clE F)) := PE_imp h fun σ H Q ⟨ρ, m, φ, hρ, S, q⟩ => ⟨ρ, m, φ, hρ, S, closeR_ok S q⟩
theorem clause_eq {t : IT} {c : Option IE} {x : IE} {ρ : Env} : clause ev t c x ρ = clauseF t (ftOf ev c) (clE (ev.E x)) ρ := by
  funext d m
  unfold clause clauseF
  cases tgt t d ρ with
  | none => rfl
  | some ρ' => cases c <;> rfl
theorem dclause_eq {t : IT} {c : Option IE} {kx vx : IE} {ρ : Env} : dclause ev t c kx vx ρ = dclauseF t (ftOf ev c) (ev.E kx) (ev.E vx) ρ := by
  funext d m
  unfold dclause dclauseF
  cases tgt t d ρ with
  | none => rfl
  | some ρ' => cases c <;> rfl
def ckIfs (f : IE → Expr → Bool) : Option IE → List Expr → Bool
  | none, [] => true
  | some c, [e] => f c e
  | _, _ => false
theorem snd_ifs {f : IE → Expr → Bool} (h : ∀ ie e, f ie e = true → PT X e (tT X.K X.w T W (ev.T ie))) {c : Option IE} {es : List Expr} (k : ckIfs f c es = true) : PTs X es (tT X.K X.w T W (ftOf ev c)) := by
  unfold ckIfs at k
  split at k
  · exact ⟨fun pins s σ H Q I ⟨ρ, m, φ, hρ, S, q⟩ => pts_nil.run pins s σ H Q I (Post.here S q)⟩
  · exact pts_one (h _ _ k)
  · cases k
/-- one generator: its clause -/
def ckGen (ch : Chk) (C B : Ck) (t : IT) (s : IS) (c : Option IE) : Comprehension → Bool
  | ⟨tg, iter, ifs, as⟩ => decide (as = 0) && (t.vars.all (fun i => Nat.blt i C.N.length) && (ckI C (ch.E C) s tg iter && (notSet iter && (B.tg t tg && ckIfs (ch.T B) c ifs))))
theorem all_lt {vs : List Nat} {n : Nat} (h : vs.all (fun i => Nat.blt i n) = true) : ∀ i ∈ vs, i < n := fun i hi => Nat.le_of_ble_eq_true (List.all_eq_true.mp h i hi)
theorem snd_gen (hs : Snd T cl ch ev) (hC : CxIs X C) (F : Fx X T W lv cl) {scope : Scope} {t : IT} {s : IS} {c : Option IE} {tg iter : Expr} {ifs : List Expr} {as : Int} (k : ckGen ch C (C.blk scope) t s c ⟨tg, iter, ifs, as⟩ = true) :
    as = 0 ∧ (∀ i ∈ t.vars, i < X.N.length) ∧ PI X tg iter (tI X.K X.w T W (srcF ev.E s)) ∧ (∀ x, foldedSetIterable iter X.env x = pure x) ∧
    (∀ (s : Shared) (H : Hp) (c : Addr) (cl : List (Str × Addr)) (fp : List Addr), PG (X.blk s H scope (compEnvC scope cl c X.env) fp) tg (gT X.K t)) ∧
    (∀ (s : Shared) (H : Hp) (a : Addr) (cl : List (Str × Addr)) (fp : List Addr), PTs (X.blk s H scope (compEnvC scope cl a X.env) fp) ifs (tT X.K X.w T W0 (ftOf ev c))) ∧ notSet iter = true := by
  have k : (decide (as = 0) && (t.vars.all (fun i => Nat.blt i C.N.length) && (ckI C (ch.E C) s tg iter && (notSet iter && ((C.blk scope).tg t tg && ckIfs (ch.T (C.blk scope)) c ifs))))) = true := k
  obtain ⟨k1, k⟩ := Bool.and_eq_true_iff.mp k
  obtain ⟨k2, k⟩ := Bool.and_eq_true_iff.mp k
  obtain ⟨k3, k⟩ := Bool.and_eq_true_iff.mp k
  obtain ⟨k4, k⟩ := Bool.and_eq_true_iff.mp k
  obtain ⟨k5, k6⟩ := Bool.and_eq_true_iff.mp k
  refine ⟨of_decide_eq_true k1, by rw [hC.N]; exact all_lt k2, snd_I hC F (fun ie e q => hs.E X C W lv hC F ie e q) k3, fun x => notSet_ok k4, fun s H a cl fp => ?_, fun s H a cl fp => ?_, k4⟩
  · exact pg_T (X := X.blk s H scope (compEnvC scope cl a X.env) fp) F.nd F.calm (hC.blk.tg k5)
  · exact snd_ifs (X := X.blk s H scope (compEnvC scope cl a X.env) fp) (fun ie e q => hs.T _ _ W0 lv hC.blk F.blk ie e q) k6
def ckLc1 (ch : Chk) (C : Ck) (x : IE) (t : IT) (s : IS) (c : Option IE) : Expr → Bool
  | .ListComp elt [g] scope _ => blkC C.N C.sc scope (ownOf C t.vars) && (ckGen ch C (C.blk scope) t s c g && ch.E (C.blk scope) x elt)
  | _ => false
theorem own_in (C : Ck) (vs : List Nat) : ∀ i ∈ vs, i ∈ (ownOf C vs).map (·.2) := fun i hi => by rw [own_map]; exact hi
theorem blk_ok (hC : CxIs X C) {scope : Scope} {own : List (Str × Nat)} (h : blkC C.N C.sc scope own = true) : BlkOk X.N X.env.scope scope own := by
  rw [hC.N, hC.sc]
  exact blkOk_by h
theorem lc1_eq {x : IE} {t : IT} {s : IS} {c : Option IE} : stepE T cl ev (.lc false x [.mk t s c]) = fun ρ m => ((srcF ev.E s ρ m).bind fun wk m => lcRun (clauseF t (ftOf ev c) (clE (ev.E x)) (wipeE ρ ((ownOf C t.vars).map (·.2)))) wk m).bind fun xs m => listOf false xs m := by
  funext ρ m
  rw [own_map, ← clause_eq]
  rfl
theorem snd_lc1 (hs : Snd T cl ch ev) (hC : CxIs X C) (F : Fx X T W lv cl) {x : IE} {t : IT} {s : IS} {c : Option IE} (k : ckLc1 ch C x t s c e = true) : PE X e (tE X.K X.w T W (stepE T cl ev (.lc false x [.mk t s c]))) := by
  unfold ckLc1 at k
  split at k
  · rename_i elt g scope pos
    obtain ⟨k1, k⟩ := Bool.and_eq_true_iff.mp k
    obtain ⟨k2, k3⟩ := Bool.and_eq_true_iff.mp k
    obtain ⟨tg, iter, ifs, as⟩ := g
    obtain ⟨rfl, g1, g2, g3, g4, g5, _⟩ := snd_gen hs hC F k2
    rw [lc1_eq (C := C)]
    exact c_lc F (blk_ok hC k1) (own_in C _) g1 g2 g4 g5 (fun s H a cl fp => PE_close (hs.E _ _ W0 lv hC.blk F.blk _ _ k3)) g3
  · cases k
def ckLc2 (ch : Chk) (C : Ck) (x : IE) (t : IT) (s : IS) (t2 : IT) (s2 : IS) (c2 : Option IE) : Expr → Bool
  | .ListComp elt [g, g2] scope _ => blkC C.N C.sc scope (ownOf C (t.vars ++ t2.vars)) && (ckGen ch C (C.blk scope) t s none g && (ckGen ch (C.blk scope) (C.blk scope) t2 s2 c2 g2 && ch.E (C.blk scope) x elt))
  | _ => false
theorem lc2_eq {x : IE} {t : IT} {s : IS} {t2 : IT} {s2 : IS} {c2 : Option IE} : stepE T cl ev (.lc false x [.mk t s none, .mk t2 s2 c2]) = fun ρ m => ((srcF ev.E s ρ m).bind fun wk m => lcRun (outerF t (clauseF t2 (ftOf ev c2) (clE (ev.E x))) (srcF ev.E s2) t2.vars (wipeE ρ ((ownOf C (t.vars ++ t2.vars)).map (·.2)))) wk m).bind fun xs m => listOf false xs m := by
  funext ρ m
  rw [own_map]
  show ((srcF ev.E s ρ m).bind fun w m => lcRun (fun d m => match tgt t d (wipeE ρ (t.vars ++ t2.vars)) with
      | none => .bad
      | some ρ' => (srcF ev.E s2 ρ' m).bind fun w2 m => lcIn (clause ev t2 c2 x (wipeE ρ' t2.vars)) w2 m) w m).bind _ = _
  simp only [clause_eq]
  rfl
theorem snd_ifs0 {f : IE → Expr → Bool} {ifs : List Expr} (k : ckIfs f none ifs = true) : ifs = [] := by
  cases ifs with
  | nil => rfl
  | cons _ _ => cases k
theorem gen_ifs0 {B : Ck} {t : IT} {s : IS} {tg iter : Expr} {ifs : List Expr} {as : Int} (k : ckGen ch C B t s none ⟨tg, iter, ifs, as⟩ = true) : ifs = [] := by
  have k : (decide (as = 0) && (t.vars.all (fun i => Nat.blt i C.N.length) && (ckI C (ch.E C) s tg iter && (notSet iter && (B.tg t tg && ckIfs (ch.T B) none ifs))))) = true := k
  obtain ⟨k1, k⟩ := Bool.and_eq_true_iff.mp k
  obtain ⟨k2, k⟩ := Bool.and_eq_true_iff.mp k
  obtain ⟨k3, k⟩ := Bool.and_eq_true_iff.mp k
  obtain ⟨k4, k⟩ := Bool.and_eq_true_iff.mp k
  exact snd_ifs0 (Bool.and_eq_true_iff.mp k).2
/-- the second generator, within the block -/
theorem snd_gen2 (hs : Snd T cl ch ev) (hC : CxIs X C) (F : Fx X T W lv cl) {scope : Scope} {t : IT} {s : IS} {c : Option IE} {tg iter : Expr} {ifs : List Expr} {as : Int} (k : ckGen ch (C.blk scope) (C.blk scope) t s c ⟨tg, iter, ifs, as⟩ = true) :
    as = 0 ∧ (∀ i ∈ t.vars, i < X.N.length) ∧ (∀ env x, foldedSetIterable iter env x = pure x) ∧
    (∀ (s0 : Shared) (H : Hp) (c : Addr) (cl : List (Str × Addr)) (fp : List Addr), PI (X.blk s0 H scope (compEnvC scope cl c X.env) fp) tg iter (tI X.K X.w T W0 (srcF ev.E s))) ∧
    (∀ (s : Shared) (H : Hp) (c : Addr) (cl : List (Str × Addr)) (fp : List Addr), PG (X.blk s H scope (compEnvC scope cl c X.env) fp) tg (gT X.K t)) ∧
    (∀ (s : Shared) (H : Hp) (a : Addr) (cl : List (Str × Addr)) (fp : List Addr), PTs (X.blk s H scope (compEnvC scope cl a X.env) fp) ifs (tT X.K X.w T W0 (ftOf ev c))) := by
  have k : (decide (as = 0) && (t.vars.all (fun i => Nat.blt i C.N.length) && (ckI (C.blk scope) (ch.E (C.blk scope)) s tg iter && (notSet iter && ((C.blk scope).tg t tg && ckIfs (ch.T (C.blk scope)) c ifs))))) = true := k
  obtain ⟨k1, k⟩ := Bool.and_eq_true_iff.mp k
  obtain ⟨k2, k⟩ := Bool.and_eq_true_iff.mp k
  obtain ⟨k3, k⟩ := Bool.and_eq_true_iff.mp k
  obtain ⟨k4, k⟩ := Bool.and_eq_true_iff.mp k
  obtain ⟨k5, k6⟩ := Bool.and_eq_true_iff.mp k
  refine ⟨of_decide_eq_true k1, by rw [hC.N]; exact all_lt k2, fun env x => notSet_ok k4, fun s0 H a cl fp => ?_, fun s H a cl fp => ?_, fun s H a cl fp => ?_⟩
  · exact snd_I (X := X.blk s0 H scope (compEnvC scope cl a X.env) fp) hC.blk F.blk (fun ie e q => hs.E _ _ W0 lv hC.blk F.blk ie e q) k3
  · exact pg_T (X := X.blk s H scope (compEnvC scope cl a X.env) fp) F.nd F.calm (hC.blk.tg k5)
  · exact snd_ifs (X := X.blk s H scope (compEnvC scope cl a X.env) fp) (fun ie e q => hs.T _ _ W0 lv hC.blk F.blk ie e q) k6
theorem snd_lc2 (hs : Snd T cl ch ev) (hC : CxIs X C) (F : Fx X T W lv cl) {x : IE} {t : IT} {s : IS} {t2 : IT} {s2 : IS} {c2 : Option IE} (k : ckLc2 ch C x t s t2 s2 c2 e = true) : PE X e (tE X.K X.w T W (stepE T cl ev (.lc false x [.mk t s none, .mk t2 s2 c2]))) := by
  unfold ckLc2 at k
  split at k
  · rename_i elt g g' scope pos
    obtain ⟨k1, k⟩ := Bool.and_eq_true_iff.mp k
    obtain ⟨k2, k⟩ := Bool.and_eq_true_iff.mp k
    obtain ⟨k3, k4⟩ := Bool.and_eq_true_iff.mp k
    obtain ⟨tg, iter, ifs, as⟩ := g
    obtain ⟨tg', iter', ifs', as'⟩ := g'
    obtain rfl := gen_ifs0 k2
    obtain ⟨rfl, g1, g2, g3, g4, g5, _⟩ := snd_gen hs hC F k2
    obtain ⟨rfl, h1, h2, h3, h4, h5⟩ := snd_gen2 hs hC F k3
    rw [lc2_eq (C := C)]
    exact c_lc2 F (blk_ok hC k1) (fun i hi => own_in C _ i (List.mem_append_left _ hi)) g1 (fun i hi => own_in C _ i (List.mem_append_right _ hi)) h1 g2 g4 h3 h4 h5 (fun s H a cl fp => PE_close (hs.E _ _ W0 lv hC.blk F.blk _ _ k4)) g3 h2
  · cases k
def ckDc (ch : Chk) (C : Ck) (kx vx : IE) (t : IT) (s : IS) (c : Option IE) : Expr → Bool
  | .DictComp ke ve [g] scope _ => blkC C.N C.sc scope (ownOf C t.vars) && (ckGen ch C (C.blk scope) t s c g && (ch.E (C.blk scope) kx ke && ch.E (C.blk scope) vx ve))
  | _ => false
theorem dc_eq {kx vx : IE} {t : IT} {s : IS} {c : Option IE} : stepE T cl ev (.dc kx vx (.mk t s c)) = fun ρ m => (srcF ev.E s ρ m).bind fun wk m => (dcRun (dclauseF t (ftOf ev c) (ev.E kx) (ev.E vx) (wipeE ρ ((ownOf C t.vars).map (·.2)))) wk m).bind fun kvs m => .ok (.fd kvs) m := by
  funext ρ m
  rw [own_map, ← dclause_eq]
  rfl
theorem snd_dc (hs : Snd T cl ch ev) (hC : CxIs X C) (F : Fx X T W lv cl) {kx vx : IE} {t : IT} {s : IS} {c : Option IE} (k : ckDc ch C kx vx t s c e = true) : PE X e (tE X.K X.w T W (stepE T cl ev (.dc kx vx (.mk t s c)))) := by
  unfold ckDc at k
  split at k
  · rename_i ke ve g scope pos
    obtain ⟨k1, k⟩ := Bool.and_eq_true_iff.mp k
    obtain ⟨k2, k⟩ := Bool.and_eq_true_iff.mp k
    obtain ⟨k3, k4⟩ := Bool.and_eq_true_iff.mp k
    obtain ⟨tg, iter, ifs, as⟩ := g
    obtain ⟨rfl, g1, g2, g3, g4, g5, _⟩ := snd_gen hs hC F k2
    rw [dc_eq (C := C)]
    exact c_dc F (blk_ok hC k1) (own_in C _) g1 g2 g4 g5 (fun s H a cl fp => hs.E _ _ W0 lv hC.blk F.blk _ _ k3) (fun s H a cl fp => hs.E _ _ W0 lv hC.blk F.blk _ _ k4) g3
  · cases k
end
end Pd

set_option maxHeartbeats 4000000
/-! Pd27: the checker of statements, its soundness. -/
namespace Pd
open PySem PySem.Spec PyProof.Rows L2
def ckStepE (T : Tab) (ch : Chk) (C : Ck) (ie : IE) (e : Expr) : Bool := match ie with
  | .var i => ckVar C i e
  | .k d => ckK d e
  | .g i => ckG T C i e
  | .attr a n => ckAttr T (ch.E C) a n e
  | .bin op a b => ckBin (ch.E C) op a b e
  | .cmp op a b => ckCmp (ch.E C) op a b e
  | .cmp2 o1 o2 a b c => ckCmp2 (ch.E C) o1 o2 a b c e
  | .and a b => ckBo (ch.E C) .And a b e
  | .or a b => ckBo (ch.E C) .Or a b e
  | .not a => ckUn (ch.E C) .Not a e
  | .neg a => ckUn (ch.E C) .USub a e
  | .inv a => ckUn (ch.E C) .Invert a e
  | .ite c a b => ckIte (ch.E C) (ch.T C) c a b e
  | .tup es => ckTup (ch.E C) es e
  | .lst _ es => ckLst (ch.E C) es e
  | .dic _ _ _ => false
  | .idx a b => ckIdx (ch.E C) a b e
  | .sl a lo hi => ckSl (ch.E C) a lo hi e
  | .stp a lo k => ckStp (ch.E C) a lo k e
  | .call f es => ckCall T C (ch.E C) f es e
  | .make c es => ckMake T C (ch.E C) c es e
  | .bi b es => ckBi C (ch.E C) b es e || ckLr C (ch.E C) b es e
  | .bm b o es => ckBm (ch.E C) b o es e
  | .meth o a es => ckMeth T (ch.E C) o a es e
  | .isi o t => ckIsi T C (ch.E C) o t e
  | .lc false x [.mk t s c] => ckLc1 ch C x t s c e
  | .lc false x [.mk t s none, .mk t2 s2 c2] => ckLc2 ch C x t s t2 s2 c2 e
  | .lc _ _ _ => false
  | .dc kx vx (.mk t s c) => ckDc ch C kx vx t s c e
  | .fs is => ckFs (ch.E C) is e
def plainT : Expr → Bool
  | .Name _ _ => true
  | .Call _ _ _ _ => true
  | .Attribute _ _ _ => true
  | .Subscript _ _ _ => true
  | .Constant _ _ _ => true
  | _ => false
def ckStepT (T : Tab) (ch : Chk) (C : Ck) (ie : IE) (e : Expr) : Bool := match ie with
  | .and a b => ckBo (ch.T C) .And a b e
  | .or a b => ckBo (ch.T C) .Or a b e
  | .not a => ckUn (ch.T C) .Not a e
  | .cmp op a b => ckCmp (ch.E C) op a b e
  | .cmp2 o1 o2 a b c => ckCmp2 (ch.E C) o1 o2 a b c e
  | ie => plainT e && ckStepE T ch C ie e
section
variable {X : Cx} {T : Tab} {W : WX} {lv : Nat} {cl : Call} {C : Ck} {ch : Chk} {ev : Ev} {e : Expr}
theorem ty_free (F : Fx X T W lv cl) : ∀ x ∈ tyNames, X.mg x = none := fun x hx => F.tb.free x (by
  have : ∀ x ∈ tyNames, x ∈ bltns := by decide +kernel
  exact this x hx)
theorem snd_stepE (hs : Snd T cl ch ev) (hC : CxIs X C) (F : Fx X T W lv cl) {ie : IE} (k : ckStepE T ch C ie e = true) : PE X e (tE X.K X.w T W (stepE T cl ev ie)) := by
  have hE := fun ie e q => hs.E X C W lv hC F ie e q
  have hT := fun ie e q => hs.T X C W lv hC F ie e q
  unfold ckStepE at k
  split at k
  · exact snd_var hC k
  · exact snd_k k
  · exact snd_g hC F k
  · exact snd_attr hE F k
  · exact snd_bin hE F k
  · exact (snd_cmp hE F k).1
  · exact (snd_cmp2 hE F k).1
  · exact snd_and hE k
  · exact snd_or hE k
  · exact snd_not hE k
  · exact snd_neg hE F k
  · exact snd_inv hE F k
  · exact snd_ite hE hT k
  · exact snd_tup hE k
  · exact snd_lst hE k
  · cases k
  · exact snd_idx hE F k
  · exact snd_sl hE k
  · exact snd_stp hE k
  · exact snd_call hC hE F k
  · exact snd_make hC hE F k
  · rcases Bool.or_eq_true_iff.mp k with k | k
    · exact snd_bi hC hE F k
    · exact snd_lr hC hE F k
  · exact snd_bm hE F k
  · exact snd_meth hE F k
  · exact snd_isi hC hE F (ty_free F) k
  · exact snd_lc1 hs hC F k
  · exact snd_lc2 hs hC F k
  · cases k
  · exact snd_dc hs hC F k
  · exact snd_fs hE k
theorem snd_plainT {ie : IE} (hs : Snd T cl ch ev) (hC : CxIs X C) (F : Fx X T W lv cl) (k : (plainT e && ckStepE T ch C ie e) = true) : PT X e (tT X.K X.w T W fun ρ m => (stepE T cl ev ie ρ m).bind isBl) := by
  obtain ⟨k1, k2⟩ := Bool.and_eq_true_iff.mp k
  exact t_val (snd_stepE hs hC F k2) (by cases e <;> first | (intro _; rfl) | cases k1)
theorem snd_stepT (hs : Snd T cl ch ev) (hC : CxIs X C) (F : Fx X T W lv cl) {ie : IE} (k : ckStepT T ch C ie e = true) : PT X e (tT X.K X.w T W (stepT T cl ev ie)) := by
  have hE := fun ie e q => hs.E X C W lv hC F ie e q
  have hT := fun ie e q => hs.T X C W lv hC F ie e q
  cases ie with
  | and a b => exact snd_andT hT k
  | or a b => exact snd_orT hT k
  | not a => exact snd_notT hT k
  | cmp op a b => exact (snd_cmp hE F k).2
  | cmp2 o1 o2 a b c => exact (snd_cmp2 hE F k).2
  | _ => exact snd_plainT hs hC F k
/-! ### statements -/
def isFun (C : Ck) : Bool := match C.sc.kind with
  | .function => true
  | _ => false
theorem isFun_ok (hC : CxIs X C) (h : isFun C = true) : X.env.scope.kind = .function := by
  rw [hC.sc]
  unfold isFun at h
  split at h
  · assumption
  · cases h
/-- the value of a statement is stored in the exchanged way -/
def swB (C : Ck) (z : Str) (p : Pos) : Expr → Bool
  | .ListComp _ _ s q => C.isLoc z && (decide (p.line = q.line) && !(s.names.any fun (n, k) => n == z && (k == .local || k == .cell)))
  | .SetComp _ _ _ _ => true
  | .DictComp _ _ _ s q => C.isLoc z && (decide (p.line = q.line) && !(s.names.any fun (n, k) => n == z && (k == .local || k == .cell)))
  | _ => false
theorem isLoc_eq (hC : CxIs X C) (z : Str) : (X.env.kindOf z == some .local) = C.isLoc z := by
  unfold Env.kindOf Ck.isLoc
  rw [hC.sc]
  cases C.sc.names.lookup z with
  | none => rfl
  | some k => cases k <;> rfl
theorem swB_lc (hC : CxIs X C) (hk : X.env.scope.kind = .function) {elt : Expr} {gs : List Comprehension} {s : Scope} {q p : Pos} {z : Str} {l : Nat} : swapsWith (.ListComp elt gs s q) (some (.Name z p)) l X.env = pure (swB C z p (.ListComp elt gs s q)) := by
  have hb : (X.env.blockKind == ScopeKind.function) = true := by
    unfold Env.blockKind
    rw [hk]
    rfl
  unfold swapsWith swB
  show (pure ((X.env.blockKind == ScopeKind.function) && (X.env.kindOf z == some .local) && (p.line == q.line) && !(s.names.any fun (n, k) => n == z && (k == .local || k == .cell))) : Sem Bool) = _
  rw [hb, isLoc_eq hC, Bool.true_and, Bool.and_assoc]
  rfl
theorem swB_dc (hC : CxIs X C) (hk : X.env.scope.kind = .function) {kx vx : Expr} {gs : List Comprehension} {s : Scope} {q p : Pos} {z : Str} {l : Nat} : swapsWith (.DictComp kx vx gs s q) (some (.Name z p)) l X.env = pure (swB C z p (.DictComp kx vx gs s q)) := by
  have hb : (X.env.blockKind == ScopeKind.function) = true := by
    unfold Env.blockKind
    rw [hk]
    rfl
  unfold swapsWith swB
  show (pure ((X.env.blockKind == ScopeKind.function) && (X.env.kindOf z == some .local) && (p.line == q.line) && !(s.names.any fun (n, k) => n == z && (k == .local || k == .cell))) : Sem Bool) = _
  rw [hb, isLoc_eq hC, Bool.true_and, Bool.and_assoc]
  rfl
theorem swB_no (hC : CxIs X C) (hk : X.env.scope.kind = .function) {v : Expr} {z : Str} {p : Pos} {l : Nat} (h : swB C z p v = false) : swapsWith v (some (.Name z p)) l X.env = pure false := by
  cases v with
  | ListComp => rw [swB_lc hC hk, h]
  | DictComp => rw [swB_dc hC hk, h]
  | SetComp => cases h
  | _ => rfl
theorem sw_other {v tg : Expr} {l : Nat} {env : PySem.Env} (h : ∀ z p, tg ≠ .Name z p) : swapsWith v (some tg) l env = pure false := by
  cases v <;> first
    | rfl
    | (cases tg <;> first | rfl | exact (h _ _ rfl).elim)
/-- x = e -/
def ckAsg1 (T : Tab) (ch : Chk) (C : Ck) (i : Nat) (ie : IE) (z : Str) (p : Pos) (v : Expr) : Bool := isFun C && (C.nm i z && (bif swB C z p v then (C.isLoc z && match ie with
  | .lc false x [.mk t s c] => ckLc1 ch C x t s c v
  | .lc false x [.mk t s none, .mk t2 s2 c2] => ckLc2 ch C x t s t2 s2 c2 v
  | _ => false) else ckStepE T ch C ie v))
theorem snd_asgLc1 (hs : Snd T cl ch ev) (hC : CxIs X C) (F : Fx X T W lv cl) {i : Nat} {z : Str} {p pos : Pos} {v : Expr} {x : IE} {t : IT} {s : IS} {c : Option IE} (hk : X.env.scope.kind = .function) (hz : NmOk X i z) (hl : X.env.scope.names.lookup z = some .local) (hw : swB C z p v = true)
    (k : ckLc1 ch C x t s c v = true) : PS X (.Assign [.Name z p] v pos) (tS X.K X.w T W X.N.length fun ρ m => (stepE T cl ev (.lc false x [.mk t s c]) ρ m).bind fun d m => .ok (none, setE ρ i d) m) := by
  unfold ckLc1 at k
  split at k
  · rename_i elt g scope pos
    obtain ⟨k1, k⟩ := Bool.and_eq_true_iff.mp k
    obtain ⟨k2, k3⟩ := Bool.and_eq_true_iff.mp k
    obtain ⟨tg, iter, ifs, as⟩ := g
    obtain ⟨rfl, g1, g2, g3, g4, g5, _⟩ := snd_gen hs hC F k2
    rw [lc1_eq (C := C)]
    exact s_asgLc F hz hl (by rw [swB_lc hC hk, hw]) (blk_ok hC k1) (own_in C _) g1 g2 g4 g5 (fun s H a cl fp => PE_close (hs.E _ _ W0 lv hC.blk F.blk _ _ k3)) g3
  · cases k
theorem snd_asgLc2 (hs : Snd T cl ch ev) (hC : CxIs X C) (F : Fx X T W lv cl) {i : Nat} {z : Str} {p pos : Pos} {v : Expr} {x : IE} {t : IT} {s : IS} {t2 : IT} {s2 : IS} {c2 : Option IE} (hk : X.env.scope.kind = .function) (hz : NmOk X i z) (hl : X.env.scope.names.lookup z = some .local) (hw : swB C z p v = true)
    (k : ckLc2 ch C x t s t2 s2 c2 v = true) : PS X (.Assign [.Name z p] v pos) (tS X.K X.w T W X.N.length fun ρ m => (stepE T cl ev (.lc false x [.mk t s none, .mk t2 s2 c2]) ρ m).bind fun d m => .ok (none, setE ρ i d) m) := by
  unfold ckLc2 at k
  split at k
  · rename_i elt g g' scope pos
    obtain ⟨k1, k⟩ := Bool.and_eq_true_iff.mp k
    obtain ⟨k2, k⟩ := Bool.and_eq_true_iff.mp k
    obtain ⟨k3, k4⟩ := Bool.and_eq_true_iff.mp k
    obtain ⟨tg, iter, ifs, as⟩ := g
    obtain ⟨tg', iter', ifs', as'⟩ := g'
    obtain rfl := gen_ifs0 k2
    obtain ⟨rfl, g1, g2, g3, g4, g5, _⟩ := snd_gen hs hC F k2
    obtain ⟨rfl, h1, h2, h3, h4, h5⟩ := snd_gen2 hs hC F k3
    rw [lc2_eq (C := C)]
    exact s_asgLc2 F hz hl (by rw [swB_lc hC hk, hw]) (blk_ok hC k1) (fun i hi => own_in C _ i (List.mem_append_left _ hi)) g1 (fun i hi => own_in C _ i (List.mem_append_right _ hi)) h1 g2 g4 h3 h4 h5 (fun s H a cl fp => PE_close (hs.E _ _ W0 lv hC.blk F.blk _ _ k4)) g3 h2
  · cases k
theorem snd_asg1 (hs : Snd T cl ch ev) (hC : CxIs X C) (F : Fx X T W lv cl) {i : Nat} {ie : IE} {z : Str} {p pos : Pos} {v : Expr} (k : ckAsg1 T ch C i ie z p v = true) : PS X (.Assign [.Name z p] v pos) (tS X.K X.w T W X.N.length (stepS T cl ev (.asg (.nm i) ie))) := by
  obtain ⟨k0, k⟩ := Bool.and_eq_true_iff.mp (show (isFun C && _) = true from k)
  obtain ⟨k1, k⟩ := Bool.and_eq_true_iff.mp k
  have hk := isFun_ok hC k0
  have hz := hC.nm k1
  cases hw : swB C z p v with
  | false =>
    rw [hw] at k
    exact s_asg F.nd hz (snd_stepE hs hC F k) (swB_no hC hk hw)
  | true =>
    rw [hw] at k
    obtain ⟨k2, k⟩ := Bool.and_eq_true_iff.mp (show (C.isLoc z && _) = true from k)
    have hl := hC.isLoc k2
    split at k
    · exact snd_asgLc1 hs hC F hk hz hl hw k
    · exact snd_asgLc2 hs hC F hk hz hl hw k
    · cases k
/-- a, b = x, y: whether the values are stored in the exchanged way -/
def parOk (C : Ck) (ts vs : List Expr) : Bool := vs.all notStar && (!vs.all (foldedForSure 8) && !vs.all (constantsAlone 8))
def parNo (vs : List Expr) : Bool := vs.all notStar && vs.all (foldedForSure 8)
theorem kind_loc {z : Str} (h : X.env.scope.names.lookup z = some .local) : (X.env.kindOf z == some .local) = true := by
  unfold Env.kindOf
  rw [h]
  rfl
theorem star_any {vs : List Expr} (h : vs.all notStar = true) : (vs.any fun | .Starred .. => true | _ => false) = false := by
  rw [List.any_eq_false]
  intro x hx
  have := List.all_eq_true.mp h x hx
  cases x <;> first | (cases this; done) | (intro z; cases z; done)
theorem nb {b : Bool} (h : (!b) = true) : b = false := by
  cases b
  · rfl
  · cases h
theorem swp2 (hk : X.env.scope.kind = .function) {n1 n2 : Str} {p1 p2 pt pt2 : Pos} {kt k2 : Nat} {a b : Expr} (l1 : X.env.scope.names.lookup n1 = some .local) (l2 : X.env.scope.names.lookup n2 = some .local) (hn : n1 ≠ n2) (hp : p2.line = p1.line) (h : parOk C [.Name n1 p1, .Name n2 p2] [a, b] = true) :
    swappedStores [.Tuple [.Name n1 p1, .Name n2 p2] kt pt] (.Tuple [a, b] k2 pt2) X.env = pure (some [n1, n2]) := by
  obtain ⟨h1, h⟩ := Bool.and_eq_true_iff.mp h
  obtain ⟨h2, h3⟩ := Bool.and_eq_true_iff.mp h
  have h2 : [a, b].all (foldedForSure 8) = false := nb h2
  have h3 : [a, b].all (constantsAlone 8) = false := nb h3
  have hb : (X.env.blockKind != ScopeKind.function) = false := by
    unfold Env.blockKind
    rw [hk]
    rfl
  have e1 : X.env.kindOf n1 = some .local := l1
  have e2 : X.env.kindOf n2 = some .local := l2
  have s1 : notStar a = true := List.all_eq_true.mp h1 a (.head _)
  have s2 : notStar b = true := List.all_eq_true.mp h1 b (.tail _ (.head _))
  unfold swappedStores
  simp only [hb, h2, h3]
  simp [List.filterMap, e1, e2, hp, List.eraseDups_cons, Ne.symm hn, hn, Pos.line, Expr.pos]
  rintro (z | z)
  · cases a <;> first | (cases s1; done) | (cases z; done)
  · cases b <;> first | (cases s2; done) | (cases z; done)
theorem swp3 (hk : X.env.scope.kind = .function) {n1 n2 n3 : Str} {p1 p2 p3 pt pt2 : Pos} {kt k2 : Nat} {a b c : Expr} (l1 : X.env.scope.names.lookup n1 = some .local) (l2 : X.env.scope.names.lookup n2 = some .local) (l3 : X.env.scope.names.lookup n3 = some .local) (hn : n1 ≠ n2) (hn2 : n1 ≠ n3) (hn3 : n2 ≠ n3) (hp : p2.line = p1.line) (hp3 : p3.line = p1.line)
    (h : parOk C [.Name n1 p1, .Name n2 p2, .Name n3 p3] [a, b, c] = true) :
    swappedStores [.Tuple [.Name n1 p1, .Name n2 p2, .Name n3 p3] kt pt] (.Tuple [a, b, c] k2 pt2) X.env = pure (some [n1, n2, n3]) := by
  obtain ⟨h1, h⟩ := Bool.and_eq_true_iff.mp h
  obtain ⟨h2, h3⟩ := Bool.and_eq_true_iff.mp h
  have h2 : [a, b, c].all (foldedForSure 8) = false := nb h2
  have h3 : [a, b, c].all (constantsAlone 8) = false := nb h3
  have hb : (X.env.blockKind != ScopeKind.function) = false := by
    unfold Env.blockKind
    rw [hk]
    rfl
  have e1 : X.env.kindOf n1 = some .local := l1
  have e2 : X.env.kindOf n2 = some .local := l2
  have e3 : X.env.kindOf n3 = some .local := l3
  have s1 : notStar a = true := List.all_eq_true.mp h1 a (.head _)
  have s2 : notStar b = true := List.all_eq_true.mp h1 b (.tail _ (.head _))
  have s3 : notStar c = true := List.all_eq_true.mp h1 c (.tail _ (.tail _ (.head _)))
  unfold swappedStores
  simp only [hb, h2, h3]
  simp [List.filterMap, e1, e2, e3, hp, hp3, List.eraseDups_cons, Ne.symm hn, hn, Ne.symm hn2, hn2, Ne.symm hn3, hn3, Pos.line, Expr.pos]
  rintro (z | z | z)
  · cases a <;> first | (cases s1; done) | (cases z; done)
  · cases b <;> first | (cases s2; done) | (cases z; done)
  · cases c <;> first | (cases s3; done) | (cases z; done)
end
end Pd

set_option maxHeartbeats 4000000
/-! Pd28: the checker of statements, its soundness. -/
namespace Pd
open PySem PySem.Spec PyProof.Rows L2
def notTup : Expr → Bool
  | .Tuple _ _ _ => false
  | .List _ _ => false
  | _ => true
/-- (x, ..) = e -/
def ckAsgT (T : Tab) (ch : Chk) (C : Ck) (is : List Nat) (ie : IE) (ts : List Expr) (v : Expr) : Bool := isFun C && (bif notTup v then C.tgs is ts && ckStepE T ch C ie v else match v with
  | .Tuple vs _ _ => bif parNo vs then C.tgs is ts && ckStepE T ch C ie v else (match is, ts, vs, ie with
    | [i, j], [.Name n1 p1, .Name n2 p2], [a, b], .tup es => C.nm i n1 && (C.nm j n2 && (!decide (i = j) && (C.isLoc n1 && (C.isLoc n2 && (!decide (n1 = n2) && (decide (p2.line = p1.line) && (parOk C [.Name n1 p1, .Name n2 p2] [a, b] && ckA (ch.E C) es [a, b])))))))
    | [i, j, l], [.Name n1 p1, .Name n2 p2, .Name n3 p3], [a, b, c], .tup es => C.nm i n1 && (C.nm j n2 && (C.nm l n3 && (!decide (i = j) && (!decide (i = l) && (!decide (j = l) && (C.isLoc n1 && (C.isLoc n2 && (C.isLoc n3 && (!decide (n1 = n2) && (!decide (n1 = n3) && (!decide (n2 = n3) &&
        (decide (p2.line = p1.line) && (decide (p3.line = p1.line) && (parOk C [.Name n1 p1, .Name n2 p2, .Name n3 p3] [a, b, c] && ckA (ch.E C) es [a, b, c]))))))))))))))
    | _, _, _, _ => false)
  | _ => false)
section
variable {X : Cx} {T : Tab} {W : WX} {lv : Nat} {cl : Call} {C : Ck} {ch : Chk} {ev : Ev} {e : Expr}
theorem swapped_tup {ts : List Expr} {kt : Nat} {pt : Pos} {v : Expr} {env : PySem.Env} (h : notTup v = true) : swappedStores [.Tuple ts kt pt] v env = pure none := by
  cases v <;> first | (cases h; done) | rfl
theorem swapped_no {ts vs : List Expr} {kt k2 : Nat} {pt pt2 : Pos} {env : PySem.Env} (h : parNo vs = true) : swappedStores [.Tuple ts kt pt] (.Tuple vs k2 pt2) env = pure none := by
  obtain ⟨h1, h2⟩ := Bool.and_eq_true_iff.mp h
  unfold swappedStores
  simp only [h2]
  repeat' first
    | rfl
    | split
theorem ba3 {a b c : Bool} (h : (a && (b && c)) = true) : a = true ∧ b = true ∧ c = true := by
  obtain ⟨h1, h⟩ := Bool.and_eq_true_iff.mp h
  obtain ⟨h2, h3⟩ := Bool.and_eq_true_iff.mp h
  exact ⟨h1, h2, h3⟩
theorem nd {p : Prop} [Decidable p] (h : (!decide p) = true) : ¬ p := of_decide_eq_false (nb h)
theorem sw_sole {v tg : Expr} {l : Nat} {env : PySem.Env} (h : ∀ z p, tg ≠ Expr.Name z p) : swapsWithSole [tg] v l env = pure false := sw_other h
theorem snd_asgT0 (hs : Snd T cl ch ev) (hC : CxIs X C) (F : Fx X T W lv cl) {is : List Nat} {ie : IE} {ts : List Expr} {kt : Nat} {pt pos : Pos} {v : Expr} (hw : swappedStores [.Tuple ts kt pt] v X.env = pure none) (k : (C.tgs is ts && ckStepE T ch C ie v) = true) :
    PS X (.Assign [.Tuple ts kt pt] v pos) (tS X.K X.w T W X.N.length (stepS T cl ev (.asg (.tp is) ie))) := by
  obtain ⟨k1, k2⟩ := Bool.and_eq_true_iff.mp k
  exact s_asgT F (t := .tp is) (.tp (hC.tgs k1)) (snd_stepE hs hC F k2) (sw_sole fun z p q => by cases q) hw rfl
theorem snd_asgT (hs : Snd T cl ch ev) (hC : CxIs X C) (F : Fx X T W lv cl) {is : List Nat} {ie : IE} {ts : List Expr} {kt : Nat} {pt pos : Pos} {v : Expr} (k : ckAsgT T ch C is ie ts v = true) :
    PS X (.Assign [.Tuple ts kt pt] v pos) (tS X.K X.w T W X.N.length (stepS T cl ev (.asg (.tp is) ie))) := by
  obtain ⟨k0, k⟩ := Bool.and_eq_true_iff.mp (show (isFun C && _) = true from k)
  have hk := isFun_ok hC k0
  have hE := fun ie e q => hs.E X C W lv hC F ie e q
  cases hn : notTup v with
  | true =>
    rw [hn] at k
    exact snd_asgT0 hs hC F (swapped_tup hn) k
  | false =>
    rw [hn] at k
    simp only [cond_false] at k
    split at k
    · rename_i vs k2 pt2 _
      cases hp : parNo vs with
      | true =>
        rw [hp] at k
        exact snd_asgT0 hs hC F (swapped_no hp) k
      | false =>
        rw [hp] at k
        simp only [cond_false] at k
        split at k
        · rename_i i j n1 p1 n2 p2 a b es
          obtain ⟨q1, k⟩ := Bool.and_eq_true_iff.mp k
          obtain ⟨q2, k⟩ := Bool.and_eq_true_iff.mp k
          obtain ⟨q3, k⟩ := Bool.and_eq_true_iff.mp k
          obtain ⟨q4, k⟩ := Bool.and_eq_true_iff.mp k
          obtain ⟨q5, k⟩ := Bool.and_eq_true_iff.mp k
          obtain ⟨q6, k⟩ := Bool.and_eq_true_iff.mp k
          obtain ⟨q7, k⟩ := Bool.and_eq_true_iff.mp k
          obtain ⟨q8, q9⟩ := Bool.and_eq_true_iff.mp k
          exact s_par F (hC.nm q1) (hC.nm q2) (nd q3) (hC.isLoc q4) (hC.isLoc q5) (snd_A hE q9) (swp2 hk (hC.isLoc q4) (hC.isLoc q5) (nd q6) (of_decide_eq_true q7) q8) (sw_sole fun z p q => by cases q)
        · rename_i i j l n1 p1 n2 p2 n3 p3 a b c es
          obtain ⟨q1, k⟩ := Bool.and_eq_true_iff.mp k
          obtain ⟨q2, k⟩ := Bool.and_eq_true_iff.mp k
          obtain ⟨q3, k⟩ := Bool.and_eq_true_iff.mp k
          obtain ⟨q4, k⟩ := Bool.and_eq_true_iff.mp k
          obtain ⟨q5, k⟩ := Bool.and_eq_true_iff.mp k
          obtain ⟨q6, k⟩ := Bool.and_eq_true_iff.mp k
          obtain ⟨q7, k⟩ := Bool.and_eq_true_iff.mp k
          obtain ⟨q8, k⟩ := Bool.and_eq_true_iff.mp k
          obtain ⟨q9, k⟩ := Bool.and_eq_true_iff.mp k
          obtain ⟨r1, k⟩ := Bool.and_eq_true_iff.mp k
          obtain ⟨r2, k⟩ := Bool.and_eq_true_iff.mp k
          obtain ⟨r3, k⟩ := Bool.and_eq_true_iff.mp k
          obtain ⟨r4, k⟩ := Bool.and_eq_true_iff.mp k
          obtain ⟨r5, k⟩ := Bool.and_eq_true_iff.mp k
          obtain ⟨r6, r7⟩ := Bool.and_eq_true_iff.mp k
          exact s_par3 F (hC.nm q1) (hC.nm q2) (hC.nm q3) (nd q4) (nd q5) (nd q6) (hC.isLoc q7) (hC.isLoc q8) (hC.isLoc q9) (snd_A hE r7) (swp3 hk (hC.isLoc q7) (hC.isLoc q8) (hC.isLoc q9) (nd r1) (nd r2) (nd r3) (of_decide_eq_true r4) (of_decide_eq_true r5) r6) (sw_sole fun z p q => by cases q)
        · cases k
    · cases k
/-! ### blocks -/
def ckB (f : ST → Stmt → Bool) : List ST → List Stmt → Bool
  | [], [] => true
  | s :: r, t :: u => f s t && ckB f r u
  | _, _ => false
theorem snd_B (hW : Flat W) {f : ST → Stmt → Bool} (h : ∀ st s, f st s = true → PS X s (tS X.K X.w T W X.N.length (ev.S st))) : ∀ {ss : List ST} {ts : List Stmt}, ckB f ss ts = true → PSs X ts (tS X.K X.w T W X.N.length (blk ev.S ss))
  | [], [], _ => ss_nil
  | s :: r, t :: u, k => by
    obtain ⟨k1, k2⟩ := Bool.and_eq_true_iff.mp (show (f s t && ckB f r u) = true from k)
    exact ss_cons hW (h s t k1) (snd_B hW h k2)
  | [], _ :: _, k => by cases k
  | _ :: _, [], k => by cases k
/-! ### all statements -/
def isNever : ST → Bool
  | .never => true
  | _ => false
def ckStepS (T : Tab) (ch : Chk) (C : Ck) (st : ST) (s : Stmt) : Bool := match st with
  | .never => true
  | .pass => (match s with
    | .Pass _ => true
    | _ => false)
  | .retN => (match s with
    | .Return none _ => true
    | _ => false)
  | .ret e => (match s with
    | .Return (some v) _ => ch.E C e v
    | _ => false)
  | .drop e => (match s with
    | .Expr v _ => noComp v && ch.E C e v
    | _ => false)
  | .ifs c a b => (match s with
    | .If t x y _ => ch.T C c t && (ckB (ch.S C) a x && ckB (ch.S C) b y)
    | _ => false)
  | .for_ t i b => (match s with
    | .For tg it body [] _ => ckI C (ch.E C) i tg it && (C.tg t tg && (notSet it && ckB (ch.S C) b body))
    | _ => false)
  | .asg (.nm i) e => (match s with
    | .Assign [.Name z p] v _ => ckAsg1 T ch C i e z p v
    | _ => false)
  | .asg (.tp is) e => (match s with
    | .Assign [.Tuple ts _ _] v _ => ckAsgT T ch C is e ts v
    | _ => false)
  | .fld o a e => (match s with
    | .Assign [.Attribute x n _] v _ => decide (n = attrS T a) && (ch.E C e v && ch.E C o x)
    | _ => false)
  | .sub o i e => (match s with
    | .Assign [.Subscript x y _] v _ => ch.E C e v && (ch.E C o x && (ch.E C i y && (plainIx y && notTup v)))
    | _ => false)
  | _ => false
theorem swapped_sub {x y : Expr} {p : Pos} {v : Expr} {env : PySem.Env} : swappedStores [.Subscript x y p] v env = pure none := by
  cases v <;> rfl
theorem snd_stepS (hs : Snd T cl ch ev) (hC : CxIs X C) (F : Fx X T W lv cl) (hW : Flat W) (hp : PassesOwn (model X.prog X.w) X.A X.env X.xe) {st : ST} {s : Stmt} (k : ckStepS T ch C st s = true) : PS X s (tS X.K X.w T W X.N.length (stepS T cl ev st)) := by
  have hE := fun ie e q => hs.E X C W lv hC F ie e q
  have hT := fun ie e q => hs.T X C W lv hC F ie e q
  have hS := fun st s q => hs.S X C W lv hC F hW hp st s q
  unfold ckStepS at k
  split at k
  · exact ⟨fun pins s σ H E I ⟨ρ, m, φ, _, _, _, h⟩ => h.elim⟩
  · split at k
    · exact s_pass
    · cases k
  · split at k
    · exact s_retN
    · cases k
  · split at k
    · exact s_ret (hE _ _ k)
    · cases k
  · split at k
    · obtain ⟨k1, k2⟩ := Bool.and_eq_true_iff.mp k
      exact s_drop (hE _ _ k2) k1
    · cases k
  · split at k
    · obtain ⟨k1, k2, k3⟩ := ba3 k
      exact s_if (hT _ _ k1) (snd_B hW hS k2) (snd_B hW hS k3)
    · cases k
  · split at k
    · obtain ⟨k1, k2, k⟩ := ba3 k
      obtain ⟨k3, k4⟩ := Bool.and_eq_true_iff.mp k
      exact s_for F hW hp (snd_I hC F hE k1) (hC.tg k2) (snd_B hW hS k4) fun x => notSet_ok k3
    · cases k
  · split at k
    · exact snd_asg1 hs hC F k
    · cases k
  · split at k
    · exact snd_asgT hs hC F k
    · cases k
  · split at k
    · obtain ⟨k1, k2, k3⟩ := ba3 k
      exact s_fld F (of_decide_eq_true k1) (hE _ _ k2) (hE _ _ k3) (sw_other fun z p q => by cases q)
    · cases k
  · split at k
    · obtain ⟨k1, k2, k⟩ := ba3 k
      obtain ⟨k3, k4, k5⟩ := ba3 k
      exact s_sub F (hE _ _ k1) (hE _ _ k2) (hE _ _ k3) (sw_sole fun z p q => by cases q) swapped_sub k4
    · cases k
  · cases k
/-! ### by fuel -/
def chk (T : Tab) : Nat → Chk
  | 0 => ⟨fun _ _ _ => false, fun _ _ _ => false, fun _ _ _ => false⟩
  | n + 1 => ⟨ckStepE T (chk T n), ckStepT T (chk T n), ckStepS T (chk T n)⟩
theorem snd_0 {T : Tab} {cl : Call} {ev : Ev} : Snd T cl (chk T 0) ev where
  E := fun _ _ _ _ _ _ _ _ h => by cases h
  T := fun _ _ _ _ _ _ _ _ h => by cases h
  S := fun _ _ _ _ _ _ _ _ _ _ h => by cases h
theorem snd_none {T : Tab} {cl : Call} {ch : Chk} : Snd T cl ch .none where
  E := fun _ _ _ _ _ _ _ _ _ => ⟨fun _ _ _ _ _ _ ⟨_, _, _, _, _, h⟩ => h.elim⟩
  T := fun _ _ _ _ _ _ _ _ _ => ⟨fun _ _ _ _ _ _ ⟨_, _, _, _, _, h⟩ => h.elim⟩
  S := fun _ _ _ _ _ _ _ _ _ _ _ => ⟨fun _ _ _ _ _ _ ⟨_, _, _, _, _, _, h⟩ => h.elim⟩
theorem snd_all {T : Tab} {cl : Call} : ∀ (n k : Nat), Snd T cl (chk T n) (evn T cl k)
  | 0, _ => snd_0
  | n + 1, 0 => snd_none
  | n + 1, k + 1 => 
    { E := fun X C W lv hC F ie e h => snd_stepE (snd_all n k) hC F h
      T := fun X C W lv hC F ie e h => snd_stepT (snd_all n k) hC F h
      S := fun X C W lv hC F hW hp st s h => snd_stepS (snd_all n k) hC F hW hp h }
end
end Pd

set_option maxHeartbeats 4000000
/-! Pd29: all functions keep their promises, level by level. -/
namespace Pd
open PySem PySem.Spec PyProof.Rows L2
/-- the parameters' names -/
def pnames (f : Fn) : List Str := (f.names.take f.np).map SS
def fnames (f : Fn) : List Str := f.names.map SS
def isFunS (sc : Scope) : Bool := match sc.kind with
  | .function => true
  | _ => false
def lcB (sc : Scope) (x : Str) : Bool := match sc.names.lookup x with
  | some .local => true
  | some .cell => true
  | _ => false
def notFree : NameKind → Bool
  | .free => false
  | _ => true
/-- the shape of a def's scope -/
def scopeOk (f : Fn) (sc : Scope) : Bool := isFunS sc && (!sc.isCoroutine && (!sc.isGenerator && (decide (fnames f).Nodup && ((pnames f).all (lcB sc) && (sc.names.all (fun y => notFree y.2) && Nat.ble f.np f.names.length)))))
theorem scopeOk_ok {f : Fn} {sc : Scope} (h : scopeOk f sc = true) : FnScope (fnames f) (pnames f) sc ∧ f.np ≤ f.names.length := by
  obtain ⟨h1, h2, h⟩ := ba3 h
  obtain ⟨h3, h4, h⟩ := ba3 h
  obtain ⟨h5, h6, h7⟩ := ba3 h
  have hk : sc.kind = .function := by
    unfold isFunS at h1
    split at h1
    · assumption
    · cases h1
  refine ⟨⟨hk, nb h2, nb h3, of_decide_eq_true h4, ?_, fun x hx => ?_, fun y hy e => ?_⟩, Nat.le_of_ble_eq_true h7⟩
  · unfold fnames pnames
    rw [List.length_map, List.length_take, Nat.min_eq_left (Nat.le_of_ble_eq_true h7), ← List.map_take]
  · have q := List.all_eq_true.mp h5 x hx
    unfold lcB at q
    split at q
    · rename_i e; exact .inl e
    · rename_i e; exact .inr e
    · cases q
  · have q := List.all_eq_true.mp h6 y hy
    rw [e] at q
    cases q
/-- a def's text against its function -/
def nodeOk (T : Tab) (n : Nat) (f : Fn) (sc : Scope) (body : List Stmt) : Bool := scopeOk f sc && ckB ((chk T n).S ⟨fnames f, sc, fun _ => true⟩) f.body body
theorem EnvR.start {K : PySem.W.Frag} {w : World} {T : Tab} {H : Hp} {φ : Foot} {N : List Str} {l : List D} {vs : List V} (r : Rels K w T H φ l vs) (n : Nat) : EnvR K w T H φ (l.map some ++ List.replicate n none) (L2.start N vs) := by
  intro i d h
  have hl : i < l.length := by
    by_cases q : i < l.length
    · exact q
    · rw [List.getElem?_append_right (by simpa using Nat.le_of_not_lt q)] at h
      rw [List.getElem?_replicate] at h
      split at h <;> cases h
  rw [List.getElem?_append_left (by simpa using hl), List.getElem?_map] at h
  cases e : l[i]? with
  | none =>
    rw [e] at h
    cases h
  | some d' =>
    rw [e] at h
    cases h
    obtain ⟨v, e1, r1⟩ := r.get e
    refine ⟨v, ?_, r1⟩
    unfold L2.start
    have hv : i < (vs.map some).length := by
      rw [List.length_map, ← r.length]
      exact hl
    rw [List.getElem?_append_left hv, List.getElem?_map, e1]
    rfl
section
variable {P : Program} {w : World} {K : PySem.W.Frag} {mg : Str → Option Value} {base : Heap} {T : Tab}
/-- what is asked of a def on all its arguments -/
def spAll (K : PySem.W.Frag) (w : World) (T : Tab) (cl : Call) (i : Nat) (np : Nat) : Sp := fun vs H Q E => vs.length = np ∧ ∃ l m φ, Rels K w T H φ l vs ∧ Sim K w T H φ m ∧
  Post K w T (fun c d _ H => E c d H) [] H φ (cl i l m) fun d m' H' φ' => ∀ v, Rel K w T H' φ' d v → Q v H'
theorem fn_step {x qual : Str} {params : Arguments} {body : List Stmt} {sc : Scope} {dvs : List V} {kws : List (Str × V)} {fd : FuncData} {n k i : Nat} {f : Fn} (tb : TabOk K w mg T)
    (ih : ∀ i, FnR P w K mg base (L2.CX P w) (10 * k) (fnA K T i) (spF K w T (runF T k) i)) (hf : T.fns[i]? = some f) (F : FunD K x qual params body sc dvs kws (fnA K T i) fd) (hn : nodeOk T n f sc body = true) :
    FnOk P w K mg base (L2.CX P w) (10 * (k + 1)) (fnA K T i) fd (pnames f) (spAll K w T (runF T (k + 1)) i f.np) := by
  obtain ⟨h1, h2⟩ := Bool.and_eq_true_iff.mp hn
  obtain ⟨S, hnp⟩ := scopeOk_ok h1
  have hpl : (pnames f).length = f.np := by
    unfold pnames
    rw [List.length_map, List.length_take, Nat.min_eq_left hnp]
  refine F.ok (k := 10 * k + 9) S (fun vs H Q E h => by rw [hpl]; exact h.1) fun cdv A outer s H vs Q E hr h => ?_
  obtain ⟨hl, l, m, φ, rl, Sm, hp⟩ := h
  have hX : CxIs (cxOf (L2.CX P w) P w K mg base (fnames f) qual sc (fnA K T i) cdv A outer s H E) ⟨fnames f, sc, fun _ => true⟩ := ⟨rfl, rfl, rfl⟩
  have FX : Fx (cxOf (L2.CX P w) P w K mg base (fnames f) qual sc (fnA K T i) cdv A outer s H E) T (fun c d _ H => E c d H) (10 * k) (runF T k) :=
    ⟨S.nd, rfl, hr, takes_of rfl rfl rfl rfl, ih, tb⟩
  have hflat : Flat (fun c d _ H => E c d H) := fun _ _ _ _ _ h => h
  have hb := snd_B (X := cxOf (L2.CX P w) P w K mg base (fnames f) qual sc (fnA K T i) cdv A outer s H E) (T := T) (W := fun c d _ H => E c d H) (ev := evn T (runF T k) fuel) hflat
    (fun st s' q => (snd_all n fuel).S _ _ _ (10 * k) hX FX hflat (passes_of rfl) st s' q) h2
  refine ⟨_, hb, l.map some ++ List.replicate (f.names.length - l.length) none, m, φ, ?_, EnvR.start rl _, Sm, ?_⟩
  · show (L2.start (fnames f) vs).length = (fnames f).length
    unfold L2.start
    rw [List.length_append, List.length_map, List.length_replicate, hl]
    have : (fnames f).length = f.names.length := by
      unfold fnames
      rw [List.length_map]
    omega
  · have hp : Post K w T (fun c d _ H => E c d H) [] H φ ((blk (evn T (runF T k) fuel).S f.body (l.map some ++ List.replicate (f.names.length - l.length) none) m).bind fun o m => (match o with
        | (some d, _) => .ok d m
        | (none, _) => .ok .non m)) fun d m' H' φ' => ∀ v, Rel K w T H' φ' d v → Q v H' := by
      have e : runF T (k + 1) i l m = ((blk (evn T (runF T k) fuel).S f.body (l.map some ++ List.replicate (f.names.length - l.length) none) m).bind fun o m => (match o with
        | (some d, _) => .ok d m
        | (none, _) => .ok .non m)) := by
        simp only [runF, hf]
        try rfl
      rw [← e]
      exact hp
    refine Post.flat (X := cxOf (L2.CX P w) P w K mg base (fnames f) qual sc (fnA K T i) cdv A outer s H E) (σ := []) hflat (hp.bind.mono (Ext.refl _ _) fun o m1 H1 φ1 e1 S1 q => ?_)
    obtain ⟨od, ρ⟩ := o
    cases od with
    | some d => exact fun v r => Post.here S1 q v r
    | none => exact fun _ σ' _ _ => Post.here S1 q _ .non
/-- what the head tells of a def -/
structure FnFact (K : PySem.W.Frag) (w : World) (T : Tab) (i : Nat) (f : Fn) : Prop where
  ex : ∃ (n : Nat) (x qual : Str) (params : Arguments) (body : List Stmt) (sc : Scope) (dvs : List V) (kws : List (Str × V)) (fd : FuncData), FunD K x qual params body sc dvs kws (fnA K T i) fd ∧ nodeOk T n f sc body = true ∧
    ∀ m ≤ f.np, f.np ≤ m + f.dfl.length → ∃ ws ds, Vals ws ds ∧ Binds K fd (pnames f) ds ∧ ∀ H φ, Rels K w T H φ (f.dfl.drop (f.dfl.length - (f.np - m))) ws
theorem fns_ok (tb : TabOk K w mg T) (hf : ∀ i f, T.fns[i]? = some f → FnFact K w T i f) : ∀ k i, FnR P w K mg base (L2.CX P w) (10 * k) (fnA K T i) (spF K w T (runF T k) i)
  | 0, i => fun A outer s H us vs Q E hr e0 rv hs => by
    obtain ⟨ds, l, m, φ, f, _, _, _, _, h⟩ := hs
    exact h.elim
  | k + 1, i => fun A outer s H us vs Q E hr e0 rv hs => by
    obtain ⟨ds, l, m, φ, f, hi, rd, Sm, hd, h⟩ := hs
    obtain ⟨n, x, qual, params, body, sc, dvs, kws, fd, F, hn, hb⟩ := (hf i f hi).ex
    have ok := fn_step tb (fns_ok tb hf k) hi F hn
    have hd2 : (bif Nat.beq (ds ++ f.dfl.drop (f.dfl.length - (f.np - ds.length))).length f.np then some (ds ++ f.dfl.drop (f.dfl.length - (f.np - ds.length))) else none) = some l := hd
    cases e : Nat.beq (ds ++ f.dfl.drop (f.dfl.length - (f.np - ds.length))).length f.np with
    | false =>
      rw [e] at hd2
      cases hd2
    | true =>
      rw [e] at hd2
      cases hd2
      have e := Nat.eq_of_beq_eq_true e
      rw [List.length_append, List.length_drop] at e
      obtain ⟨ws, ys, rw_, bd, rr⟩ := hb ds.length (by omega) (by omega)
      refine ok.raw bd rw_ A outer s H us vs Q E hr e0 rv ?_
      have rl := rd.append (rr H φ)
      refine ⟨?_, _, m, φ, rl, Sm, h⟩
      rw [← rl.length, List.length_append, List.length_drop]
      exact e
end
/-! ### binding without defaults -/
theorem lookup_zip : ∀ {ps : List Str} {us : List Value} {n : Str}, n ∈ ps → ps.length = us.length → ∃ u, (ps.zip us).lookup n = some u
  | p :: ps, u :: us, n, h, hl => by
    by_cases e : n = p
    · subst e
      exact ⟨u, by simp⟩
    · have hb : (n == p) = false := by simpa using e
      obtain ⟨v, hv⟩ := lookup_zip ((List.mem_cons.mp h).resolve_left e) (by simpa using hl)
      exact ⟨v, by rw [List.zip_cons_cons, List.lookup_cons, hb]; exact hv⟩
  | _ :: _, [], _, _, hl => by simp at hl
  | [], _, _, h, _ => by cases h
theorem filterMap_zip : ∀ {ps : List Str} {us : List Value} {f : Str → Option Value}, ps.length = us.length → (∀ (i : Nat) (p : Str) (u : Value), ps[i]? = some p → us[i]? = some u → f p = some u) → ps.filterMap (fun n => (f n).map fun v => (n, v)) = ps.zip us
  | [], [], _, _, _ => rfl
  | p :: ps, u :: us, f, hl, h => by
    rw [List.filterMap_cons, h 0 p u rfl rfl, List.zip_cons_cons]
    show (p, u) :: _ = _
    rw [filterMap_zip (by simpa using hl) fun i q v a b => h (i + 1) q v a b]
  | [], _ :: _, _, hl, _ => by simp at hl
  | _ :: _, [], _, hl, _ => by simp at hl
theorem lookup_at : ∀ {ps : List Str} {us : List Value} (i : Nat) (p : Str) (u : Value), ps.Nodup → ps[i]? = some p → us[i]? = some u → (ps.zip us).lookup p = some u
  | [], _, _, _, _, _, h, _ => by cases h
  | _ :: _, [], _, _, _, _, _, h => by cases h
  | q :: ps, v :: us, 0, p, u, nd, h1, h2 => by
    cases h1
    cases h2
    rw [List.zip_cons_cons, List.lookup_cons]
    simp
  | q :: ps, v :: us, i + 1, p, u, nd, h1, h2 => by
    have hp : p ∈ ps := List.mem_of_getElem? (show ps[i]? = some p from h1)
    have hb : (p == q) = false := by
      have : p ≠ q := fun e => (List.nodup_cons.mp nd).1 (e ▸ hp)
      simpa using this
    rw [List.zip_cons_cons, List.lookup_cons, hb]
    exact lookup_at i p u (List.nodup_cons.mp nd).2 h1 h2
theorem bind_plain {x qual : Str} {args : List Arg} {ds : List Expr} {body : List Stmt} {scope : Scope} {kV doc pm : Value} {an : Option Addr} {cdv ct : Value} {us : List Value} (nd : (args.map (·.arg)).Nodup) (hl : us.length = (args.map (·.arg)).length) :
    bindArgs (PySem.W.fnOf x qual ⟨[], args, none, [], [], none, ds⟩ body scope .none kV doc pm an cdv ct) ⟨us, []⟩ = pure ((args.map (·.arg)).zip us) := by
  have h1 : ((args.map (·.arg)).filter fun n => ((((args.map (·.arg)).zip us).lookup n).isNone)) = [] := by
    rw [List.filter_eq_nil_iff]
    intro n hn
    obtain ⟨u, hu⟩ := lookup_zip hn hl.symm
    rw [hu]
    simp
  have h2 := filterMap_zip (ps := args.map (·.arg)) (us := us) (f := fun n => ((args.map (·.arg)).zip us).lookup n) hl.symm fun i p u a b => lookup_at i p u nd a b
  have hl2 : us.length = args.length := by simpa using hl
  have h1 : ((args.map (·.arg)).take args.length).filter (fun n => ((((args.map (·.arg)).zip us).lookup n).isNone)) = [] := by
    rw [show args.length = (args.map (·.arg)).length by simp, List.take_length]
    exact h1
  unfold bindArgs
  simp only [PySem.W.fnOf]
  simp [seqItems?, notAStandIn, hl2]
  have e2 : List.filterMap ((fun n => Option.map (fun x => (n, x)) (List.lookup n ((List.map (fun x => x.arg) args).zip us))) ∘ fun x => x.arg) args = (List.map (fun x => x.arg) args).zip us := by
    rw [← List.filterMap_map]
    exact h2
  rw [e2, if_neg]
  simp [h1]
end Pd

set_option maxHeartbeats 4000000
/-! Pd30: the facts of the top, looked at by a Bool. -/
namespace Pd
open PySem PySem.Spec PyProof.Rows L2
section
variable {K : PySem.W.Frag} {w : World} {T : Tab} {mg : Str → Option Value} {h : Heap}
/-! ### constants -/
def flatB : Value → D → Bool
  | .none, .non => true
  | .bool b, .bl c => b == c
  | .int j _, .int i => decide (j = i)
  | .str y _, .str s => decide (y = SS s)
  | _, _ => false
def flatV : D → V
  | .bl b => .bl b
  | .int i => .int i
  | .str s => .str (SS s)
  | _ => .non
theorem flatB_ok {u : Value} {d : D} (e : flatB u d = true) : RelV (flatV d) u ∧ ∀ H φ, Rel K w T H φ d (flatV d) := by
  unfold flatB at e
  split at e
  · exact ⟨rfl, fun _ _ => .non⟩
  · cases eq_of_beq e
    exact ⟨rfl, fun _ _ => .bl _⟩
  · cases of_decide_eq_true e
    exact ⟨⟨_, rfl⟩, fun _ _ => .int _⟩
  · cases of_decide_eq_true e
    exact ⟨⟨_, rfl⟩, fun _ _ => .str _⟩
  · cases e
def flatBs : List Value → List D → Bool
  | [], [] => true
  | u :: us, d :: ds => flatB u d && flatBs us ds
  | _, _ => false
theorem flatBs_ok : ∀ {us : List Value} {ds : List D}, flatBs us ds = true → Vals (ds.map flatV) us ∧ ∀ H φ, Rels K w T H φ ds (ds.map flatV)
  | [], [], _ => ⟨.nil, fun _ _ => .nil⟩
  | u :: us, d :: ds, e => by
    obtain ⟨e1, e2⟩ := Bool.and_eq_true_iff.mp (show (flatB u d && flatBs us ds) = true from e)
    obtain ⟨a1, a2⟩ := flatB_ok (K := K) (w := w) (T := T) e1
    obtain ⟨b1, b2⟩ := flatBs_ok (us := us) (ds := ds) e2
    exact ⟨.cons a1 b1, fun H φ => .cons (a2 H φ) (b2 H φ)⟩
  | [], _ :: _, e => by cases e
  | _ :: _, [], e => by cases e
/-- a tuple of the top: its items -/
def tupIt (K : PySem.W.Frag) (p : Addr) : Option (List Value) := match K.lookup p with
  | some ⟨.type c, _, .seq its _, _⟩ => bif decide (c = "tuple") && decide (its.size ≤ sizeLine) then some its.toList else none
  | _ => none
theorem tupIt_ok {p : Addr} {us : List Value} (e : tupIt K p = some us) : ∃ (o : Obj) (its : Array Value) (n : Nat), K.lookup p = some o ∧ o.cls = .type "tuple" ∧ o.data = .seq its n ∧ its.size ≤ sizeLine ∧ its.toList = us := by
  unfold tupIt at e
  split at e
  · rename_i c od its n osl q
    cases z : decide (c = "tuple") && decide (its.size ≤ sizeLine) with
    | false =>
      rw [z] at e
      cases e
    | true =>
      rw [z] at e
      cases e
      obtain ⟨z1, z2⟩ := Bool.and_eq_true_iff.mp z
      exact ⟨_, its, n, q, congrArg Value.type (of_decide_eq_true z1), rfl, of_decide_eq_true z2, rfl⟩
  · cases e
/-! ### dicts of the top -/
def entB : List DictEntry → List (D × D) → Bool
  | [], [] => true
  | ⟨_, .str k _, .str v _⟩ :: es, (.str a, .str b) :: ds => decide (k = SS a) && (decide (v = SS b) && entB es ds)
  | _, _ => false
theorem SS_inj {a b : List Nat} (h : SS a = SS b) : a = b := by
  have : (SS a).cps.toList = (SS b).cps.toList := by rw [h]
  exact this
theorem entB_ok : ∀ {es : List DictEntry} {ds : List (D × D)}, entB es ds = true → (es.any (·.refKey)) = false ∧ ∀ z : List Nat, (match dget ds (.str z) with
    | some (.str y) => ∃ e t, es.find? (·.key.isStr (SS z)) = some e ∧ e.val = .str (SS y) t
    | some _ => False
    | none => es.find? (·.key.isStr (SS z)) = none)
  | [], [], _ => ⟨rfl, fun _ => rfl⟩
  | e0 :: es, d :: ds, k => by
    unfold entB at k
    split at k
    · rename_i h1 h2
      cases h1
    · rename_i hh ks t v tv es' a b ds' h1 h2
      cases h1
      cases h2
      obtain ⟨k1, k2, k3⟩ := ba3 k
      obtain ⟨i1, i2⟩ := entB_ok k3
      cases of_decide_eq_true k1
      cases of_decide_eq_true k2
      refine ⟨?_, fun z => ?_⟩
      · rw [List.any_cons, i1]
        rfl
      · have i2 := i2 z
        show (match (bif D.beq (.str a) (.str z) then some (D.str b) else dget ds (.str z)) with
          | some (.str y) => ∃ e t, (_ :: es).find? (·.key.isStr (SS z)) = some e ∧ e.val = .str (SS y) t
          | some _ => False
          | none => (_ :: es).find? (·.key.isStr (SS z)) = none)
        have pe : ((⟨hh, .str (SS a) t, .str (SS b) tv⟩ : DictEntry).key.isStr (SS z)) = decide (a = z) := by
          show (SS a == SS z) = decide (a = z)
          by_cases e : a = z
          · subst e
            simp
          · rw [decide_eq_false e]
            exact beq_eq_false_iff_ne.mpr fun q => e (SS_inj q)
        have pb : D.beq (.str a) (.str z) = decide (a = z) := by
          show (a == z) = decide (a = z)
          by_cases e : a = z
          · subst e
            simp
          · rw [decide_eq_false e]
            simpa using e
        rw [pb]
        simp only [List.find?_cons, pe]
        by_cases e : a = z
        · subst e
          simp only [decide_true, cond_true]
          exact ⟨_, _, rfl, rfl⟩
        · rw [decide_eq_false e]
          exact i2
    · cases k
  | [], _ :: _, k => by cases k
  | _ :: _, [], k => by
    unfold entB at k
    split at k
    · rename_i h1 h2; cases h1
    · rename_i h1 h2; cases h2
    · cases k
def dicEs (K : PySem.W.Frag) (p : Addr) : Option (List DictEntry) := match K.lookup p with
  | some ⟨.type c, none, .dict es _, sl⟩ => bif decide (c = "dict") && sl.isEmpty then some es.toList else none
  | _ => none
theorem dicEs_ok {p : Addr} {l : List DictEntry} (e : dicEs K p = some l) : ∃ es n, K.lookup p = some ⟨.type "dict", none, .dict es n, #[]⟩ ∧ es.toList = l := by
  unfold dicEs at e
  split at e
  · rename_i c es n sl q
    cases z : decide (c = "dict") && sl.isEmpty with
    | false =>
      rw [z] at e
      cases e
    | true =>
      rw [z] at e
      cases e
      obtain ⟨z1, z2⟩ := Bool.and_eq_true_iff.mp z
      cases of_decide_eq_true z1
      cases Array.isEmpty_iff.mp z2
      exact ⟨es, n, q, rfl⟩
  · cases e
theorem wdS_of {p : Addr} {kvs : List (D × D)} {ks : List Str} {l : List DictEntry} (h1 : He.dicW K p = some (He.keysIn w.params ks)) (h2 : dicEs K p = some l) (h3 : entB l kvs = true) (h4 : strKeys kvs = true) : WDict K w p kvs := by
  obtain ⟨es, n, D1⟩ := He.dicW_ok h1
  obtain ⟨es', n', q, e⟩ := dicEs_ok h2
  have q2 := D1.at_
  rw [q] at q2
  cases q2
  subst e
  obtain ⟨i1, i2⟩ := entB_ok h3
  refine ⟨h4, D1.low, fun z => ?_⟩
  have i2 := i2 z
  have hns : ∀ r, (match es.toList.find? (·.key.isStr (SS z)) with
      | some e => some (some e.val)
      | none => if es.toList.any (·.refKey) then none else some none) = r → PySem.W.nsIn K p (SS z) = r := fun r hr => by
    unfold PySem.W.nsIn
    rw [q]
    exact hr
  cases ed : dget kvs (.str z) with
  | none =>
    rw [ed] at i2
    have i2 : es.toList.find? (·.key.isStr (SS z)) = none := i2
    exact ⟨es, _, q, D1.lit, D1.low, hns _ (by rw [i2, i1]; rfl)⟩
  | some y =>
    rw [ed] at i2
    cases y with
    | str y =>
      obtain ⟨e, t, a, b⟩ := i2
      exact ⟨es, _, e.val, q, D1.lit, hns _ (by rw [a]), by rw [b]; exact ⟨_, rfl⟩⟩
    | _ => exact i2
/-! ### dicts of the top whose keys are rows of bools -/
def bKey (bs : List Bool) : NestedKey := .tup (bs.map fun b => .num (if b = true then 1 else 0))
def bHash (bs : List Bool) : Int := reduceHash (Builtin.Tuple.tupleHashOf (bs.map fun b => hashInt (if b = true then 1 else 0)))
theorem bHash_eq (w : World) (bs : List Bool) : (bKey bs).hash w = bHash bs := by
  unfold bKey bHash
  simp only [NestedKey.hash]
  congr 2
  induction bs with
  | nil => rfl
  | cons b bs ih => simp only [List.map_cons, NestedKey.hashes, NestedKey.hash, ih]
def isBls : List Value → List Bool → Bool
  | [], [] => true
  | .bool b :: vs, c :: cs => (b == c) && isBls vs cs
  | _, _ => false
theorem isBls_ok {h : Heap} : ∀ {vs : List Value} {bs : List Bool}, isBls vs bs = true → NestedAll h (bs.map fun b => .num (if b = true then 1 else 0)) vs
  | [], [], _ => .nil
  | v :: vs, c :: cs, e => by
    unfold isBls at e
    split at e
    · rename_i a b; cases a
    · rename_i b vs' c' cs' a1 a2
      cases a1
      cases a2
      obtain ⟨e1, e2⟩ := Bool.and_eq_true_iff.mp e
      cases eq_of_beq e1
      exact .cons (.bool rfl) (isBls_ok e2)
    · cases e
  | [], _ :: _, e => by cases e
  | _ :: _, [], e => by
    unfold isBls at e
    split at e
    · rename_i a b; cases a
    · rename_i a b; cases b
    · cases e
def blsD : List D → Option (List Bool) := blsOf
/-- entries against a table: (bools, text) -/
def entT (K : PySem.W.Frag) : List DictEntry → List (List Bool × List Nat) → Bool
  | [], [] => true
  | ⟨hh, .ref t, .str v _⟩ :: es, (bs, y) :: ds => decide (hh = bHash bs) && (decide (v = SS y) && ((match tupIt K t with
    | some its => isBls its bs
    | none => false) && entT K es ds))
  | _, _ => false
theorem entT_ok (w : World) (prog : Program) : ∀ {es : List DictEntry} {ds : List (List Bool × List Nat)}, entT K es ds = true →
    ∃ xs : List (NestedKey × Addr × Value), es = xs.map (entryOfKey (nestedKind prog w)) ∧ xs.map (·.1) = ds.map (fun d => bKey d.1) ∧ (∀ h : Heap, K.In h → ∀ x ∈ xs, (∃ bs, x.1 = bKey bs) ∧ NestedIs h x.1 (.ref x.2.1)) ∧
      ∀ (i : Nat) x d, xs[i]? = some x → ds[i]? = some d → ∃ t, x.2.2 = .str (SS d.2) t
  | [], [], _ => ⟨[], rfl, rfl, fun _ _ x hx => (by cases hx), fun _ _ _ hx => (by cases hx)⟩
  | e0 :: es, d0 :: ds, k => by
    unfold entT at k
    split at k
    · rename_i a b; cases a
    · rename_i hh t v tv es' bs y ds' a1 a2
      cases a1
      cases a2
      obtain ⟨k1, k2, k⟩ := ba3 k
      obtain ⟨k3, k4⟩ := Bool.and_eq_true_iff.mp k
      obtain ⟨xs, i1, i2, i3, i4⟩ := entT_ok w prog k4
      cases of_decide_eq_true k1
      cases of_decide_eq_true k2
      refine ⟨(bKey bs, t, .str (SS y) tv) :: xs, ?_, ?_, fun h hK x hx => ?_, fun i x d hx hd => ?_⟩
      · rw [List.map_cons, ← i1]
        congr 1
        show _ = DictEntry.mk ((bKey bs).hash w) _ _
        rw [bHash_eq]
      · rw [List.map_cons, List.map_cons, i2]
      · rcases List.mem_cons.mp hx with rfl | hx
        · refine ⟨⟨bs, rfl⟩, ?_⟩
          split at k3
          · rename_i its e
            obtain ⟨o, ar, n, q1, q2, q3, q4, q5⟩ := tupIt_ok e
            exact .tup (hK _ _ q1) q2 q3 (by rw [q5]; exact isBls_ok k3)
          · cases k3
        · exact i3 h hK x hx
      · cases i with
        | zero =>
          cases hx
          cases hd
          exact ⟨tv, rfl⟩
        | succ i => exact i4 i x d hx hd
    · cases k
  | [], _ :: _, k => by cases k
  | _ :: _, [], k => by
    unfold entT at k
    split at k
    · rename_i a b; cases a
    · rename_i a b; cases b
    · cases k
def rowT : List (D × D) → Option (List (List Bool × List Nat))
  | [] => some []
  | (.tup bs, .str y) :: r => (match blsOf bs, rowT r with
    | some b, some t => some ((b, y) :: t)
    | _, _ => none)
  | _ => none
theorem blsOf_map : ∀ {xs : List D} {bs : List Bool}, blsOf xs = some bs → xs = bs.map .bl
  | [], bs, h => by cases h; rfl
  | x :: xs, bs, h => by
    cases x with
    | bl b =>
      have h : (blsOf xs).map (b :: ·) = some bs := h
      cases e : blsOf xs with
      | none =>
        rw [e] at h
        cases h
      | some r =>
        rw [e] at h
        cases h
        rw [blsOf_map e]
        rfl
    | _ => cases h
theorem beqs_bl : ∀ (a b : List Bool), D.beqs (a.map .bl) (b.map .bl) = decide (a = b)
  | [], [] => rfl
  | [], _ :: _ => rfl
  | _ :: _, [] => rfl
  | x :: a, y :: b => by
    show ((x == y) && D.beqs (a.map .bl) (b.map .bl)) = _
    rw [beqs_bl a b]
    by_cases e1 : x = y
    · subst e1
      by_cases e2 : a = b
      · subst e2; simp
      · rw [decide_eq_false e2, decide_eq_false (fun z => e2 (List.cons.inj z).2)]; simp
    · rw [decide_eq_false (fun z => e1 (List.cons.inj z).1), show (x == y) = false by simpa using e1]; rfl
theorem rowT_ok : ∀ {kvs : List (D × D)} {ds : List (List Bool × List Nat)}, rowT kvs = some ds → (kvs.all fun kv => blTup kv.1) = true ∧ ∀ bs : List Bool, match dget kvs (.tup (bs.map .bl)) with
    | some (.str y) => ∃ i : Nat, ds[i]? = some (bs, y) ∧ ∀ j < i, ∀ q, ds[j]? = some q → q.1 ≠ bs
    | some _ => False
    | none => True
  | [], ds, _ => ⟨rfl, fun _ => trivial⟩
  | (k, v) :: r, ds, h => by
    unfold rowT at h
    split at h
    · rename_i a; cases a
    · rename_i bs0 y r' a
      cases a
      split at h
      · rename_i b t e1 e2
        cases h
        obtain ⟨i1, i2⟩ := rowT_ok e2
        have eb := blsOf_map e1
        subst eb
        refine ⟨?_, fun bs => ?_⟩
        · rw [List.all_cons, i1]
          show ((b.map D.bl).all isBlD && true) = true
          rw [Bool.and_true, List.all_map]
          exact List.all_eq_true.mpr fun x _ => rfl
        · have i2 := i2 bs
          show (match (bif D.beqs (b.map .bl) (bs.map .bl) then some (D.str y) else dget r (.tup (bs.map .bl))) with
            | some (.str y') => ∃ i : Nat, ((b, y) :: t)[i]? = some (bs, y') ∧ ∀ j < i, ∀ q, ((b, y) :: t)[j]? = some q → q.1 ≠ bs
            | some _ => False
            | none => True)
          rw [beqs_bl]
          by_cases e : b = bs
          · subst e
            rw [decide_eq_true rfl]
            exact ⟨0, rfl, fun j hj => absurd hj (Nat.not_lt_zero _)⟩
          · rw [decide_eq_false e]
            cases ed : dget r (.tup (bs.map .bl)) with
            | none => trivial
            | some z =>
              rw [ed] at i2
              cases z with
              | str z =>
                obtain ⟨i, a1, a2⟩ := i2
                refine ⟨i + 1, a1, fun j hj q hq => ?_⟩
                cases j with
                | zero =>
                  cases hq
                  exact e
                | succ j => exact a2 j (by omega) q hq
              | _ => exact i2
      · cases h
    · cases h
theorem bKeys_inj : ∀ {a b : List Bool}, (a.map fun b => NestedKey.num (if b = true then 1 else 0)) = (b.map fun b => NestedKey.num (if b = true then 1 else 0)) → a = b
  | [], [], _ => rfl
  | [], _ :: _, h => by cases h
  | _ :: _, [], h => by cases h
  | x :: a, y :: b, h => by
    obtain ⟨h1, h2⟩ := List.cons.inj h
    rw [bKeys_inj h2]
    have h1 := NestedKey.num.inj h1
    cases x <;> cases y <;> first | rfl | cases h1
theorem bKey_inj {a b : List Bool} (h : bKey a = bKey b) : a = b := bKeys_inj (NestedKey.tup.inj h)
/-- what a row of bools is, as a key -/
theorem bls_nested {h : Heap} : ∀ {bs : List Bool} {its : List Value}, Vals (bs.map .bl) its → NestedAll h (bs.map fun b => .num (if b = true then 1 else 0)) its
  | [], _, r => by cases r; exact .nil
  | b :: bs, _, r => by
    cases r with
    | cons r1 r2 =>
      cases r1
      exact .cons (.bool rfl) (bls_nested r2)
theorem bKey_depth (bs : List Bool) : (bKey bs).depth ≤ 8 := by
  have : NestedKey.depthAll (bs.map fun b => NestedKey.num (if b = true then 1 else 0)) = 0 := by
    induction bs with
    | nil => rfl
    | cons b bs ih =>
      rw [List.map_cons, NestedKey.depthAll, ih]
      rfl
  unfold bKey
  rw [NestedKey.depth, this]
  decide
def distB : List (List Bool × List Nat) → Bool
  | [] => true
  | x :: r => r.all (fun y => !decide (y.1 = x.1)) && distB r
theorem distB_ok : ∀ {ds : List (List Bool × List Nat)}, distB ds = true → (ds.map (fun d => bKey d.1)).Nodup
  | [], _ => List.nodup_nil
  | x :: r, h => by
    obtain ⟨h1, h2⟩ := Bool.and_eq_true_iff.mp (show (r.all (fun y => !decide (y.1 = x.1)) && distB r) = true from h)
    rw [List.map_cons, List.nodup_cons]
    refine ⟨fun q => ?_, distB_ok h2⟩
    obtain ⟨y, hy, e⟩ := List.mem_map.mp q
    exact nd (List.all_eq_true.mp h1 y hy) (bKey_inj e)
theorem atKey_of : ∀ {xs : List (NestedKey × Addr × Value)} {k : NestedKey} {i : Nat} {x : NestedKey × Addr × Value}, (xs.map (·.1)).Nodup → xs[i]? = some x → x.1 = k → atKey xs k = some x.2
  | [], _, _, _, _, h, _ => by cases h
  | y :: r, k, 0, x, _, h, e => by
    cases h
    unfold atKey
    rw [List.find?_cons, decide_eq_true e]
    rfl
  | y :: r, k, i + 1, x, n, h, e => by
    have h : r[i]? = some x := h
    have hx : x ∈ r := List.mem_of_getElem? h
    obtain ⟨n1, n2⟩ := List.nodup_cons.mp (show (y.1 :: r.map (·.1)).Nodup from n)
    have hne : ¬ y.1 = k := fun q => n1 (by rw [q, ← e]; exact List.mem_map.mpr ⟨x, hx, rfl⟩)
    have ih := atKey_of n2 h e
    unfold atKey at ih ⊢
    rw [List.find?_cons, decide_eq_false hne]
    exact ih
theorem wdB_of {p : Addr} {kvs : List (D × D)} {l : List DictEntry} {ds : List (List Bool × List Nat)} (h1 : dicEs K p = some l) (h2 : rowT kvs = some ds) (h3 : entT K l ds = true) (h4 : distB ds = true) : WDictB K w p kvs := by
  obtain ⟨es, n, q, e⟩ := dicEs_ok h1
  subst e
  obtain ⟨r1, r2⟩ := rowT_ok h2
  refine ⟨r1, ⟨_, q, rfl, rfl⟩, fun bs => ?_⟩
  have r2 := r2 bs
  cases ed : dget kvs (.tup (bs.map .bl)) with
  | none => trivial
  | some z =>
    rw [ed] at r2
    cases z with
    | str y =>
      obtain ⟨i, a1, a2⟩ := r2
      intro X pins σ H s a Q eK ew hu I hs hq
      subst eK ew
      obtain ⟨xs, x1, x2, x3, x4⟩ := entT_ok X.w X.prog h3
      have hnd : (xs.map (·.1)).Nodup := by
        rw [x2]
        exact distB_ok h4
      have hxi : ∃ x, xs[i]? = some x ∧ x.1 = bKey bs := by
        have q2 : (xs.map (·.1))[i]? = (ds.map fun d => bKey d.1)[i]? := by rw [x2]
        rw [List.getElem?_map, List.getElem?_map, a1] at q2
        cases ex : xs[i]? with
        | none =>
          rw [ex] at q2
          cases q2
        | some x =>
          rw [ex] at q2
          exact ⟨x, rfl, Option.some.inj q2⟩
      obtain ⟨x, ex, ek⟩ := hxi
      obtain ⟨t, et⟩ := x4 i x _ ex a1
      obtain ⟨its, rv, ⟨o, o1, o2, n2, o3⟩, _⟩ := I.tuple hs
      have hkey : (nestedKind X.prog X.w).is s.heap (bKey bs) a := ⟨.tup o1 o2 o3 (bls_nested (by simpa using rv)), bKey_depth bs⟩
      have hD : s.heap.DictOfH (nestedKind X.prog X.w) p xs := ⟨_, es, n, I.kIn _ _ q, ⟨rfl, rfl, rfl⟩, rfl, x1, fun x hx => ⟨(x3 s.heap I.kIn x hx).2, by
        obtain ⟨b, e⟩ := (x3 s.heap I.kIn x hx).1
        rw [e]
        exact bKey_depth b⟩, hnd⟩
      refine wpAny_getItem_heap (knd := nestedKind X.prog X.w) (by show X.A.in1.units + 8 < cLine; simp only [Around.in1_units]; omega) hkey hD (atKey_of hnd ex ek) ?_
      rw [et]
      exact hq _ t (I.tok _)
    | _ => exact r2
end
end Pd

set_option maxHeartbeats 4000000
/-! Pd31: the facts of the top, all of them. -/
namespace Pd
open PySem PySem.Spec PyProof.Rows L2
def keyS : D → Str
  | .str s => SS s
  | _ => SS []
/-- the top's tables with text keys -/
def tabsOf : List (List Nat × GV) → List He.Tab
  | [] => []
  | (x, .c (.wd kvs)) :: r => bif strKeys kvs then (fun K => He.ga K (SS x), kvs.map fun kv => keyS kv.1) :: tabsOf r else tabsOf r
  | _ :: r => tabsOf r
theorem tabsOf_mem : ∀ {l : List (List Nat × GV)} {x : List Nat} {kvs : List (D × D)}, (x, GV.c (.wd kvs)) ∈ l → strKeys kvs = true → ((fun K => He.ga K (SS x), kvs.map fun kv => keyS kv.1) : He.Tab) ∈ tabsOf l
  | [], _, _, h, _ => by cases h
  | (y, g) :: r, x, kvs, h, hk => by
    rcases List.mem_cons.mp h with h | h
    · cases h
      unfold tabsOf
      rw [hk]
      exact .head _
    · have ih := tabsOf_mem h hk
      unfold tabsOf
      split
      · rename_i a; cases a
      · rename_i a b
        cases b
        cases strKeys _ with
        | true => exact .tail _ ih
        | false => exact ih
      · rename_i a b
        cases b
        exact ih
def gB (K : PySem.W.Frag) (u : Value) (d : D) : Bool := flatB u d || match u, d with
  | .ref p, .tup ds => (match tupIt K p with
    | some its => flatBs its ds
    | none => false)
  | .ref p, .wd kvs => (match dicEs K p with
    | some l => (entB l kvs && strKeys kvs) || (match rowT kvs with
      | some ds => entT K l ds && distB ds
      | none => false)
    | none => false)
  | _, _ => false
def gvB (K : PySem.W.Frag) (T : Tab) (g : List Nat × GV) : Bool := match g.2 with
  | .c d => (match PySem.W.nsIn K mainGlobals (SS g.1) with
    | some (some u) => gB K u d
    | _ => false)
  | .fn f => He.eqO (PySem.W.nsIn K mainGlobals (SS g.1)) (some (some (.ref (fnA K T f))))
  | .cls c => He.eqO (PySem.W.nsIn K mainGlobals (SS g.1)) (some (some (.ref (clsA K T c))))
  | .free => true
def isK0 (k : Cls) : Bool := Nat.beq k.kind 0
def slotP (K : PySem.W.Frag) (C : Addr) (f : Str) : Addr := match PySem.W.findIn K (.ref C) f with
  | some (some (.ref p)) => p
  | _ => 0
def slotB (K : PySem.W.Frag) (C : Addr) (f : Str) (i : Nat) : Bool := He.eqO (PySem.W.findIn K (.ref C) f) (some (some (.ref (slotP K C f)))) && (He.eqO (PySem.W.specialIn K (.ref (slotP K C f)) "__get__") (some (some (.builtin "member_descriptor.__get__"))) &&
  (decide (PySem.W.takesIn K (.ref (slotP K C f)) = some true) && (decide (PySem.W.typeIn K (.ref (slotP K C f)) = some (.type "member_descriptor")) && (decide (PySem.W.slotIn K (slotP K C f) C = some i) && Nat.blt i 1000))))
theorem slotB_ok {K : PySem.W.Frag} {C : Addr} {f : Str} {i : Nat} (h : slotB K C f i = true) : SlX.Slot1 K C f (slotP K C f) i := by
  obtain ⟨h1, h2, h⟩ := ba3 h
  obtain ⟨h3, h4, h⟩ := ba3 h
  obtain ⟨h5, h6⟩ := Bool.and_eq_true_iff.mp h
  exact ⟨He.eqO_ok h1, He.eqO_ok h2, of_decide_eq_true h3, of_decide_eq_true h4, of_decide_eq_true h5, Nat.le_of_ble_eq_true h6⟩
def slotsB (K : PySem.W.Frag) (T : Tab) (C : Addr) : List Nat → Nat → Bool
  | [], _ => true
  | a :: r, i => slotB K C (attrS T a) i && slotsB K T C r (i + 1)
theorem slotsB_ok {K : PySem.W.Frag} {T : Tab} {C : Addr} : ∀ {l : List Nat} {n a i : Nat}, slotsB K T C l n = true → idxN l a = some i → ∃ p, SlX.Slot1 K C (attrS T a) p (n + i)
  | [], _, _, _, _, h => by cases h
  | b :: r, n, a, i, h, e => by
    obtain ⟨h1, h2⟩ := Bool.and_eq_true_iff.mp (show (slotB K C (attrS T b) n && slotsB K T C r (n + 1)) = true from h)
    have e : (bif Nat.beq b a then some 0 else (idxN r a).map (· + 1)) = some i := e
    cases q : Nat.beq b a with
    | true =>
      rw [q] at e
      cases e
      cases Nat.eq_of_beq_eq_true q
      exact ⟨_, slotB_ok h1⟩
    | false =>
      rw [q] at e
      cases z : idxN r a with
      | none =>
        rw [z] at e
        cases e
      | some j =>
        rw [z] at e
        cases e
        obtain ⟨p, hp⟩ := slotsB_ok h2 z
        exact ⟨p, by rw [show n + (j + 1) = n + 1 + j by omega]; exact hp⟩
def methB (K : PySem.W.Frag) (T : Tab) (C : Addr) (a f : Nat) : Bool := He.eqO (PySem.W.findIn K (.ref C) (attrS T a)) (some (some (.ref (fnA K T f)))) && (PySem.W.isFn K (.ref (fnA K T f)) && PySem.W.keepIn K (.ref (fnA K T f)))
def propB (K : PySem.W.Frag) (T : Tab) (C : Addr) (a f : Nat) : Bool := He.eqO (PySem.W.findIn K (.ref C) (attrS T a)) (some (some (.ref (slotP K C (attrS T a))))) && (He.eqO (PySem.W.specialIn K (.ref (slotP K C (attrS T a))) "__get__") (some (some (.builtin "property.__get__"))) &&
  (decide (PySem.W.takesIn K (.ref (slotP K C (attrS T a))) = some true) && (match PySem.W.recIn K (slotP K C (attrS T a)) "property" with
    | some (v :: _) => decide (v = .ref (fnA K T f))
    | _ => false)))
def membB (K : PySem.W.Frag) (T : Tab) (C : Addr) (m : Nat × Nat × Nat) : Bool := match m.2.1 with
  | 0 => methB K T C m.1 m.2.2
  | 1 => propB K T C m.1 m.2.2
  | _ => true
theorem lookM_mem : ∀ {l : List (Nat × Nat × Nat)} {a : Nat} {q : Nat × Nat}, lookM l a = some q → (a, q) ∈ l
  | [], _, _, h => by cases h
  | (b, p) :: r, a, q, h => by
    have h : (bif Nat.beq b a then some p else lookM r a) = some q := h
    cases z : Nat.beq b a with
    | true =>
      rw [z] at h
      cases h
      cases Nat.eq_of_beq_eq_true z
      exact .head _
    | false =>
      rw [z] at h
      exact .tail _ (lookM_mem h)
theorem lookN_mem : ∀ {l : List (Nat × Nat)} {a q : Nat}, lookN l a = some q → (a, q) ∈ l
  | [], _, _, h => by cases h
  | (b, p) :: r, a, q, h => by
    have h : (bif Nat.beq b a then some p else lookN r a) = some q := h
    cases z : Nat.beq b a with
    | true =>
      rw [z] at h
      cases h
      cases Nat.eq_of_beq_eq_true z
      exact .head _
    | false =>
      rw [z] at h
      exact .tail _ (lookN_mem h)
/-- all classes with slots -/
def kinds0 (T : Tab) (f : Nat → Bool) : Bool := (List.range T.clss.length).all fun c => match T.clss[c]? with
  | some k => !isK0 k || f c
  | none => true
theorem kinds0_ok {T : Tab} {f : Nat → Bool} (h : kinds0 T f = true) {c : Nat} {k : Cls} (hc : T.clss[c]? = some k) (hk : k.kind = 0) : f c = true := by
  have hl : c < T.clss.length := (List.getElem?_eq_some_iff.mp hc).1
  have q := List.all_eq_true.mp h c (List.mem_range.mpr hl)
  rw [hc] at q
  have q : (!isK0 k || f c) = true := q
  unfold isK0 at q
  rw [hk] at q
  exact q
def initB (K : PySem.W.Frag) (T : Tab) (C : Addr) : Option Nat → Bool
  | none => true
  | some i => He.eqO (PySem.W.findIn K (.ref C) "__init__") (some (some (.ref (fnA K T i)))) && PySem.W.isFn K (.ref (fnA K T i))
def cls1B (K : PySem.W.Frag) (T : Tab) (c : Nat) (k : Cls) : Bool :=
  (PySem.W.plainGet K (clsA K T c) Str.empty && (PySem.W.isClsIn K (clsA K T c) && (PySem.W.plainOver K (clsA K T c) && He.eqO (PySem.W.findIn K (.ref (clsA K T c)) "__setattr__") (some (some (.builtin "object.__setattr__")))))) &&
  ((He.eqO (PySem.W.findIn K (.ref (clsA K T c)) "__class__") (some (some (.builtin "object.__class__"))) && (He.eqO (PySem.W.specialIn K (.builtin "object.__class__") "__get__") (some (some (.builtin "getset_descriptor.__get__"))) &&
    (decide (PySem.W.takesIn K (.builtin "object.__class__") = some true) && decide (PySem.W.mroIn K (clsA K T c) (.type "object") = some true)))) &&
  ((PySem.W.keepIn K (.ref (clsA K T c)) && (PySem.W.makesIn K (clsA K T c) && (kinds0 T (fun c' => PySem.W.notFirst K (clsA K T c) (.ref (clsA K T c'))) && (PySem.W.selfFirst K (clsA K T c) && He.eqO (PySem.W.findIn K (.ref (clsA K T c)) "__ne__") (some (some (.builtin "object.__ne__"))))))) &&
  (initB K T (clsA K T c) k.init && (slotsB K T (clsA K T c) k.slots 0 && (k.meths.all (membB K T (clsA K T c)) && k.sp.all (fun q => He.eqO (PySem.W.findIn K (.ref (clsA K T c)) (spName q.1)) (some (some (.ref (fnA K T q.2)))) && PySem.W.isFn K (.ref (fnA K T q.2))))))))
def isi1B (K : PySem.W.Frag) (T : Tab) (c : Nat) : Bool := (["int", "bool", "str", "tuple"] : List String).all (fun n => decide (PySem.W.kitOne K (.ref (clsA K T c)) (.type n) = some false)) &&
  ((["NoneType", "bool", "int", "str", "tuple", "list", "dict"] : List String).all (fun n => decide (PySem.W.kitOne K (.type n) (.ref (clsA K T c)) = some false)) && kinds0 T (fun c' => decide (PySem.W.kitOne K (.ref (clsA K T c')) (.ref (clsA K T c)) = some (Nat.beq c c'))))
def clsB (K : PySem.W.Frag) (T : Tab) (c : Nat) : Bool := match T.clss[c]? with
  | some k => cls1B K T c k && isi1B K T c
  | none => true
theorem cls1B_ok {K : PySem.W.Frag} {T : Tab} {c : Nat} {k : Cls} (h : cls1B K T c k = true) : ClsOk K T c k := by
  obtain ⟨h1, h2, h⟩ := ba3 h
  obtain ⟨h3, h⟩ := Bool.and_eq_true_iff.mp h
  obtain ⟨a1, a2, a⟩ := ba3 h1
  obtain ⟨a3, a4⟩ := Bool.and_eq_true_iff.mp a
  obtain ⟨b1, b2, b⟩ := ba3 h2
  obtain ⟨b3, b4⟩ := Bool.and_eq_true_iff.mp b
  obtain ⟨c1, c2, c⟩ := ba3 h3
  obtain ⟨c3, c4, c5⟩ := ba3 c
  obtain ⟨d1, d2, d⟩ := ba3 h
  obtain ⟨d3, d4⟩ := Bool.and_eq_true_iff.mp d
  refine ⟨⟨a1, a2, a3, He.eqO_ok a4⟩, ⟨He.eqO_ok b1, He.eqO_ok b2, of_decide_eq_true b3, of_decide_eq_true b4⟩, c1, c2, fun c' k' hc hk => kinds0_ok c3 hc hk, c4, He.eqO_ok c5, fun i hi => ?_, fun a i hi => ?_, fun a f hf => ?_, fun a f _ hf => ?_, fun s f _ hf => ?_⟩
  · rw [hi] at d1
    obtain ⟨e1, e2⟩ := Bool.and_eq_true_iff.mp (show (He.eqO _ _ && _) = true from d1)
    exact ⟨He.eqO_ok e1, e2⟩
  · obtain ⟨p, hp⟩ := slotsB_ok d2 hi
    exact ⟨p, by rw [Nat.zero_add] at hp; exact hp⟩
  · obtain ⟨e1, e2, e3⟩ := ba3 (show methB K T (clsA K T _) a f = true from List.all_eq_true.mp d3 _ (lookM_mem hf))
    exact ⟨He.eqO_ok e1, e2, e3⟩
  · obtain ⟨e1, e2, e⟩ := ba3 (show propB K T (clsA K T _) a f = true from List.all_eq_true.mp d3 _ (lookM_mem hf))
    obtain ⟨e3, e4⟩ := Bool.and_eq_true_iff.mp e
    refine ⟨_, He.eqO_ok e1, He.eqO_ok e2, of_decide_eq_true e3, ?_⟩
    split at e4
    · rename_i v r q
      refine ⟨r, ?_⟩
      rw [q, of_decide_eq_true e4]
    · cases e4
  · obtain ⟨e1, e2⟩ := Bool.and_eq_true_iff.mp (show (He.eqO _ _ && _) = true from List.all_eq_true.mp d4 _ (lookN_mem hf))
    exact ⟨He.eqO_ok e1, e2⟩
theorem isi1B_ok {K : PySem.W.Frag} {T : Tab} {c : Nat} (h : isi1B K T c = true) : IsiOk K T c := by
  obtain ⟨h1, h2, h3⟩ := ba3 h
  exact ⟨fun n hn => of_decide_eq_true (List.all_eq_true.mp h1 n hn), fun n hn => of_decide_eq_true (List.all_eq_true.mp h2 n hn), fun c' k' hc hk => of_decide_eq_true (kinds0_ok h3 hc hk)⟩
/-- all the facts -/
def tabB (K : PySem.W.Frag) (T : Tab) : Bool := T.globs.all (gvB K T) && (bltns.all (fun x => He.eqO (PySem.W.nsIn K mainGlobals x) (some none)) && (kinds0 T (clsB K T) && (List.range T.fns.length).all fun i => PySem.W.keepIn K (.ref (fnA K T i))))
theorem clsB_ok {K : PySem.W.Frag} {T : Tab} {c : Nat} {k : Cls} (h : kinds0 T (clsB K T) = true) (hc : T.clss[c]? = some k) (hk : k.kind = 0) : ClsOk K T c k ∧ IsiOk K T c := by
  have q := kinds0_ok h hc hk
  unfold clsB at q
  rw [hc] at q
  obtain ⟨q1, q2⟩ := Bool.and_eq_true_iff.mp (show (cls1B K T c k && isi1B K T c) = true from q)
  exact ⟨cls1B_ok q1, isi1B_ok q2⟩
theorem ga_of {K : PySem.W.Frag} {x : Str} {p : Addr} (h : PySem.W.nsIn K mainGlobals x = some (some (.ref p))) : He.ga K x = p := by
  unfold He.ga
  rw [h]
theorem gB_ok {K : PySem.W.Frag} {w : World} {T : Tab} {u : Value} {d : D} {x : List Nat} (hn : PySem.W.nsIn K mainGlobals (SS x) = some (some u)) (h : gB K u d = true)
    (ht : ∀ kvs, d = .wd kvs → strKeys kvs = true → He.dicW K (He.ga K (SS x)) = some (He.keysIn w.params (kvs.map fun kv => keyS kv.1))) : ∃ v, RelV v u ∧ ∀ H φ, Rel K w T H φ d v := by
  rcases Bool.or_eq_true_iff.mp h with h | h
  · obtain ⟨a, b⟩ := flatB_ok h
    exact ⟨_, a, b⟩
  · split at h
    · rename_i p ds _
      split at h
      · rename_i its e
        obtain ⟨o, ar, n, q1, q2, q3, q4, q5⟩ := tupIt_ok e
        obtain ⟨a, b⟩ := flatBs_ok (K := K) (w := w) (T := T) h
        exact ⟨.ref p, rfl, fun H φ => .tup (.inr ⟨o, ar, n, q1, q2, q3, q4, by rw [q5]; exact a⟩) (b H φ)⟩
      · cases h
    · rename_i p kvs _
      split at h
      · rename_i l e
        rcases Bool.or_eq_true_iff.mp h with h | h
        · obtain ⟨h1, h2⟩ := Bool.and_eq_true_iff.mp h
          have q := ht kvs rfl h2
          rw [ga_of hn] at q
          exact ⟨.ref p, rfl, fun H φ => .wdS (wdS_of q e h1 h2)⟩
        · split at h
          · rename_i ds e2
            obtain ⟨h1, h2⟩ := Bool.and_eq_true_iff.mp h
            exact ⟨.ref p, rfl, fun H φ => .wdB (wdB_of e e2 h1 h2)⟩
          · cases h
      · cases h
    · cases h
theorem tabB_ok {K : PySem.W.Frag} {w : World} {T : Tab} {mg : Str → Option Value} {h : Heap} (X : K.In h) (G : h.Ns mainGlobals mg) (hb : tabB K T = true) (ht : ∀ t ∈ tabsOf T.globs, He.dicW K (t.1 K) = some (He.keysIn w.params t.2)) : TabOk K w mg T := by
  obtain ⟨h1, h2, hc⟩ := ba3 hb
  obtain ⟨h3, h4⟩ := Bool.and_eq_true_iff.mp hc
  have hg : ∀ (i : Nat) x g, T.globs[i]? = some (x, g) → gvB K T (x, g) = true ∧ (x, g) ∈ T.globs := fun i x g e => ⟨List.all_eq_true.mp h1 _ (List.mem_of_getElem? e), List.mem_of_getElem? e⟩
  refine ⟨fun i x d e => ?_, fun i x f e => ?_, fun i x c e => ?_, fun x hx => ?_, fun c k hc hk => (clsB_ok h3 hc hk).1, fun c k hc hk => (clsB_ok h3 hc hk).2, fun i f hi => ?_⟩
  · obtain ⟨q, hm⟩ := hg i x _ e
    unfold gvB at q
    dsimp only at q
    split at q
    · rename_i u e2
      obtain ⟨v, a, b⟩ := gB_ok (w := w) (T := T) e2 q fun kvs ed hk => by
        subst ed
        exact ht _ (tabsOf_mem hm hk)
      exact ⟨u, v, PySem.W.mg_of X G e2, a, b⟩
    · cases q
  · obtain ⟨q, hm⟩ := hg i x _ e
    exact PySem.W.mg_of X G (He.eqO_ok q)
  · obtain ⟨q, hm⟩ := hg i x _ e
    exact PySem.W.mg_of X G (He.eqO_ok q)
  · exact PySem.W.mg_none_of X G (He.eqO_ok (List.all_eq_true.mp h2 x hx))
  · exact List.all_eq_true.mp h4 i (List.mem_range.mpr (List.getElem?_eq_some_iff.mp hi).1)
end Pd

set_option maxHeartbeats 4000000
/-! Pd32: binding with defaults; the Hook; from the head to the functions. -/
namespace Pd
open PySem PySem.Spec PyProof.Rows L2
abbrev stepB (x : Str × Value) (s : List (Str × Value)) : Sem (ForInStep (List (Str × Value))) := if (List.lookup x.fst s).isNone = true then pure (ForInStep.yield (s ++ [(x.fst, x.snd)])) else pure (ForInStep.yield s)
theorem skipB : ∀ (L1 L2 S : List (Str × Value)), (∀ p ∈ L1, (S.lookup p.1).isNone = false) → forIn (L1 ++ L2) S stepB = forIn L2 S stepB
  | [], _, _, _ => rfl
  | p :: L1, L2, S, h => by
    have h1 := h p (.head _)
    rw [List.cons_append, List.forIn_cons]
    simp only [stepB, h1, Bool.false_eq_true, if_false, pure_bind]
    exact skipB L1 L2 S fun q hq => h q (.tail _ hq)
theorem lookup_none_app {S : List (Str × Value)} {k k' : Str} {v : Value} (h : S.lookup k' = none) (hn : k' ≠ k) : (S ++ [(k, v)]).lookup k' = none := by
  induction S with
  | nil =>
    have : (k' == k) = false := by simpa using hn
    simp [List.lookup, this]
  | cons p S ih =>
    rw [List.cons_append, List.lookup_cons]
    rw [List.lookup_cons] at h
    cases e : k' == p.1 with
    | true =>
      rw [e] at h
      cases h
    | false =>
      rw [e] at h
      exact ih h
theorem putB : ∀ (ks : List Str) (vs : List Value) (S : List (Str × Value)), ks.Nodup → (∀ k ∈ ks, S.lookup k = none) → forIn (ks.zip vs) S stepB = (pure (S ++ ks.zip vs) : Sem _)
  | [], _, S, _, _ => by simp
  | _ :: _, [], S, _, _ => by simp
  | k :: ks, v :: vs, S, nd, h => by
    obtain ⟨n1, n2⟩ := List.nodup_cons.mp nd
    have h1 := h k (.head _)
    rw [List.zip_cons_cons, List.forIn_cons]
    simp only [stepB, h1, Option.isNone_none, if_true, pure_bind]
    have := putB ks vs (S ++ [(k, v)]) n2 fun k' hk => lookup_none_app (h k' (.tail _ hk)) fun e => n1 (e ▸ hk)
    rw [List.append_assoc] at this
    exact this
theorem lookup_out : ∀ {ps : List Str} {us : List Value} {n : Str}, n ∉ ps → (ps.zip us).lookup n = none
  | [], _, _, _ => rfl
  | _ :: _, [], _, _ => rfl
  | p :: ps, u :: us, n, h => by
    have hb : (n == p) = false := by
      have : n ≠ p := fun e => h (e ▸ .head _)
      simpa using this
    rw [List.zip_cons_cons, List.lookup_cons, hb]
    exact lookup_out fun q => h (.tail _ q)
theorem zip_take {ps : List Str} {us : List Value} (h : us.length ≤ ps.length) : ps.zip us = (ps.take us.length).zip us := by
  have := List.zip_append (l₁ := ps.take us.length) (r₁ := ps.drop us.length) (l₂ := us) (r₂ := ([] : List Value)) (by simp; omega)
  rw [List.append_nil, List.zip_nil_right, List.append_nil, List.take_append_drop] at this
  exact this
theorem bind_core {ps : List Str} {us its : List Value} (nd : ps.Nodup) (h1 : us.length ≤ ps.length) (h2 : its.length ≤ ps.length) (h3 : ps.length ≤ us.length + its.length) :
    forIn ((ps.drop (ps.length - its.length)).zip its) (ps.zip us) stepB = (pure (ps.zip (us ++ its.drop (its.length - (ps.length - us.length)))) : Sem _) := by
  have e0 : its.length - (ps.length - us.length) = us.length - (ps.length - its.length) := by omega
  have eL : (ps.drop (ps.length - its.length)).zip its = ((ps.drop (ps.length - its.length)).take (us.length - (ps.length - its.length))).zip (its.take (us.length - (ps.length - its.length))) ++ (ps.drop us.length).zip (its.drop (us.length - (ps.length - its.length))) := by
    have a1 : ps.drop us.length = (ps.drop (ps.length - its.length)).drop (us.length - (ps.length - its.length)) := by
      rw [List.drop_drop]
      congr 1
      omega
    rw [a1, ← List.zip_append (by simp; omega), List.take_append_drop, List.take_append_drop]
  have eS := zip_take h1
  rw [eL, skipB]
  · rw [putB]
    · rw [eS, ← List.zip_append (by simp; omega), List.take_append_drop, e0]
    · exact nd.sublist (List.drop_sublist _ _)
    · intro k hk
      rw [eS]
      refine lookup_out fun q => ?_
      have := List.nodup_append.mp (by rw [List.take_append_drop]; exact nd : (ps.take us.length ++ ps.drop us.length).Nodup)
      exact this.2.2 k q k hk rfl
  · intro p hp
    have hp1 : p.1 ∈ (ps.drop (ps.length - its.length)).take (us.length - (ps.length - its.length)) := (List.of_mem_zip (show (p.1, p.2) ∈ _ from hp)).1
    have hp2 : p.1 ∈ ps.take us.length := by
      rw [← List.drop_take] at hp1
      have hp3 := List.mem_of_mem_drop hp1
      exact hp3
    rw [eS]
    obtain ⟨u, hu⟩ := lookup_zip (us := us) hp2 (by simp; omega)
    rw [hu]
    rfl
theorem bind_dfl {x qual : Str} {args : List Arg} {ds : List Expr} {body : List Stmt} {scope : Scope} {T : Addr} {kV doc pm : Value} {an : Option Addr} {cdv ct : Value} {us its : List Value} (nd : (args.map (·.arg)).Nodup) (h1 : us.length ≤ args.length) (h2 : its.length ≤ args.length)
    (h3 : args.length ≤ us.length + its.length) :
    ∃ k, bindArgs (PySem.W.fnOf x qual ⟨[], args, none, [], [], none, ds⟩ body scope (.ref T) kV doc pm an cdv ct) ⟨us, []⟩ = seqItems? (.ref T) >>= k ∧ k (some its.toArray) = pure ((args.map (·.arg)).zip (us ++ its.drop (its.length - (args.length - us.length)))) := by
  have hl : (args.map (·.arg)).length = args.length := by simp
  have c1 : ((args.map (·.arg)).take (args.length - its.length)).filter (fun n => ((((args.map (·.arg)).zip us).lookup n).isNone)) = [] := by
    rw [List.filter_eq_nil_iff]
    intro n hn
    have eS := zip_take (ps := args.map (·.arg)) (us := us) (by simpa using h1)
    have hn2 : n ∈ (args.map (·.arg)).take us.length := by
      have : (args.map (·.arg)).take (args.length - its.length) = ((args.map (·.arg)).take us.length).take (args.length - its.length) := by
        rw [List.take_take]
        congr 1
        omega
      rw [this] at hn
      exact List.mem_of_mem_take hn
    obtain ⟨u, hu⟩ := lookup_zip (us := us) hn2 (by simp; omega)
    rw [eS, hu]
    simp
  have c2 := bind_core (ps := args.map (·.arg)) (us := us) (its := its) nd (by rw [hl]; exact h1) (by rw [hl]; exact h2) (by rw [hl]; exact h3)
  rw [hl] at c2
  have c3 := filterMap_zip (ps := args.map (·.arg)) (us := us ++ its.drop (its.length - (args.length - us.length))) (f := fun n => ((args.map (·.arg)).zip (us ++ its.drop (its.length - (args.length - us.length)))).lookup n) (by simp; omega)
    fun i p u a b => lookup_at i p u nd a b
  refine ⟨_, rfl, ?_⟩
  have hn : ¬ args.length < us.length := by omega
  simp [PySem.W.fnOf, hn, show its.length - args.length = 0 by omega]
  rw [if_neg (by simp [c1, show its.length - args.length = 0 by omega])]
  have c4 : (forIn ((List.drop (args.length - its.length) (List.map (fun x => x.arg) args)).zip its) ((List.map (fun x => x.arg) args).zip us) fun x __s =>
          if (List.lookup x.fst __s).isNone = true then pure (ForInStep.yield (__s ++ [(x.fst, x.snd)]))
          else pure (ForInStep.yield __s)) = (pure ((args.map (·.arg)).zip (us ++ its.drop (its.length - (args.length - us.length)))) : Sem _) := c2
  rw [c4, map_pure, ← List.filterMap_map]
  exact congrArg pure c3
/-! ### the defs of the text -/
structure DefRow where
  at_ : Str × Option Str
  name : Str
  qual : Str
  params : Arguments
  body : List Stmt
  scope : Scope
def defsCls (c : Str) : List Stmt → List DefRow
  | [] => []
  | .FunctionDef n a b _ _ _ sc _ _ _ :: r => ⟨(c, some n), n, c ++ "." ++ n, a, b, sc⟩ :: defsCls c r
  | _ :: r => defsCls c r
def defsTop : List Stmt → List DefRow
  | [] => []
  | .FunctionDef n a b _ _ _ sc _ _ _ :: r => ⟨(n, none), n, n, a, b, sc⟩ :: defsTop r
  | .ClassDef c _ _ b _ _ _ _ _ _ _ :: r => defsCls c b ++ defsTop r
  | _ :: r => defsTop r
/-- a function that is never run to its end -/
def deadB (f : Fn) : Bool := match f.body with
  | .never :: _ => true
  | _ => false
def mkDv (a : Str × Option Str) (i : Nat) : D → He.Dv
  | .bl b => .bl b
  | .int i => .int i
  | .str s => .str (SS s)
  | .tup _ => .adr (He.dflAt a i)
  | _ => .non
def mkDvs (a : Str × Option Str) : Nat → List D → List He.Dv
  | _, [] => []
  | i, d :: ds => mkDv a i d :: mkDvs a (i + 1) ds
def mkD (f : Fn) (d : DefRow) : He.DefD := ⟨d.at_, d.name, d.qual, d.params, d.body, d.scope, mkDvs d.at_ 0 f.dfl, []⟩
def liveD : List Fn → List DefRow → List He.DefD
  | f :: fs, d :: ds => bif deadB f then liveD fs ds else mkD f d :: liveD fs ds
  | _, _ => []
def posParams : Arguments → List Str → Nat → Bool
  | ⟨[], args, none, [], [], none, ds⟩, ps, n => decide (args.map (·.arg) = ps) && decide (ds.length = n)
  | _, _, _ => false
theorem posParams_ok {a : Arguments} {ps : List Str} {n : Nat} (h : posParams a ps n = true) : ∃ args ds, a = ⟨[], args, none, [], [], none, ds⟩ ∧ args.map (·.arg) = ps ∧ ds.length = n := by
  unfold posParams at h
  split at h
  · obtain ⟨h1, h2⟩ := Bool.and_eq_true_iff.mp h
    exact ⟨_, _, rfl, of_decide_eq_true h1, of_decide_eq_true h2⟩
  · cases h
/-- the text against the table -/
def rowOk (T : Tab) (n : Nat) (f : Fn) (d : DefRow) : Bool := deadB f || (decide (d.at_ = atS f.at_) && (nodeOk T n f d.scope d.body && (posParams d.params (pnames f) f.dfl.length && Nat.ble f.dfl.length f.np)))
def rowsOk (T : Tab) (n : Nat) : List Fn → List DefRow → Bool
  | [], _ => true
  | f :: fs, d :: ds => rowOk T n f d && rowsOk T n fs ds
  | _ :: _, [] => false
/-- defaults that are empty tuples -/
def dflT (K : PySem.W.Frag) (a : Str × Option Str) : Nat → List D → Bool
  | _, [] => true
  | i, .tup ds :: r => decide (ds.length = 0) && (decide (tupIt K (He.dflAt a i K) = some []) && dflT K a (i + 1) r)
  | i, .non :: r => dflT K a (i + 1) r
  | i, .bl _ :: r => dflT K a (i + 1) r
  | i, .int _ :: r => dflT K a (i + 1) r
  | i, .str _ :: r => dflT K a (i + 1) r
  | _, _ => false
theorem dflT_ok {K : PySem.W.Frag} {w : World} {T : Tab} {a : Str × Option Str} : ∀ {i : Nat} {ds : List D}, dflT K a i ds = true → ∀ H φ, Rels K w T H φ ds ((mkDvs a i ds).map (He.Dv.v K))
  | _, [], _ => fun _ _ => .nil
  | i, d :: r, h => by
    cases d with
    | non => exact fun H φ => .cons .non (dflT_ok (show dflT K a (i + 1) r = true from h) H φ)
    | bl b => exact fun H φ => .cons (.bl b) (dflT_ok (show dflT K a (i + 1) r = true from h) H φ)
    | int b => exact fun H φ => .cons (.int b) (dflT_ok (show dflT K a (i + 1) r = true from h) H φ)
    | str b => exact fun H φ => .cons (.str b) (dflT_ok (show dflT K a (i + 1) r = true from h) H φ)
    | tup xs =>
      obtain ⟨h1, h2, h3⟩ := ba3 (show (decide (xs.length = 0) && (decide (tupIt K (He.dflAt a i K) = some []) && dflT K a (i + 1) r)) = true from h)
      have e := List.eq_nil_of_length_eq_zero (of_decide_eq_true h1)
      subst e
      obtain ⟨o, ar, n, q1, q2, q3, q4, q5⟩ := tupIt_ok (of_decide_eq_true h2)
      exact fun H φ => .cons (.tup (.inr ⟨o, ar, n, q1, q2, q3, q4, by rw [q5]; exact .nil⟩) .nil) (dflT_ok h3 H φ)
    | _ => cases h
theorem mkDvs_len (a : Str × Option Str) : ∀ (i : Nat) (ds : List D), (mkDvs a i ds).length = ds.length
  | _, [] => rfl
  | i, d :: ds => by
    show (mkDvs a (i + 1) ds).length + 1 = _
    rw [mkDvs_len]
    rfl
/-! ### the Hook -/
/-- what stands at a function's address -/
def fnV (K : PySem.W.Frag) (a : Addr) : He.FnW := match K.lookup a with
  | some ⟨_, _, .func fd, _⟩ => some (fd.name, fd.qualname, fd.params, fd.body, fd.scope, fd.globals, fd.closure, fd.builtins)
  | _ => none
def okAt (K : PySem.W.Frag) (a : Addr) (qual : Str) (dvs : List V) : Bool := PySem.W.keepIn K (.ref a) && (match K.lookup a with
  | some ⟨_, _, .func fd, _⟩ => PySem.W.codeIn K fd.code qual && He.dflB K fd.defaults dvs
  | _ => false)
theorem funAt {K : PySem.W.Frag} {a : Addr} {name qual : Str} {params : Arguments} {body : List Stmt} {scope : Scope} {dvs : List V} (e : fnV K a = some (name, qual, params, .stmts body, scope, mainGlobals, [], builtinsNs)) (c : okAt K a qual dvs = true) :
    ∃ fd, FunD K name qual params body scope dvs [] a fd := by
  obtain ⟨kp, c2⟩ := Bool.and_eq_true_iff.mp c
  unfold fnV at e
  split at e
  · rename_i oc od fd osl q
    rw [q] at c2
    obtain ⟨n1, n2, n3, n4, n5, n6, n7, n8, n9, n10, n11, n12, n13, n14, n15⟩ := fd
    have e2 : (some (n1, n2, n3, n4, n5, n6, n7, n15) : He.FnW) = some (name, qual, params, .stmts body, scope, mainGlobals, [], builtinsNs) := e
    simp only [Option.some.injEq, Prod.mk.injEq] at e2
    obtain ⟨h1, h2, h3, h4, h5, h6, h7, h8⟩ := e2
    subst h1 h2 h3 h4 h5 h6 h7 h8
    obtain ⟨k1, k2⟩ := Bool.and_eq_true_iff.mp (show (PySem.W.codeIn K n13 _ && He.dflB K n8 dvs) = true from c2)
    exact ⟨_, ⟨oc, od, n8, n9, n10, n11, n12, n13, n14, osl, rfl, q, k1, He.dflB_ok k2, .inl rfl⟩, kp⟩
  · cases e
/-- what an object names: a dict's keys too -/
def isPropB : Value → Bool
  | .type n => n == "property"
  | _ => false
def refsP (o : Obj) : List Addr := match o.data with
  | .seq its _ => its.toList.flatMap He.refV
  | .dict es _ => es.toList.flatMap fun e => He.refV e.key ++ He.refV e.val
  | .func fd => He.refV fd.code ++ He.refV fd.defaults
  | .cls cd => cd.ns :: cd.mro.flatMap He.refV
  | .fields vs => bif isPropB o.cls then vs.toList.flatMap He.refV else []
  | _ => []
def growP (g : Addr → Option Obj) (as : List Addr) : List Addr := (as ++ as.flatMap fun a => match g a with
  | some o => refsP o
  | none => []).eraseDups
def asP (g : Addr → Option Obj) : Nat → List Addr
  | 0 => [mainGlobals]
  | n + 1 => growP g (asP g n)
abbrev AlP : Type := (Bool × List He.FnW) × List (Option (List (Option (Str × Int))))
def liveT (K : PySem.W.Frag) : List Fn → Bool
  | [] => true
  | f :: r => (deadB f || dflT K (atS f.at_) 0 f.dfl) && liveT K r
def okD (K : PySem.W.Frag) (d : He.DefD) : Bool := okAt K (pAd K d.at_) d.qual (d.dvs K)
def valW (d : He.DefD) : He.FnW := some (d.name, d.qual, d.params, .stmts d.body, d.scope, mainGlobals, [], builtinsNs)
def obsL (K : PySem.W.Frag) : List He.DefD → List He.FnW
  | [] => []
  | d :: r => fnV K (pAd K d.at_) :: obsL K r
def valDs : List He.DefD → List He.FnW
  | [] => []
  | d :: r => valW d :: valDs r
def obsK (K : PySem.W.Frag) : List He.Tab → List (Option (List (Option (Str × Int))))
  | [] => []
  | t :: r => He.dicW K (t.1 K) :: obsK K r
def valK (P : Params) : List He.Tab → List (Option (List (Option (Str × Int))))
  | [] => []
  | t :: r => some (He.keysIn P t.2) :: valK P r
theorem obsL_map (K : PySem.W.Frag) : ∀ l, obsL K l = l.map fun d => fnV K (pAd K d.at_)
  | [] => rfl
  | d :: r => by rw [obsL, obsL_map K r]; rfl
theorem valL_map : ∀ l, valDs l = l.map valW
  | [] => rfl
  | d :: r => by rw [valDs, valL_map r]; rfl
theorem obsK_map (K : PySem.W.Frag) : ∀ l, obsK K l = l.map fun t => He.dicW K (t.1 K)
  | [] => rfl
  | d :: r => by rw [obsK, obsK_map K r]; rfl
theorem valK_map (P : Params) : ∀ l, valK P l = l.map fun t => some (He.keysIn P t.2)
  | [] => rfl
  | d :: r => by rw [valK, valK_map P r]; rfl
def obsP (T : Tab) (dd : List He.DefD) (K : PySem.W.Frag) : AlP := ((tabB K T && (liveT K T.fns && dd.all (okD K)), obsL K dd), obsK K (tabsOf T.globs))
def valP (T : Tab) (dd : List He.DefD) (w : World) : AlP := ((true, valDs dd), valK w.params (tabsOf T.globs))
def SaysP (T : Tab) (dd : List He.DefD) (w : World) (K : PySem.W.Frag) : Prop := obsP T dd K = valP T dd w
def obsPG (n : Nat) (T : Tab) (dd : List He.DefD) (g : Addr → Option Obj) : AlP := obsP T dd (He.frG g (asP g n))
def hookP (n : Nat) (T : Tab) (dd : List He.DefD) : PySem.W.Hook where
  α := AlP
  obs := fun s => obsPG n T dd s.heap.get?
  val := fun w => valP T dd w
  says := fun w h => ∃ K : PySem.W.Frag, K.In h ∧ SaysP T dd w K
  of := fun _ _ e => ⟨_, He.frG_in, e⟩
  keeps := fun _ _ _ ⟨K, hK, c⟩ k => ⟨K, PySem.W.Frag.In.keeps hK k, c⟩
theorem obsPG_eq {n : Nat} {T : Tab} {dd : List He.DefD} {g : Addr → Option Obj} {s : Shared} (h : ∀ a, g a = s.heap.get? a) : obsPG n T dd g = (hookP n T dd).obs s := by
  have e : g = s.heap.get? := funext h
  rw [e] <;> rfl
/-! the Hook in three parts: each is looked at by a run of its own -/
def tabB1 (K : PySem.W.Frag) (T : Tab) : Bool := T.globs.all (gvB K T) && (bltns.all (fun x => He.eqO (PySem.W.nsIn K mainGlobals x) (some none)) && (List.range T.fns.length).all fun i => PySem.W.keepIn K (.ref (fnA K T i)))
def obA (n : Nat) (T : Tab) (g : Addr → Option Obj) : Bool := tabB1 (He.frG g (asP g n)) T
def obA2 (n : Nat) (T : Tab) (g : Addr → Option Obj) : Bool := kinds0 T (clsB (He.frG g (asP g n)) T)
theorem tabB_of {K : PySem.W.Frag} {T : Tab} (h1 : tabB1 K T = true) (h2 : kinds0 T (clsB K T) = true) : tabB K T = true := by
  unfold tabB1 at h1
  unfold tabB
  rw [h2]
  simpa using h1
def obB (n : Nat) (T : Tab) (dd : List He.DefD) (g : Addr → Option Obj) : Bool := liveT (He.frG g (asP g n)) T.fns && dd.all (okD (He.frG g (asP g n)))
def obC (n : Nat) (T : Tab) (dd : List He.DefD) (g : Addr → Option Obj) : List He.FnW × List (Option (List (Option (Str × Int)))) := (obsL (He.frG g (asP g n)) dd, obsK (He.frG g (asP g n)) (tabsOf T.globs))
def hookOf (α : Type) (ob : (Addr → Option Obj) → α) (v : World → α) : PySem.W.Hook where
  α := α
  obs := fun s => ob s.heap.get?
  val := v
  says := fun _ _ => True
  of := fun _ _ _ => trivial
  keeps := fun _ _ _ _ _ => trivial
abbrev hookA (n : Nat) (T : Tab) : PySem.W.Hook := hookOf Bool (obA n T) fun _ => true
abbrev hookA2 (n : Nat) (T : Tab) : PySem.W.Hook := hookOf Bool (obA2 n T) fun _ => true
abbrev hookB (n : Nat) (T : Tab) (dd : List He.DefD) : PySem.W.Hook := hookOf Bool (obB n T dd) fun _ => true
abbrev hookC (n : Nat) (T : Tab) (dd : List He.DefD) : PySem.W.Hook := hookOf _ (obC n T dd) fun w => (valDs dd, valK w.params (tabsOf T.globs))
theorem run_join {r : PySem.W.OpenRow} {q : Program} {M n : Nat} {loose : List Str} {w : World} {T : Tab} {dd : List He.DefD}
    (ha : HandSHeadRun.RunEq r q (hookA n T) (fun s => obA n T (HandSHeadRun.getT s)) M loose w) (ha2 : HandSHeadRun.RunEq r q (hookA2 n T) (fun s => obA2 n T (HandSHeadRun.getT s)) M loose w) (hb : HandSHeadRun.RunEq r q (hookB n T dd) (fun s => obB n T dd (HandSHeadRun.getT s)) M loose w) (hc : HandSHeadRun.RunEq r q (hookC n T dd) (fun s => obC n T dd (HandSHeadRun.getT s)) M loose w) :
    HandSHeadRun.RunEq r q (hookP n T dd) (fun s => obsPG n T dd (HandSHeadRun.getT s)) M loose w := by
  intro os
  have a := ha os
  have a' := ha2 os
  have b := hb os
  have c := hc os
  cases e : HandSHeadRun.endF (HandSHeadRun.stepQ (HandSHeadRun.denQ HandSHeadRun.tabQ) r.prog w) M r.prog w os with
  | none =>
    rw [e] at a
    cases a
  | some s =>
    rw [e] at a a' b c
    have a := Option.some.inj a
    have a' := Option.some.inj a'
    obtain ⟨_, a'2⟩ := Prod.mk.inj a'
    obtain ⟨_, a'3⟩ := Prod.mk.inj a'2
    have b := Option.some.inj b
    have c := Option.some.inj c
    obtain ⟨a1, a2⟩ := Prod.mk.inj a
    obtain ⟨a2, a3⟩ := Prod.mk.inj a2
    obtain ⟨_, b2⟩ := Prod.mk.inj b
    obtain ⟨_, b3⟩ := Prod.mk.inj b2
    obtain ⟨_, c2⟩ := Prod.mk.inj c
    obtain ⟨_, c3⟩ := Prod.mk.inj c2
    obtain ⟨c4, c5⟩ := Prod.mk.inj c3
    show some _ = some _
    congr 1
    refine Prod.ext a1 (Prod.ext a2 ?_)
    have a3 : tabB (He.frG (HandSHeadRun.getT s) (asP (HandSHeadRun.getT s) n)) T = true := tabB_of a3 a'3
    have b3 : (liveT (He.frG (HandSHeadRun.getT s) (asP (HandSHeadRun.getT s) n)) T.fns && dd.all (okD (He.frG (HandSHeadRun.getT s) (asP (HandSHeadRun.getT s) n)))) = true := b3
    have c4 : obsL (He.frG (HandSHeadRun.getT s) (asP (HandSHeadRun.getT s) n)) dd = valDs dd := c4
    have c5 : obsK (He.frG (HandSHeadRun.getT s) (asP (HandSHeadRun.getT s) n)) (tabsOf T.globs) = valK w.params (tabsOf T.globs) := c5
    show obsP T dd (He.frG (HandSHeadRun.getT s) (asP (HandSHeadRun.getT s) n)) = valP T dd w
    unfold obsP valP
    rw [a3, b3, c4, c5]
    rfl
theorem map_at {α β : Type} {l : List α} {f g : α → β} (h : l.map f = l.map g) {x : α} (hx : x ∈ l) : f x = g x := by
  induction l with
  | nil => cases hx
  | cons y l ih =>
    rw [List.map_cons, List.map_cons] at h
    obtain ⟨h1, h2⟩ := List.cons.inj h
    rcases List.mem_cons.mp hx with rfl | hx
    · exact h1
    · exact ih h2 hx
section
variable {K : PySem.W.Frag} {w : World} {T : Tab} {mg : Str → Option Value} {h : Heap} {dd : List He.DefD}
theorem says_tab (X : K.In h) (G : h.Ns mainGlobals mg) (c : SaysP T dd w K) : TabOk K w mg T := by
  have c1 : (tabB K T && (liveT K T.fns && dd.all (okD K))) = true := congrArg (fun z : AlP => z.1.1) c
  have c2 : obsK K (tabsOf T.globs) = valK w.params (tabsOf T.globs) := congrArg (fun z : AlP => z.2) c
  rw [obsK_map, valK_map] at c2
  exact tabB_ok X G (Bool.and_eq_true_iff.mp c1).1 fun t ht => map_at c2 ht
theorem says_def (c : SaysP T dd w K) {d : He.DefD} (hd : d ∈ dd) : ∃ fd, FunD K d.name d.qual d.params d.body d.scope (d.dvs K) [] (pAd K d.at_) fd := by
  have c1 : (tabB K T && (liveT K T.fns && dd.all (okD K))) = true := congrArg (fun z : AlP => z.1.1) c
  have c2 : obsL K dd = valDs dd := congrArg (fun z : AlP => z.1.2) c
  rw [obsL_map, valL_map] at c2
  obtain ⟨_, _, c3⟩ := ba3 c1
  exact funAt (map_at c2 hd) (List.all_eq_true.mp c3 d hd)
theorem rows_at {n : Nat} : ∀ {fs : List Fn} {ds : List DefRow} {i : Nat} {f : Fn}, rowsOk T n fs ds = true → fs[i]? = some f → ∃ d, ds[i]? = some d ∧ rowOk T n f d = true ∧ (deadB f = false → mkD f d ∈ liveD fs ds)
  | [], _, _, _, _, h => by cases h
  | _ :: _, [], _, _, h, _ => by cases h
  | f :: fs, d :: ds, i, g, h, e => by
    obtain ⟨h1, h2⟩ := Bool.and_eq_true_iff.mp (show (rowOk T n f d && rowsOk T n fs ds) = true from h)
    cases i with
    | zero =>
      cases e
      refine ⟨d, rfl, h1, fun q => ?_⟩
      unfold liveD
      rw [q]
      exact .head _
    | succ i =>
      obtain ⟨d', a1, a2, a3⟩ := rows_at (i := i) h2 e
      refine ⟨d', a1, a2, fun q => ?_⟩
      unfold liveD
      cases deadB f with
      | true => exact a3 q
      | false => exact .tail _ (a3 q)
theorem live_at : ∀ {fs : List Fn} {i : Nat} {f : Fn}, liveT K fs = true → fs[i]? = some f → deadB f = false → dflT K (atS f.at_) 0 f.dfl = true
  | [], _, _, _, h, _ => by cases h
  | g :: fs, i, f, h, e, q => by
    obtain ⟨h1, h2⟩ := Bool.and_eq_true_iff.mp (show ((deadB g || dflT K (atS g.at_) 0 g.dfl) && liveT K fs) = true from h)
    cases i with
    | zero =>
      cases e
      rw [q] at h1
      exact h1
    | succ i => exact live_at (i := i) h2 e q
theorem says_fn {n : Nat} {ds : List DefRow} (hr : rowsOk T n T.fns ds = true) (c : SaysP T (liveD T.fns ds) w K) {i : Nat} {f : Fn} (hi : T.fns[i]? = some f) (hd : deadB f = false) : FnFact K w T i f := by
  obtain ⟨d, a1, a2, a3⟩ := rows_at hr hi
  unfold rowOk at a2
  rw [hd] at a2
  obtain ⟨b1, b2, b⟩ := ba3 (show (decide (d.at_ = atS f.at_) && (nodeOk T n f d.scope d.body && (posParams d.params (pnames f) f.dfl.length && Nat.ble f.dfl.length f.np))) = true from a2)
  obtain ⟨b3, b4⟩ := Bool.and_eq_true_iff.mp b
  obtain ⟨fd, F⟩ := says_def c (a3 hd)
  have b1 := of_decide_eq_true b1
  have b4 := Nat.le_of_ble_eq_true b4
  obtain ⟨args, exs, p1, p2, p3⟩ := posParams_ok b3
  have hA : pAd K (mkD f d).at_ = fnA K T i := by
    show pAd K d.at_ = _
    rw [b1]
    unfold fnA
    rw [hi]
  rw [hA] at F
  have c1 : (tabB K T && (liveT K T.fns && (liveD T.fns ds).all (okD K))) = true := congrArg (fun z : AlP => z.1.1) c
  obtain ⟨_, c4, _⟩ := ba3 c1
  have hdf := live_at c4 hi hd
  obtain ⟨S, hnp⟩ := scopeOk_ok (Bool.and_eq_true_iff.mp b2).1
  have hpl : (pnames f).length = f.np := by
    unfold pnames
    rw [List.length_map, List.length_take, Nat.min_eq_left hnp]
  have hal : args.length = f.np := by
    rw [← hpl, ← p2, List.length_map]
  have hnd : (args.map (·.arg)).Nodup := by
    rw [p2, ← S.pre]
    exact S.nd.sublist (List.take_sublist _ _)
  have edv : (mkD f d).dvs K = (mkDvs (atS f.at_) 0 f.dfl).map (He.Dv.v K) := by
    show (mkDvs d.at_ 0 f.dfl).map (He.Dv.v K) = _
    rw [b1]
  have F : FunD K d.name d.qual d.params d.body d.scope ((mkDvs (atS f.at_) 0 f.dfl).map (He.Dv.v K)) [] (fnA K T i) fd := by
    rw [← edv]
    exact F
  have hvl : ((mkDvs (atS f.at_) 0 f.dfl).map (He.Dv.v K)).length = f.dfl.length := by rw [List.length_map, mkDvs_len]
  refine ⟨⟨n, d.name, d.qual, d.params, d.body, d.scope, _, [], fd, F, b2, fun m hm hm2 => ?_⟩⟩
  rw [p1] at F
  cases hz : f.dfl with
  | nil =>
    rw [hz] at F
    refine ⟨[], [], .nil, ?_, fun H φ => ?_⟩
    · rw [← p2]
      exact FunD.bindsN (ps := args.map (·.arg)) F fun kV doc pm an cdv ct us hl => bind_plain hnd hl
    · rw [List.drop_nil]
      exact .nil
  | cons z zs =>
    have hne : (mkDvs (atS f.at_) 0 f.dfl).map (He.Dv.v K) ≠ [] := fun q => by
      rw [q, hz] at hvl
      cases hvl
    rw [hz] at hm2
    have hzl : f.dfl.length = (z :: zs).length := by rw [hz]
    obtain ⟨ys, r1, r2⟩ := FunD.binds1 (ps := args.map (·.arg)) F m (f.dfl.length - (f.np - m)) hne (by rw [hvl, List.length_map, hal]; omega) fun T' kV doc pm an cdv ct us its h1 h2 => by
      have := bind_dfl (x := d.name) (qual := d.qual) (args := args) (ds := exs) (body := d.body) (scope := d.scope) (T := T') (kV := kV) (doc := doc) (pm := pm) (an := an) (cdv := cdv) (ct := ct) (us := us) (its := its) hnd (by omega) (by omega) (by omega)
      rw [show its.length - (args.length - us.length) = f.dfl.length - (f.np - m) by omega] at this
      exact this
    refine ⟨_, ys, r1, by rw [← p2]; exact r2, fun H φ => ?_⟩
    rw [← hz]
    exact (dflT_ok hdf H φ).drop _
/-- functions that are never run promise nothing -/
theorem dead_bad {i k : Nat} {f : Fn} (hi : T.fns[i]? = some f) (hd : deadB f = true) (l : List D) (m : M) : runF T k i l m = .bad := by
  cases k with
  | zero => rfl
  | succ k =>
    simp only [runF, hi]
    unfold deadB at hd
    split at hd
    · rename_i e
      rw [e]
      rfl
    · cases hd
end
end Pd

set_option maxHeartbeats 4000000
/-! Pd33: the law's def, by what the evaluator makes of it. -/
namespace Pd
open PySem PySem.Spec PyProof.Rows L2
section
variable {P : Program} {w : World} {K : PySem.W.Frag} {mg : Str → Option Value} {base : Heap} {T : Tab}
theorem fns_live (tb : TabOk K w mg T) (hf : ∀ i f, T.fns[i]? = some f → deadB f = false → FnFact K w T i f) : ∀ k i, FnR P w K mg base (L2.CX P w) (10 * k) (fnA K T i) (spF K w T (runF T k) i)
  | 0, i => fun A outer s H us vs Q E hr e0 rv hs => by
    obtain ⟨ds, l, m, φ, f, _, _, _, _, h⟩ := hs
    exact h.elim
  | k + 1, i => fun A outer s H us vs Q E hr e0 rv hs => by
    obtain ⟨ds, l, m, φ, f, hi, rd, Sm, hd, h⟩ := hs
    cases hdd : deadB f with
    | true =>
      rw [dead_bad hi hdd] at h
      exact h.elim
    | false =>
      obtain ⟨n, x, qual, params, body, sc, dvs, kws, fd, F, hn, hb⟩ := (hf i f hi hdd).ex
      have ok := fn_step tb (fns_live tb hf k) hi F hn
      have hd2 : (bif Nat.beq (ds ++ f.dfl.drop (f.dfl.length - (f.np - ds.length))).length f.np then some (ds ++ f.dfl.drop (f.dfl.length - (f.np - ds.length))) else none) = some l := hd
      cases e : Nat.beq (ds ++ f.dfl.drop (f.dfl.length - (f.np - ds.length))).length f.np with
      | false =>
        rw [e] at hd2
        cases hd2
      | true =>
        rw [e] at hd2
        cases hd2
        have e := Nat.eq_of_beq_eq_true e
        rw [List.length_append, List.length_drop] at e
        obtain ⟨ws, ys, rw_, bd, rr⟩ := hb ds.length (by omega) (by omega)
        refine ok.raw bd rw_ A outer s H us vs Q E hr e0 rv ?_
        have rl := rd.append (rr H φ)
        refine ⟨?_, _, m, φ, rl, Sm, h⟩
        rw [← rl.length, List.length_append, List.length_drop]
        exact e
/-- what is wanted of an exception, whatever the world -/
def CXw (P : Program) : CXT := fun outer H s E u s' => ∃ w, L2.CX P w outer H s E u s'
theorem FnOk.cxw {k : Nat} {f : Addr} {fd : FuncData} {ps : List Str} {sp : Sp} (F : FnOk P w K mg base (L2.CX P w) k f fd ps sp) : FnOk P w K mg base (CXw P) k f fd ps sp :=
  ⟨F.len, fun A outer s H args us vs Q E hr e0 hb rv hs => codeAny_mono (F.run A outer s H args us vs Q E hr e0 hb rv hs) fun r s' h => by
    cases r with
    | error e => exact ⟨w, h⟩
    | ok fl => cases fl <;> exact h⟩
theorem CXw_no (H : Hp) (s : Shared) (e : Value) (s' : Shared) (h : CXw P [] H s (fun _ _ _ => False) e s') : False := by
  obtain ⟨w, _, _, _, _, _, _, _, _, _, _, _, _, z⟩ := h
  exact z
theorem sim0 {H : Hp} : Sim K w T H [] [] := ⟨rfl, fun a c q h => (by cases h), fun a b q r h => (by cases h)⟩
theorem rels_ints {H : Hp} {φ : Foot} : ∀ ns : List Int, Rels K w T H φ (ns.map .int) (ns.map V.int)
  | [] => .nil
  | n :: ns => .cons (.int n) (rels_ints ns)
/-- the law's promise: the script is a list of whole numbers -/
def spLaw (K : PySem.W.Frag) : Sp := fun vs H Q _ => ∃ (a : Addr) (ns : List Int), vs = [.ref a] ∧ SqL K H a (ns.map V.int) ∧ ns.length ≤ 63 ∧ ∀ H', Q (.bl true) H'
theorem law_sp {cl : Call} {i : Nat} (hp : ∀ ns : List Int, ns.length ≤ 63 → ∃ m, cl i [.scr (ns.map .int)] [] = .ok (.bl true) m) (vs : List V) (H : Hp) (Q : VK) (E : XK) (h : spLaw K vs H Q E) : spAll K w T cl i 1 vs H Q E := by
  obtain ⟨a, ns, rfl, hs, hl, hq⟩ := h
  obtain ⟨m, hm⟩ := hp ns hl
  have hn : ∀ p, ¬ inFt ([] : Foot) p := fun p ⟨a, q, z, _⟩ => by cases z
  refine ⟨rfl, [.scr (ns.map .int)], [], [], .one (.scr ?_ (rels_ints ns)), sim0, ?_⟩
  · rcases hs with hs | hs
    · exact .inl ⟨hn _, hs⟩
    · exact .inr hs
  · rw [hm]
    intro H' φ' _ _ v rv
    cases rv
    exact hq H'
/-- the law's def keeps its promise -/
theorem law_ok {n k li : Nat} {f : Fn} {ds : List DefRow} {h : Heap} {fa : Addr} (hr : rowsOk T n T.fns ds = true) (X : K.In h) (G : h.Ns mainGlobals mg) (c : SaysP T (liveD T.fns ds) w K) (hli : T.fns[li]? = some f) (hd : deadB f = false) (hdf : f.dfl = []) (hps : pnames f = (["script"] : List Str))
    (hnp : f.np = 1) (hg : glook T.globs "law" = some (.fn li)) (hfa : mg ("law" : Str) = some (.ref fa)) (hp : ∀ ns : List Int, ns.length ≤ 63 → ∃ m, runF T (k + 1) li [.scr (ns.map .int)] [] = .ok (.bl true) m) :
    ∃ fd : FuncData, (∀ (s : Shared) (v : Value), BindsTo s fd ⟨[v], []⟩ [("script", v)]) ∧ ∀ base : Heap, K.In base → base.Ns mainGlobals mg → FnOk P w K mg base (CXw P) (10 * (k + 1)) fa fd ["script"] (spLaw K) := by
  have tb := says_tab X G c
  obtain ⟨j, y, hj, hy⟩ := glook_ok hg
  have e1 := tb.gf j y li hj
  rw [← hy, hfa] at e1
  cases Option.some.inj e1
  obtain ⟨d, a1, a2, a3⟩ := rows_at hr hli
  unfold rowOk at a2
  rw [hd] at a2
  obtain ⟨b1, b2, b⟩ := ba3 (show (decide (d.at_ = atS f.at_) && (nodeOk T n f d.scope d.body && (posParams d.params (pnames f) f.dfl.length && Nat.ble f.dfl.length f.np))) = true from a2)
  obtain ⟨b3, b4⟩ := Bool.and_eq_true_iff.mp b
  obtain ⟨fd, F⟩ := says_def c (a3 hd)
  have b1 := of_decide_eq_true b1
  obtain ⟨args, exs, p1, p2, p3⟩ := posParams_ok b3
  have hA : pAd K (mkD f d).at_ = fnA K T li := by
    show pAd K d.at_ = _
    rw [b1]
    unfold fnA
    rw [hli]
  rw [hA] at F
  have edv : (mkD f d).dvs K = [] := by
    show (mkDvs d.at_ 0 f.dfl).map (He.Dv.v K) = _
    rw [hdf]
    rfl
  rw [edv] at F
  have F : FunD K d.name d.qual d.params d.body d.scope [] [] (fnA K T li) fd := F
  have F2 := F
  rw [p1] at F2
  have hnd : (args.map (·.arg)).Nodup := by
    rw [p2, hps]
    decide
  refine ⟨fd, fun s v => ?_, fun base KB GB => ?_⟩
  · have := FunD.bindsA (ps := args.map (·.arg)) F2 (fun kV doc pm an cdv ct us hl => bind_plain hnd hl) s [v] (by rw [p2, hps]; rfl)
    rw [p2, hps] at this
    exact this
  · have tb2 := says_tab KB GB c
    have ok := fn_step (P := P) (base := base) tb2 (fns_live tb2 (fun i f hi hd => says_fn hr c hi hd) k) hli F b2
    rw [hps, hnp] at ok
    exact FnOk.cxw (FnOk.imp ok fun vs H Q E h => law_sp hp vs H Q E h)
end
end Pd

set_option maxHeartbeats 4000000
/-! Pe0: running the evaluator on open data: its steps as equations; pots and draws. -/
namespace Pe
open Pd
section
variable {T : Tab} {cl : Call} {n k : Nat} {ρ : Env} {m : M} {e : IE} {α β : Type}
theorem evE : (evn T cl (n + 1)).E e ρ m = stepE T cl (evn T cl n) e ρ m := rfl
theorem evT : (evn T cl (n + 1)).T e ρ m = stepT T cl (evn T cl n) e ρ m := rfl
theorem evS {s : ST} : (evn T cl (n + 1)).S s ρ m = stepS T cl (evn T cl n) s ρ m := rfl
theorem bind_ok_eq {a : α} {f : α → M → R β} : (R.ok a m).bind f = f a m := rfl
theorem blk_nil {S : ST → Env → M → R (Option D × Env)} : blk S [] ρ m = .ok (none, ρ) m := rfl
theorem blk_cons {S : ST → Env → M → R (Option D × Env)} {s : ST} {r : List ST} : blk S (s :: r) ρ m = (S s ρ m).bind fun o m => (match o with
    | (some d, ρ) => .ok (some d, ρ) m
    | (none, ρ) => blk S r ρ m) := rfl
theorem run_eq {i : Nat} {f : Fn} {ds : List D} (h : T.fns[i]? = some f) : runF T (k + 1) i ds m = (blk (evn T (runF T k) fuel).S f.body (ds.map some ++ List.replicate (f.names.length - ds.length) none) m).bind fun o m => (match o with
      | (some d, _) => .ok d m
      | (none, _) => .ok .non m) := by
  simp only [runF, h]
  try rfl
mutual
theorem D.beq_refl : ∀ d : D, D.beq d d = true
  | .non => rfl
  | .bl _ => by simp [D.beq]
  | .int _ => by simp [D.beq]
  | .str _ => by simp [D.beq]
  | .tup x => by rw [D.beq]; exact D.beqs_refl x
  | .fl x => by rw [D.beq]; exact D.beqs_refl x
  | .scr x => by rw [D.beq]; exact D.beqs_refl x
  | .fd x => by rw [D.beq]; exact D.beqk_refl x
  | .wd x => by rw [D.beq]; exact D.beqk_refl x
  | .obj c x => by rw [D.beq, D.beqs_refl x]; simp
  | .ref _ => by simp [D.beq]
  | .fn _ => by simp [D.beq]
  | .exn c x => by rw [D.beq, D.beq_refl x]; simp
theorem D.beqs_refl : ∀ d : List D, D.beqs d d = true
  | [] => rfl
  | x :: r => by rw [D.beqs, D.beq_refl x, D.beqs_refl r]; rfl
theorem D.beqk_refl : ∀ d : List (D × D), D.beqk d d = true
  | [] => rfl
  | (x, y) :: r => by rw [D.beqk, D.beq_refl x, D.beq_refl y, D.beqk_refl r]; rfl
end
theorem optBeq_refl : ∀ d : List (Option D), optBeq d d = true
  | [] => rfl
  | none :: r => by rw [optBeq]; exact optBeq_refl r
  | some x :: r => by rw [optBeq, D.beq_refl x, optBeq_refl r]; rfl
theorem Cell.beq_refl : ∀ c : Cell, Cell.beq c c = true
  | .lst x => D.beqs_refl x
  | .dic x => D.beqk_refl x
  | .ins c x => by rw [Cell.beq, optBeq_refl x]; simp
  | .hid => rfl
theorem oldOk_self : ∀ (n : Nat) (m r : M), oldOk n m (m ++ r) = true
  | _, [], _ => rfl
  | n, c :: m, r => by
    show ((Cell.under n c || Cell.beq c c) && oldOk n m (m ++ r)) = true
    rw [Cell.beq_refl, oldOk_self n m r, Bool.or_true]
    rfl
theorem oldOk_set (n : Nat) (c : Cell) (hc : Cell.under n c = true) : ∀ (m : M) (j : Nat), oldOk n m (m.set j c) = true
  | [], _ => rfl
  | x :: m, 0 => by
    show ((Cell.under n c || Cell.beq x c) && oldOk n m m) = true
    have := oldOk_self n m []
    rw [List.append_nil] at this
    rw [hc, this]
    rfl
  | x :: m, j + 1 => by
    show ((Cell.under n x || Cell.beq x x) && oldOk n m (m.set j c)) = true
    rw [Cell.beq_refl, oldOk_set n c hc m j, Bool.or_true]
    rfl
end
theorem okInt_of {i : Int} (h1 : -big < i) (h2 : i < big) : okInt i = true := by
  unfold okInt
  rw [decide_eq_true h1, decide_eq_true h2]
  rfl
theorem okInt_lt {i : Int} (h0 : 0 ≤ i) (h : i < 2 ^ 3999) : okInt i = true := by
  have h2 : (2 : Int) ^ 3999 < big := by decide +kernel
  have h3 : (0 : Int) < 2 ^ 3999 := by decide +kernel
  exact okInt_of (by omega) (by omega)
/-! ### pots -/
/-- the body of take, by its five numbers -/
def takeBody (C1 C2 C3 C4 C5 : Int) : List ST := [.ifs (.cmp .gt (.idx (.var 0) (.k (.int 0))) (.k (.int 0))) [.asg (.nm 4) (.bin .mod (.bi .int [(.idx (.var 0) (.k (.int 0)))]) (.var 1)), .sub (.var 0) (.k (.int 0)) (.bin .fdiv (.idx (.var 0) (.k (.int 0))) (.var 1)), .ret (.var 4)] [], .sub (.var 0) (.k (.int 2)) (.bin .add (.idx (.var 0) (.k (.int 2))) (.k (.int 1))), .asg (.nm 2) (.idx (.lst false [.one (.k (.int 2147483647)), .one (.k (.int 2147483629)), .one (.k (.int 2147483587)), .one (.k (.int 2147483579)), .one (.k (.int 2147483563))]) (.bin .mod (.bi .int [(.idx (.var 0) (.k (.int 2)))]) (.k (.int 5)))), .asg (.nm 3) (.bin .mod (.bi .int [(.bin .pow (.bi .int [(.bin .add (.bin .add (.idx (.var 0) (.k (.int 1))) (.bin .mul (.bin .mul (.k (.int C1)) (.idx (.var 0) (.k (.int 2)))) (.idx (.var 0) (.k (.int 2))))) (.k (.int C2)))]) (.k (.int 3)))]) (.var 2)), .ret (.bin .mod (.bi .int [(.bin .fdiv (.bin .mul (.var 3) (.bin .add (.bin .mod (.bi .int [(.var 3)]) (.k (.int C3))) (.bin .mul (.k (.int C4)) (.idx (.var 0) (.k (.int 2)))))) (.k (.int C5)))]) (.var 1))]
def potC (a b c : Int) : Cell := .lst [.int a, .int b, .int c]
/-- a pot as it should be -/
structure Pot (a b c : Int) : Prop where
  a0 : 0 ≤ a
  a1 : a < 2 ^ 2000
  b0 : 0 ≤ b
  b1 : b < 2 ^ 61
  c0 : 0 ≤ c
  c1 : c < 2 ^ 60
theorem pot_at {m : M} {j : Nat} {a b c : Int} (h : m[j]? = some (potC a b c)) : j < m.length := (List.getElem?_eq_some_iff.mp h).1
end Pe

set_option maxHeartbeats 4000000
/-! Pe1: a draw from a pot. -/
namespace Pe
open Pd
section
variable {T : Tab} {cl : Call} {k : Nat} {m : M}
theorem small_ok {i : Int} (h0 : 0 ≤ i) (h : i < 2 ^ 2001) : okInt i = true := by
  have h2 : (2 : Int) ^ 2001 < 2 ^ 3999 := by decide +kernel
  exact okInt_lt h0 (by omega)
theorem idx_ref {j p : Nat} {xs : List D} {i : Int} {d : D} (hm : m[j]? = some (.lst xs)) (hp : placeOf xs.length i = some p) (hd : xs[p]? = some d) : idxF (.ref j) (.int i) m = .ok d m := by
  simp only [idxF, itemsOf, hm, hp, hd]
theorem idx_fl {p : Nat} {xs : List D} {i : Int} {d : D} (hp : placeOf xs.length i = some p) (hd : xs[p]? = some d) : idxF (.fl xs) (.int i) m = .ok d m := by
  simp only [idxF, itemsOf, hp, hd]
theorem idx_scr {p : Nat} {xs : List D} {i : Int} {d : D} (hp : placeOf xs.length i = some p) (hd : xs[p]? = some d) : idxF (.scr xs) (.int i) m = .ok d m := by
  simp only [idxF, itemsOf, hp, hd]
theorem bi_int {i : Int} : biF T cl .int [.int i] m = .ok (.int i) m := rfl
theorem bin_add {a b : Int} : binF T cl .add (.int a) (.int b) m = .ok (.int (a + b)) m := rfl
theorem bin_sub {a b : Int} : binF T cl .sub (.int a) (.int b) m = .ok (.int (a - b)) m := rfl
theorem bin_mul {a b : Int} (h1 : okInt a = true) (h2 : okInt b = true) : binF T cl .mul (.int a) (.int b) m = .ok (.int (a * b)) m := by
  show (bif okInt a && okInt b then _ else _) = _
  rw [h1, h2]
  rfl
theorem bin_mod {a b : Int} (h1 : 0 < b) : binF T cl .mod (.int a) (.int b) m = .ok (.int (a % b)) m := by
  show (bif decide (0 < b) then _ else _) = _
  rw [decide_eq_true h1]
  rfl
theorem bin_fdiv {a b : Int} (h1 : 0 < b) (h2 : okInt b = true) : binF T cl .fdiv (.int a) (.int b) m = .ok (.int (a / b)) m := by
  show (bif decide (0 < b) && okInt b then _ else _) = _
  rw [decide_eq_true h1, h2]
  rfl
theorem bin_pow {a b : Int} (h1 : 0 ≤ b) (h2 : b ≤ 100) (h3 : okInt a = true) : binF T cl .pow (.int a) (.int b) m = .ok (.int (a ^ b.toNat)) m := by
  show (bif decide (0 ≤ b) && (decide (b ≤ 100) && okInt a) then _ else _) = _
  rw [decide_eq_true h1, decide_eq_true h2, h3]
  rfl
theorem cmp_gt {a b : Int} : cmpF T cl .gt (.int a) (.int b) m = .ok (decide (b < a)) m := rfl
theorem isBl_bl {b : Bool} : isBl (.bl b) m = .ok b m := rfl
theorem lst_new {xs : List D} (h : okLen xs.length = true) : listOf false xs m = .ok (.fl xs) m := by
  unfold listOf
  rw [h]
  rfl
theorem lst_keep {xs : List D} (h : okLen xs.length = true) : listOf true xs m = .ok (.ref m.length) (m ++ [.lst xs]) := by
  unfold listOf
  rw [h]
  rfl
theorem evL_nil {E : IE → Env → M → R D} {ρ : Env} : evL E [] ρ m = .ok [] m := rfl
theorem evL_cons {E : IE → Env → M → R D} {ρ : Env} {e : IE} {es : List IE} : evL E (e :: es) ρ m = (E e ρ m).bind fun d m => (evL E es ρ m).bind fun ds m => .ok (d :: ds) m := rfl
theorem evA_nil {E : IE → Env → M → R D} {ρ : Env} : evA E [] ρ m = .ok [] m := rfl
theorem evA_one {E : IE → Env → M → R D} {ρ : Env} {e : IE} {es : List IA} : evA E (.one e :: es) ρ m = (E e ρ m).bind fun d m => (evA E es ρ m).bind fun ds m => .ok (d :: ds) m := rfl
theorem mod5 (c : Int) : ∃ p : Nat, placeOf 5 (c % 5) = some p ∧ p < 5 := by
  have h1 := Int.emod_nonneg c (show (5 : Int) ≠ 0 by decide)
  have h2 := Int.emod_lt_of_pos c (show (0 : Int) < 5 by decide)
  refine ⟨(c % 5).toNat, ?_, by omega⟩
  unfold placeOf
  rw [if_pos h1, if_pos (by omega)]
theorem pl30 : placeOf 3 0 = some 0 := rfl
theorem pl31 : placeOf 3 1 = some 1 := rfl
theorem pl32 : placeOf 3 2 = some 2 := rfl
theorem mul_lt_pow {x y : Int} {a b : Nat} (hx : 0 ≤ x) (hy : 0 ≤ y) (h1 : x < 2 ^ a) (h2 : y < 2 ^ b) : 0 ≤ x * y ∧ x * y < 2 ^ (a + b) := by
  refine ⟨Int.mul_nonneg hx hy, ?_⟩
  rw [Int.pow_add]
  have p : (0 : Int) < 2 ^ b := Int.pow_pos (by decide)
  calc x * y ≤ x * 2 ^ b := Int.mul_le_mul_of_nonneg_left (Int.le_of_lt h2) hx
    _ < 2 ^ a * 2 ^ b := Int.mul_lt_mul_of_pos_right h1 p
theorem take_run {i j : Nat} {f : Fn} {a b c u C1 C2 C3 C4 C5 : Int} (hf : T.fns[i]? = some f) (hb : f.body = takeBody C1 C2 C3 C4 C5) (hn : f.names.length = 5) (hm : m[j]? = some (potC a b c)) (P : Pot a b c) (hu : 0 < u) (hu2 : u < 2 ^ 60)
    (h1 : 0 ≤ C1 ∧ C1 < 2 ^ 40) (h2 : 0 ≤ C2 ∧ C2 < 2 ^ 40) (h3 : 0 < C3 ∧ C3 < 2 ^ 40) (h4 : 0 ≤ C4 ∧ C4 < 2 ^ 40) (h5 : 0 < C5 ∧ C5 < 2 ^ 40) :
    ∃ r a' c' : Int, runF T (k + 1) i [.ref j, .int u] m = .ok (.int r) (m.set j (potC a' b c')) ∧ 0 ≤ r ∧ r < u ∧ 0 ≤ a' ∧ a' ≤ a ∧ c ≤ c' ∧ c' ≤ c + 1 := by
  have hj := pot_at hm
  rw [run_eq hf, hb, hn]
  unfold takeBody
  have hf : fuel = 4980 + 20 := rfl
  rw [hf]
  have ku : okInt u = true := small_ok (by omega) (by omega)
  by_cases ha : 0 < a
  · refine ⟨a % u, a / u, c, ?_, Int.emod_nonneg _ (by omega), Int.emod_lt_of_pos _ hu, Int.ediv_nonneg P.a0 (by omega), Int.ediv_le_self _ P.a0, by omega, by omega⟩
    have q0 : idxF (.ref j) (.int 0) m = .ok (.int a) m := idx_ref hm pl30 rfl
    simp only [blk_cons, blk_nil, evS, evE, evT, stepS, stepT, stepE, bind_ok_eq, varF, List.map_cons, List.map_nil, List.cons_append, List.nil_append, List.length_cons, List.length_nil, List.replicate, Nat.reduceSub, Nat.reduceAdd,
      List.getElem?_cons_zero, List.getElem?_cons_succ, q0, cmp_gt, isBl_bl, decide_eq_true ha, cond_true, cond_false, evL_cons, evL_nil, bi_int, bin_mod hu, bin_fdiv hu ku, tgt, setE, List.set, hm, potC, pl30]
  · have ha : a = 0 := by have := P.a0; omega
    subst ha
    obtain ⟨p, hp, hp5⟩ := mod5 (c + 1)
    obtain ⟨pr, hpr, hpr0, hpr1⟩ : ∃ pr : Int, ([.int 2147483647, .int 2147483629, .int 2147483587, .int 2147483579, .int 2147483563] : List D)[p]? = some (.int pr) ∧ 0 < pr ∧ pr < 2 ^ 31 := by
      match p, hp5 with
      | 0, _ => exact ⟨_, rfl, by decide, by decide⟩
      | 1, _ => exact ⟨_, rfl, by decide, by decide⟩
      | 2, _ => exact ⟨_, rfl, by decide, by decide⟩
      | 3, _ => exact ⟨_, rfl, by decide, by decide⟩
      | 4, _ => exact ⟨_, rfl, by decide, by decide⟩
    have hc := P.c0
    have hc1 := P.c1
    have hb0 := P.b0
    have hb1 := P.b1
    have z1 := mul_lt_pow (a := 40) (b := 61) h1.1 (show 0 ≤ c + 1 by omega) h1.2 (by omega)
    have z2 := mul_lt_pow (a := 101) (b := 61) z1.1 (show 0 ≤ c + 1 by omega) z1.2 (by omega)
    obtain ⟨B, hB⟩ : ∃ B, B = (b + C1 * (c + 1) * (c + 1) + C2) ^ 3 % pr := ⟨_, rfl⟩
    have hB0 : 0 ≤ B := by rw [hB]; exact Int.emod_nonneg _ (by omega)
    have hB1 : B < 2 ^ 31 := by
      have : B < pr := by rw [hB]; exact Int.emod_lt_of_pos _ hpr0
      omega
    have w1 : 0 ≤ B % C3 ∧ B % C3 < 2 ^ 40 := ⟨Int.emod_nonneg _ (by omega), by have := Int.emod_lt_of_pos B h3.1; omega⟩
    have w2 := mul_lt_pow (a := 40) (b := 61) h4.1 (show 0 ≤ c + 1 by omega) h4.2 (by omega)
    have k1 : okInt C1 = true := small_ok h1.1 (by omega)
    have k2 : okInt (c + 1) = true := small_ok (by omega) (by omega)
    have k3 : okInt (C1 * (c + 1)) = true := small_ok z1.1 (Int.lt_of_lt_of_le z1.2 (by decide +kernel))
    have k4 : okInt (b + C1 * (c + 1) * (c + 1) + C2) = true := small_ok (by omega) (Int.lt_of_lt_of_le (show _ < (2 : Int) ^ 163 by omega) (by decide +kernel))
    have k5 : okInt B = true := small_ok hB0 (Int.lt_of_lt_of_le hB1 (by decide +kernel))
    have k6 : okInt C4 = true := small_ok h4.1 (by omega)
    have k7 : okInt (B % C3 + C4 * (c + 1)) = true := small_ok (by omega) (Int.lt_of_lt_of_le (show _ < (2 : Int) ^ 102 by omega) (by decide +kernel))
    have k8 : okInt C5 = true := small_ok (by omega) (by omega)
    refine ⟨B * (B % C3 + C4 * (c + 1)) / C5 % u, 0, c + 1, ?_, Int.emod_nonneg _ (by omega), Int.emod_lt_of_pos _ hu, by omega, by omega, by omega, by omega⟩
    have q0 : idxF (.ref j) (.int 0) m = .ok (.int 0) m := idx_ref hm pl30 rfl
    have q2 : idxF (.ref j) (.int 2) m = .ok (.int c) m := idx_ref hm pl32 rfl
    have hm' : (m.set j (.lst [.int 0, .int b, .int (c + 1)]))[j]? = some (.lst [.int 0, .int b, .int (c + 1)]) := List.getElem?_set_self hj
    have q1 : idxF (.ref j) (.int 1) (m.set j (.lst [.int 0, .int b, .int (c + 1)])) = .ok (.int b) (m.set j (.lst [.int 0, .int b, .int (c + 1)])) := idx_ref hm' pl31 rfl
    have q3 : idxF (.ref j) (.int 2) (m.set j (.lst [.int 0, .int b, .int (c + 1)])) = .ok (.int (c + 1)) (m.set j (.lst [.int 0, .int b, .int (c + 1)])) := idx_ref hm' pl32 rfl
    have qp : idxF (.fl [.int 2147483647, .int 2147483629, .int 2147483587, .int 2147483579, .int 2147483563]) (.int ((c + 1) % 5)) (m.set j (.lst [.int 0, .int b, .int (c + 1)])) = .ok (.int pr) (m.set j (.lst [.int 0, .int b, .int (c + 1)])) := idx_fl hp hpr
    have ql : listOf false [.int 2147483647, .int 2147483629, .int 2147483587, .int 2147483579, .int 2147483563] (m.set j (.lst [.int 0, .int b, .int (c + 1)])) = .ok (.fl [.int 2147483647, .int 2147483629, .int 2147483587, .int 2147483579, .int 2147483563]) (m.set j (.lst [.int 0, .int b, .int (c + 1)])) := lst_new rfl
    have hB' : (b + C1 * (c + 1) * (c + 1) + C2) ^ Int.toNat 3 % pr = B := hB.symm
    simp only [blk_cons, blk_nil, evS, evE, evT, stepS, stepT, stepE, bind_ok_eq, varF, List.map_cons, List.map_nil, List.cons_append, List.nil_append, List.length_cons, List.length_nil, List.replicate, Nat.reduceSub, Nat.reduceAdd,
      List.getElem?_cons_zero, List.getElem?_cons_succ, q0, q2, cmp_gt, isBl_bl, Int.lt_irrefl, decide_false, cond_true, cond_false, evL_cons, evL_nil, evA_one, evA_nil, bi_int, bin_add, tgt, setE, List.set, hm, potC, pl30, pl32, q1, q3,
      bin_mod (show (0 : Int) < 5 by decide), ql, qp, hB', bin_mod h3.1, bin_mul k6 k2, bin_mul k5 k7, bin_fdiv h5.1 k8, bin_mod hu, bin_mul k1 k2, bin_mul k3 k2, bin_pow (show (0 : Int) ≤ 3 by decide) (show (3 : Int) ≤ 100 by decide) k4, bin_mod hpr0]
/-- a function that gets a cell is called -/
theorem call_open {i : Nat} {f : Fn} {ds l : List D} {r : R D} (hf : T.fns[i]? = some f) (hd : defaults f ds = some l) (hk : f.keep = false) (hu : D.unders 0 l = false) (h : cl i l m = r) : callF T cl i ds m = closeR m r := by
  unfold callF
  rw [hf]
  dsimp only
  rw [hd]
  dsimp only
  rw [hk, hu, h]
  rfl
theorem close_int {r : Int} {m m' : M} (hl : m'.length = m.length) (ho : oldOk m.length m m' = true) : closeR m (.ok (.int r) m') = .ok (.int r) m' := by
  show (bif oldOk m.length m m' then _ else _) = _
  rw [ho]
  show R.ok (D.int r) (m'.take m.length) = _
  rw [← hl, List.take_length]
theorem pot_under (n : Nat) (a b c : Int) : Cell.under n (potC a b c) = true := rfl
/-- take(pot, u) -/
theorem take_call {i j : Nat} {f : Fn} {a b c u C1 C2 C3 C4 C5 : Int} (hf : T.fns[i]? = some f) (hb : f.body = takeBody C1 C2 C3 C4 C5) (hn : f.names.length = 5) (hnp : f.np = 2) (hdf : f.dfl = []) (hk : f.keep = false) (hm : m[j]? = some (potC a b c)) (P : Pot a b c) (hu : 0 < u) (hu2 : u < 2 ^ 60)
    (h1 : 0 ≤ C1 ∧ C1 < 2 ^ 40) (h2 : 0 ≤ C2 ∧ C2 < 2 ^ 40) (h3 : 0 < C3 ∧ C3 < 2 ^ 40) (h4 : 0 ≤ C4 ∧ C4 < 2 ^ 40) (h5 : 0 < C5 ∧ C5 < 2 ^ 40) :
    ∃ r a' c' : Int, callF T (runF T (k + 1)) i [.ref j, .int u] m = .ok (.int r) (m.set j (potC a' b c')) ∧ 0 ≤ r ∧ r < u ∧ 0 ≤ a' ∧ a' ≤ a ∧ c ≤ c' ∧ c' ≤ c + 1 := by
  obtain ⟨r, a', c', e, q⟩ := take_run (k := k) hf hb hn hm P hu hu2 h1 h2 h3 h4 h5
  refine ⟨r, a', c', ?_, q⟩
  rw [call_open hf (l := [.ref j, .int u]) (by unfold defaults; rw [hnp, hdf]; rfl) hk rfl e]
  exact close_int (List.length_set ..) (oldOk_set _ _ (pot_under _ _ _ _) _ _)
end
end Pe

set_option maxHeartbeats 4000000
/-! Pe2: a pot is made; the law's loop over its cells. -/
namespace Pe
open Pd
section
variable {T : Tab} {cl : Call} {k : Nat} {m : M}
def potBody (C1 C2 C3 C4 C5 : Int) : List ST := [.asg (.nm 2) (.ite (.cmp .lt (.var 1) (.bi .len [(.var 0)])) (.idx (.var 0) (.var 1)) (.bin .add (.bin .mul (.k (.int C1)) (.var 1)) (.k (.int C2)))), .asg (.nm 3) (.bin .mul (.bin .mod (.bi .int [(.bi .abs [(.var 2)])]) (.bin .pow (.bin .pow (.k (.int 10)) (.k (.int 60))) (.k (.int 5)))) (.bi .int [(.cmp .ge (.bi .abs [(.var 2)]) (.bin .pow (.k (.int 10)) (.k (.int 18))))])), .asg (.nm 4) (.bin .mod (.bi .int [(.var 2)]) (.k (.int 2305843009213693951))), .ret (.lst true [.one (.var 3), .one (.bin .mod (.bi .int [(.bin .add (.bin .add (.bin .mul (.var 4) (.k (.int C3))) (.bin .mul (.bin .mul (.k (.int C4)) (.var 1)) (.var 1))) (.k (.int C5)))]) (.k (.int 2305843009213693921))), .one (.k (.int 0))])]
theorem bi_len_scr {xs : List D} : biF T cl .len [.scr xs] m = .ok (.int xs.length) m := rfl
theorem bi_abs {i : Int} : biF T cl .abs [.int i] m = .ok (.int (if i < 0 then -i else i)) m := rfl
theorem bi_bool {b : Bool} : biF T cl .int [.bl b] m = .ok (.int (if b = true then 1 else 0)) m := rfl
theorem cmp_lt {a b : Int} : cmpF T cl .lt (.int a) (.int b) m = .ok (decide (a < b)) m := rfl
theorem cmp_ge {a b : Int} : cmpF T cl .ge (.int a) (.int b) m = .ok (decide (b ≤ a)) m := rfl
theorem potTail {C1 C2 C3 C4 C5 x p : Int} {s : D} (hp0 : 0 ≤ p) (hp1 : p < 2 ^ 20) (h3 : 0 ≤ C3 ∧ C3 < 2 ^ 40) (h4 : 0 ≤ C4 ∧ C4 < 2 ^ 40) (h5 : 0 ≤ C5 ∧ C5 < 2 ^ 40) :
    ∃ a b : Int, (blk (evn T cl fuel).S ((potBody C1 C2 C3 C4 C5).drop 1) [some s, some (.int p), some (.int x), none, none] m).bind (fun o m => (match o with
      | (some d, _) => .ok d m
      | (none, _) => .ok .non m)) = .ok (.ref m.length) (m ++ [potC a b 0]) ∧ Pot a b 0 := by
  have hf : fuel = 4980 + 20 := rfl
  rw [hf]
  obtain ⟨y, hy⟩ : ∃ y : Int, y = (if x < 0 then -x else x) := ⟨_, rfl⟩
  obtain ⟨M, hM⟩ : ∃ M : Int, M = (10 ^ 60) ^ 5 := ⟨_, rfl⟩
  obtain ⟨N, hN⟩ : ∃ N : Int, N = 10 ^ 18 := ⟨_, rfl⟩
  have hM0 : 0 < M := by rw [hM]; decide +kernel
  have hM1 : M < 2 ^ 2000 := by rw [hM]; decide +kernel
  obtain ⟨A, hA⟩ : ∃ A : Int, A = y % M := ⟨_, rfl⟩
  have hA0 : 0 ≤ A := by rw [hA]; exact Int.emod_nonneg _ (by omega)
  have hA1 : A < M := by rw [hA]; exact Int.emod_lt_of_pos _ hM0
  obtain ⟨B, hB⟩ : ∃ B : Int, B = x % 2305843009213693951 := ⟨_, rfl⟩
  have hB0 : 0 ≤ B := by rw [hB]; exact Int.emod_nonneg _ (by decide)
  have hB1 : B < 2 ^ 61 := by have := Int.emod_lt_of_pos x (show (0 : Int) < 2305843009213693951 by decide); omega
  obtain ⟨g, hg⟩ : ∃ g : Int, g = (if decide (N ≤ y) = true then 1 else 0) := ⟨_, rfl⟩
  have hg0 : 0 ≤ g ∧ g ≤ 1 := by rw [hg]; split <;> omega
  have z1 := mul_lt_pow (a := 61) (b := 40) hB0 h3.1 hB1 h3.2
  have z2 := mul_lt_pow (a := 40) (b := 20) h4.1 hp0 h4.2 hp1
  have z3 := mul_lt_pow (a := 60) (b := 20) z2.1 hp0 z2.2 hp1
  obtain ⟨S, hS⟩ : ∃ S : Int, S = (B * C3 + C4 * p * p + C5) % 2305843009213693921 := ⟨_, rfl⟩
  have hS0 : 0 ≤ S := by rw [hS]; exact Int.emod_nonneg _ (by decide)
  have hS1 : S < 2 ^ 61 := by have := Int.emod_lt_of_pos (B * C3 + C4 * p * p + C5) (show (0 : Int) < 2305843009213693921 by decide); omega
  have k1 : okInt A = true := small_ok hA0 (by omega)
  have k2 : okInt g = true := small_ok hg0.1 (by have : (1 : Int) < 2 ^ 2001 := by decide +kernel
                                                 omega)
  have k3 : okInt B = true := small_ok hB0 (Int.lt_of_lt_of_le hB1 (by decide +kernel))
  have k4 : okInt C3 = true := small_ok h3.1 (by omega)
  have k5 : okInt C4 = true := small_ok h4.1 (by omega)
  have k6 : okInt p = true := small_ok hp0 (by omega)
  have k7 : okInt (C4 * p) = true := small_ok z2.1 (Int.lt_of_lt_of_le z2.2 (by decide +kernel))
  have hAg : 0 ≤ A * g ∧ A * g ≤ A := by
    rcases (show g = 0 ∨ g = 1 by omega) with e | e
    · rw [e]; simp [hA0]
    · rw [e]; simp [hA0]
  refine ⟨A * g, S, ?_, ⟨hAg.1, by omega, hS0, hS1, by decide, by decide⟩⟩
  unfold potBody
  have e1 : binF T cl .pow (.int 10) (.int 60) m = .ok (.int (10 ^ 60)) m := bin_pow (by decide) (by decide) (by decide +kernel)
  have e2 : binF T cl .pow (.int (10 ^ 60)) (.int 5) m = .ok (.int M) m := by rw [hM]; exact bin_pow (by decide) (by decide) (by decide +kernel)
  have e3 : binF T cl .pow (.int 10) (.int 18) m = .ok (.int N) m := by rw [hN]; exact bin_pow (by decide) (by decide) (by decide +kernel)
  have ek : listOf true [.int (A * g), .int S, .int 0] m = .ok (.ref m.length) (m ++ [.lst [.int (A * g), .int S, .int 0]]) := lst_keep rfl
  simp only [List.drop_succ_cons, List.drop_zero, blk_cons, blk_nil, evS, evE, evT, stepS, stepT, stepE, bind_ok_eq, varF, List.getElem?_cons_zero, List.getElem?_cons_succ, evL_cons, evL_nil, bi_abs, ← hy, bi_int, e1, e2, e3, bin_mod hM0, ← hA, cmp_ge, bi_bool, ← hg, bin_mul k1 k2, tgt, setE, List.set,
    bin_mod (show (0 : Int) < 2305843009213693951 by decide), ← hB, evA_one, evA_nil, bin_mul k3 k4, bin_mul k5 k6, bin_mul k7 k6, bin_add, bin_mod (show (0 : Int) < 2305843009213693921 by decide), ← hS, ek, potC]
/-- pot(script, p) -/
theorem pot_call {i : Nat} {f : Fn} {ns : List Int} {p C1 C2 C3 C4 C5 : Int} (hf : T.fns[i]? = some f) (hb : f.body = potBody C1 C2 C3 C4 C5) (hn : f.names.length = 5) (hnp : f.np = 2) (hdf : f.dfl = []) (hk : f.keep = true) (hp0 : 0 ≤ p) (hp1 : p < 2 ^ 20)
    (h1 : 0 ≤ C1 ∧ C1 < 2 ^ 40) (h3 : 0 ≤ C3 ∧ C3 < 2 ^ 40) (h4 : 0 ≤ C4 ∧ C4 < 2 ^ 40) (h5 : 0 ≤ C5 ∧ C5 < 2 ^ 40) :
    ∃ a b : Int, callF T (runF T (k + 1)) i [.scr (ns.map .int), .int p] m = .ok (.ref m.length) (m ++ [potC a b 0]) ∧ Pot a b 0 := by
  have hx : ∃ x : Int, (evn T (runF T k) fuel).S ((potBody C1 C2 C3 C4 C5).head (by simp [potBody])) [some (.scr (ns.map .int)), some (.int p), none, none, none] m = .ok (none, [some (.scr (ns.map .int)), some (.int p), some (.int x), none, none]) m := by
    have hf : fuel = 4980 + 20 := rfl
    rw [hf]
    unfold potBody
    by_cases hl : p < ((ns.map D.int).length : Int)
    · have hi : p.toNat < ns.length := by
        rw [List.length_map] at hl
        omega
      refine ⟨ns[p.toNat], ?_⟩
      have e1 : idxF (.scr (ns.map .int)) (.int p) m = .ok (.int ns[p.toNat]) m := idx_scr (p := p.toNat) (by unfold placeOf; rw [if_pos hp0, if_pos hl]) (by simp [hi])
      simp only [List.head_cons, evS, evE, evT, stepS, stepT, stepE, bind_ok_eq, varF, List.getElem?_cons_zero, List.getElem?_cons_succ, evL_cons, evL_nil, bi_len_scr, cmp_lt, decide_eq_true hl, isBl_bl, cond_true, e1, tgt, setE, List.set]
    · refine ⟨C1 * p + C2, ?_⟩
      have k1 : okInt C1 = true := small_ok h1.1 (by omega)
      have k2 : okInt p = true := small_ok hp0 (by omega)
      simp only [List.head_cons, evS, evE, evT, stepS, stepT, stepE, bind_ok_eq, varF, List.getElem?_cons_zero, List.getElem?_cons_succ, evL_cons, evL_nil, bi_len_scr, cmp_lt, decide_eq_false hl, isBl_bl, cond_false, bin_mul k1 k2, bin_add, tgt, setE, List.set]
  obtain ⟨x, hx⟩ := hx
  obtain ⟨a, b, e, P⟩ := potTail (T := T) (cl := runF T k) (m := m) (C1 := C1) (C2 := C2) (C3 := C3) (C4 := C4) (C5 := C5) (x := x) (p := p) (s := .scr (ns.map .int)) hp0 hp1 h3 h4 h5
  refine ⟨a, b, ?_, P⟩
  have hd : defaults f [.scr (ns.map .int), .int p] = some [.scr (ns.map .int), .int p] := by unfold defaults; rw [hnp, hdf]; rfl
  have hcall : callF T (runF T (k + 1)) i [.scr (ns.map .int), .int p] m = runF T (k + 1) i [.scr (ns.map .int), .int p] m := by
    unfold callF
    rw [hf]
    dsimp only
    rw [hd]
    dsimp only
    rw [hk]
    rfl
  rw [hcall, run_eq hf, hb, hn]
  have hpb : potBody C1 C2 C3 C4 C5 = (potBody C1 C2 C3 C4 C5).head (by simp [potBody]) :: (potBody C1 C2 C3 C4 C5).drop 1 := by simp [potBody]
  rw [hpb, blk_cons]
  have hr : List.map some [D.scr (ns.map .int), D.int p] ++ List.replicate (5 - [D.scr (ns.map .int), D.int p].length) none = [some (.scr (ns.map .int)), some (.int p), none, none, none] := rfl
  rw [hr, hx, bind_ok_eq]
  exact e
/-! ### the law's loop -/
theorem lc_all {f : D → M → R (List D)} {h : M → Bool} {m : M} (hh : h m = true) : ∀ {xs : List D}, (∀ x ∈ xs, f x m = .ok [.bl true] m) → lcLoop f h xs m = .ok (List.replicate xs.length (.bl true)) m
  | [], _ => rfl
  | x :: xs, hx => by
    show ((f x m).bind fun o m => bif h m then (lcLoop f h xs m).bind fun ys m => .ok (o ++ ys) m else .bad) = _
    rw [hx x (.head _), bind_ok_eq, hh]
    show (lcLoop f h xs m).bind _ = _
    rw [lc_all hh fun y hy => hx y (.tail _ hy)]
    rfl
theorem blsOf_true : ∀ n : Nat, blsOf (List.replicate n (.bl true)) = some (List.replicate n true)
  | 0 => rfl
  | n + 1 => by
    show (blsOf (List.replicate n (.bl true))).map (true :: ·) = _
    rw [blsOf_true n]
    rfl
theorem unders_true (k : Nat) : ∀ n : Nat, D.unders k (List.replicate n (.bl true)) = true
  | 0 => rfl
  | n + 1 => by
    show (true && D.unders k (List.replicate n (.bl true))) = true
    rw [unders_true k n]
    rfl
end
end Pe

set_option maxHeartbeats 4000000
/-! Pe3: closed calls, one of a row, the law's def. -/
namespace Pe
open Pd
section
variable {T : Tab} {cl : Call} {k : Nat} {m : M}
theorem blk_append {S : ST → Env → M → R (Option D × Env)} : ∀ {xs ys : List ST} {ρ : Env} {m : M}, blk S (xs ++ ys) ρ m = (blk S xs ρ m).bind fun o m => (match o with
    | (some d, ρ) => .ok (some d, ρ) m
    | (none, ρ) => blk S ys ρ m)
  | [], ys, ρ, m => rfl
  | x :: xs, ys, ρ, m => by
    rw [List.cons_append, blk_cons, blk_cons]
    cases S x ρ m with
    | bad => rfl
    | exc c d m => rfl
    | ok o m =>
      obtain ⟨od, ρ'⟩ := o
      cases od with
      | some d => rfl
      | none => exact blk_append
theorem hide_len : (hideM m).length = m.length := List.length_map _
theorem hide_hide : hideM (hideM m) = hideM m := by
  unfold hideM
  rw [List.map_map]
  rfl
theorem call_closed {i : Nat} {f : Fn} {ds l : List D} {d : D} (hf : T.fns[i]? = some f) (hd : defaults f ds = some l) (hk : f.keep = false) (hu : D.unders 0 l = true) (h : cl i l (hideM m) = .ok d (hideM m)) (hc : closeD (hideM m) m.length d = some d) : callF T cl i ds m = .ok d m := by
  unfold callF
  rw [hf]
  dsimp only
  rw [hd]
  dsimp only
  rw [hk, hu, h]
  have ho : oldOk (hideM m).length (hideM m) (hideM m) = true := by
    have := oldOk_self (hideM m).length (hideM m) []
    rw [List.append_nil] at this
    exact this
  have h1 : closeR (hideM m) (.ok d (hideM m)) = .ok d (hideM m) := by
    show (bif oldOk (hideM m).length (hideM m) (hideM m) then (match closeD (hideM m) (hideM m).length d with
      | some d' => R.ok d' ((hideM m).take (hideM m).length)
      | none => .ok d (hideM m)) else .ok d (hideM m)) = _
    rw [ho, hide_len, hc]
    show R.ok d ((hideM m).take m.length) = _
    rw [← hide_len, List.take_length]
  show shown m (closeR (hideM m) (.ok d (hideM m))) = _
  rw [h1]
  show (bif Nat.beq (hideM m).length m.length && oldOk m.length (hideM m) (hideM m) then R.ok d m else .bad) = _
  have ho2 : oldOk m.length (hideM m) (hideM m) = true := by rw [hide_len] at ho; exact ho
  rw [hide_len, ho2, Nat.beq_refl]
  rfl
theorem unders_ints (n : Nat) : ∀ ns : List Int, D.unders n (ns.map .int) = true
  | [] => rfl
  | x :: ns => by
    show (true && D.unders n (ns.map .int)) = true
    rw [unders_ints n ns]
    rfl
/-- f(pot, some) = some[take(pot, len(some))] -/
def ofBody (t : Nat) : List ST := [.ret (.idx (.var 1) (.call t [(.var 0), (.bi .len [(.var 1)])]))]
theorem bi_len_str {s : List Nat} (h : okLen s.length = true) : biF T cl .len [.str s] m = .ok (.int s.length) m := by
  show (bif okLen s.length then _ else _) = _
  rw [h]
  rfl
theorem idx_str {s : List Nat} {i : Int} {p c : Nat} (hp : placeOf s.length i = some p) (hd : s[p]? = some c) (h : okLen s.length = true) : idxF (.str s) (.int i) m = .ok (.str [c]) m := by
  simp only [idxF, hp, hd, h, cond_true]
theorem place_of {n : Nat} {r : Int} (h0 : 0 ≤ r) (h1 : r < n) : placeOf n r = some r.toNat := by
  unfold placeOf
  rw [if_pos h0, if_pos h1]
theorem close_flat {d : D} {m m' : M} (hl : m'.length = m.length) (ho : oldOk m.length m m' = true) (hd : closeD m' m.length d = some d) : closeR m (.ok d m') = .ok d m' := by
  show (bif oldOk m.length m m' then (match closeD m' m.length d with
      | some d' => R.ok d' (m'.take m.length)
      | none => .ok d m') else .ok d m') = _
  rw [ho, hd]
  show R.ok d (m'.take m.length) = _
  rw [← hl, List.take_length]
theorem of_str {i j t : Nat} {f : Fn} {s : List Nat} {m m' : M} {r : Int} (hf : T.fns[i]? = some f) (hb : f.body = ofBody t) (hn : f.names.length = 2) (hnp : f.np = 2) (hdf : f.dfl = []) (hk : f.keep = false) (hs : okLen s.length = true)
    (ht : callF T (runF T k) t [.ref j, .int s.length] m = .ok (.int r) m') (h0 : 0 ≤ r) (h1 : r < s.length) (hl : m'.length = m.length) (ho : oldOk m.length m m' = true) :
    ∃ c, s[r.toNat]? = some c ∧ callF T (runF T (k + 1)) i [.ref j, .str s] m = .ok (.str [c]) m' := by
  have hi : r.toNat < s.length := by omega
  refine ⟨s[r.toNat], by simp [hi], ?_⟩
  have hx : idxF (.str s) (.int r) m' = .ok (.str [s[r.toNat]]) m' := idx_str (place_of h0 h1) (by simp [hi]) hs
  have hr : runF T (k + 1) i [.ref j, .str s] m = .ok (.str [s[r.toNat]]) m' := by
    rw [run_eq hf, hb, hn]
    unfold ofBody
    have hf : fuel = 4980 + 20 := rfl
    rw [hf]
    simp only [blk_cons, blk_nil, evS, evE, stepS, stepE, bind_ok_eq, varF, List.map_cons, List.map_nil, List.cons_append, List.nil_append, List.length_cons, List.length_nil, List.replicate, Nat.reduceSub, Nat.reduceAdd, List.getElem?_cons_zero, List.getElem?_cons_succ, evL_cons, evL_nil, bi_len_str hs, ht, hx]
  rw [call_open hf (l := [.ref j, .str s]) (by unfold defaults; rw [hnp, hdf]; rfl) hk rfl hr]
  exact close_flat hl ho rfl
end
end Pe

set_option maxHeartbeats 4000000
/-! Pe4: the law's cells, the law's def. -/
namespace Pe
open Pd
section
variable {T : Tab} {cl : Call} {k : Nat} {m : M}
def cellsBody : List ST := [.ret (.bi .lrange [(.bi .max [(.k (.int 1)), (.bi .min [(.var 1), (.bi .len [(.var 0)])])])])]
theorem bi_max {i j : Int} : biF T cl .max [.int i, .int j] m = .ok (.int (if i < j then j else i)) m := rfl
theorem bi_min {i j : Int} : biF T cl .min [.int i, .int j] m = .ok (.int (if j < i then j else i)) m := rfl
theorem bi_lr {i : Int} (h1 : -10000 ≤ i) (h2 : i ≤ 10000) : biF T cl .lrange [.int i] m = .ok (.fl (rangeL 0 i)) m := by
  show (bif decide (-10000 ≤ i) && decide (i ≤ 10000) then _ else _) = _
  rw [decide_eq_true h1, decide_eq_true h2]
  rfl
theorem unders_map {α : Type} {f : α → D} (n : Nat) (h : ∀ x, D.under n (f x) = true) : ∀ l : List α, D.unders n (l.map f) = true
  | [] => rfl
  | x :: l => by
    show (D.under n (f x) && D.unders n (l.map f)) = true
    rw [h x, unders_map n h l]
    rfl
theorem cells_call {i : Nat} {f : Fn} {ns : List Int} {most : Int} (hf : T.fns[i]? = some f) (hb : f.body = cellsBody) (hn : f.names.length = 2) (hnp : f.np = 2) (hdf : f.dfl = []) (hk : f.keep = false) (h0 : 1 ≤ most) (h1 : most ≤ 1000) :
    ∃ K : Int, 1 ≤ K ∧ K ≤ most ∧ callF T (runF T (k + 1)) i [.scr (ns.map .int), .int most] m = .ok (.fl (rangeL 0 K)) m := by
  obtain ⟨N, hN⟩ : ∃ N : Int, N = ((ns.map D.int).length : Int) := ⟨_, rfl⟩
  obtain ⟨J, hJ⟩ : ∃ J : Int, J = (if N < most then N else most) := ⟨_, rfl⟩
  obtain ⟨K, hK⟩ : ∃ K : Int, K = (if 1 < J then J else 1) := ⟨_, rfl⟩
  have hK1 : 1 ≤ K := by rw [hK]; split <;> omega
  have hK2 : K ≤ most := by
    rw [hK]
    split
    · rw [hJ]
      split <;> omega
    · omega
  refine ⟨K, hK1, hK2, ?_⟩
  refine call_closed hf (l := [.scr (ns.map .int), .int most]) (by unfold defaults; rw [hnp, hdf]; rfl) hk ?_ ?_ ?_
  · show (D.unders 0 (ns.map .int) && true) = true
    rw [unders_ints]
    rfl
  · rw [run_eq hf, hb, hn]
    unfold cellsBody
    have hf : fuel = 4980 + 20 := rfl
    rw [hf]
    simp only [blk_cons, blk_nil, evS, evE, stepS, stepE, bind_ok_eq, varF, List.map_cons, List.map_nil, List.cons_append, List.nil_append, List.length_cons, List.length_nil, List.replicate, Nat.reduceSub, Nat.reduceAdd, List.getElem?_cons_zero, List.getElem?_cons_succ, evL_cons, evL_nil, bi_len_scr, ← hN, bi_min, bi_max,
      ← hJ, ← hK, bi_lr (show -10000 ≤ K by omega) (show K ≤ 10000 by omega)]
  · show (bif D.under m.length (.fl (rangeL 0 K)) then some (D.fl (rangeL 0 K)) else none) = _
    have : D.under m.length (.fl (rangeL 0 K)) = true := unders_map (f := fun i : Nat => D.int (0 + i)) m.length (fun _ => rfl) _
    rw [this]
    rfl
/-- all([right(pot(script, place)) for place in cells(script, most)]) -/
def lawBody (R P C : Nat) (most : Int) : List ST := [.ret (.bi .all [(.lc false (.call R [(.call P [(.var 0), (.var 1)])]) [.mk (.nm 1) (.val (.call C [(.var 0), (.k (.int most))])) none])])]
theorem bi_all {xs : List D} {bs : List Bool} (h : blsOf xs = some bs) : biF T cl .all [.fl xs] m = .ok (.bl (bs.all id)) m := by
  show (match blsOf xs with
    | some bs => R.ok (D.bl (bs.all id)) m
    | none => .bad) = _
  rw [h]
theorem all_true : ∀ n : Nat, (List.replicate n true).all id = true
  | 0 => rfl
  | n + 1 => by rw [List.replicate_succ, List.all_cons, all_true n]; rfl
theorem law_run {li R P C : Nat} {f fp fc : Fn} {ns : List Int} {most C1 C2 C3 C4 C5 : Int} (hf : T.fns[li]? = some f) (hb : f.body = lawBody R P C most) (hn : f.names.length = 2)
    (hp : T.fns[P]? = some fp) (hpb : fp.body = potBody C1 C2 C3 C4 C5) (hpn : fp.names.length = 5) (hpp : fp.np = 2) (hpd : fp.dfl = []) (hpk : fp.keep = true)
    (h1 : 0 ≤ C1 ∧ C1 < 2 ^ 40) (h3 : 0 ≤ C3 ∧ C3 < 2 ^ 40) (h4 : 0 ≤ C4 ∧ C4 < 2 ^ 40) (h5 : 0 ≤ C5 ∧ C5 < 2 ^ 40)
    (hc : T.fns[C]? = some fc) (hcb : fc.body = cellsBody) (hcn : fc.names.length = 2) (hcp : fc.np = 2) (hcd : fc.dfl = []) (hck : fc.keep = false) (m0 : 1 ≤ most) (m1 : most ≤ 1000)
    (hR : ∀ a b, Pot a b 0 → ∃ x, callF T (runF T (k + 1)) R [.ref 1] [.hid, potC a b 0] = .ok (.bl true) [.hid, x]) :
    runF T (k + 2) li [.scr (ns.map .int)] [] = .ok (.bl true) [] := by
  obtain ⟨K, K1, K2, eK⟩ := cells_call (k := k) (T := T) (m := []) (ns := ns) hc hcb hcn hcp hcd hck m0 m1
  rw [run_eq hf, hb, hn]
  unfold lawBody
  have hfu : fuel = 4980 + 20 := rfl
  rw [hfu]
  have hl : (rangeL 0 K).length = K.toNat := by unfold rangeL; simp
  have hcl : lcRun (clause (evn T (runF T (k + 1)) 4997) (.nm 1) none (.call R [(.call P [(.var 0), (.var 1)])]) (wipeE [some (.scr (ns.map .int)), none] [1])) ⟨rangeL 0 K, held [] (.fl (rangeL 0 K))⟩ [] = .ok (List.replicate K.toNat (.bl true)) [] := by
    unfold lcRun
    have hb1 : Nat.ble (rangeL 0 K).length 4000 = true := by rw [hl]; exact Nat.ble_eq_true_of_le (by omega)
    have hlc : lcLoop (clause (evn T (runF T (k + 1)) 4997) (.nm 1) none (.call R [(.call P [(.var 0), (.var 1)])]) (wipeE [some (.scr (ns.map .int)), none] [1])) (held [] (.fl (rangeL 0 K))) (rangeL 0 K) [.hid] = .ok (List.replicate (rangeL 0 K).length (.bl true)) [.hid] := by
      refine lc_all rfl fun x hx => ?_
      unfold rangeL at hx
      obtain ⟨j, hj, rfl⟩ := List.mem_map.mp hx
      have hj := List.mem_range.mp hj
      obtain ⟨a, b, ep, P0⟩ := pot_call (k := k) (T := T) (m := [.hid]) (ns := ns) (p := 0 + (j : Int)) hp hpb hpn hpp hpd hpk (by omega) (by omega) h1 h3 h4 h5
      obtain ⟨x, eR⟩ := hR a b P0
      have ep : callF T (runF T (k + 1)) P [.scr (ns.map .int), .int (0 + (j : Int))] [.hid] = .ok (.ref 1) [.hid, potC a b 0] := ep
      unfold clause
      have et : tgt (.nm 1) (.int (0 + (j : Int))) (wipeE [some (.scr (ns.map .int)), none] [1]) = some [some (.scr (ns.map .int)), some (.int (0 + (j : Int)))] := rfl
      rw [et]
      dsimp only
      have e1 : (evn T (runF T (k + 1)) 4997).E (.call R [(.call P [(.var 0), (.var 1)])]) [some (.scr (ns.map .int)), some (.int (0 + (j : Int)))] [.hid] = .ok (.bl true) [.hid, x] := by
        have h97 : (4997 : Nat) = 4990 + 7 := rfl
        rw [h97]
        simp only [evE, stepE, bind_ok_eq, evL_cons, evL_nil, varF, List.getElem?_cons_zero, List.getElem?_cons_succ, ep, eR]
      rw [e1]
      rfl
    dsimp only
    have hh : held [] (.fl (rangeL 0 K)) ([] ++ [.hid]) = true := rfl
    rw [hb1, hh]
    show lcEnd [] (lcLoop _ _ _ [.hid]) = _
    rw [hlc, hl]
    show (bif oldOk 0 [] [.hid] && D.unders 0 (List.replicate K.toNat (.bl true)) then Pd.R.ok (List.replicate K.toNat (D.bl true)) ([Cell.hid].take 0) else .bad) = _
    rw [unders_true]
    rfl
  have e0 : listOf false (List.replicate K.toNat (.bl true)) [] = .ok (.fl (List.replicate K.toNat (.bl true))) [] := lst_new (by rw [List.length_replicate]; exact Nat.ble_eq_true_of_le (show K.toNat ≤ 100000 by omega))
  have ew : ∀ xs, walkOf ([] : M) (.fl xs) = some xs := fun _ => rfl
  simp only [blk_cons, blk_nil, evS, evE, stepS, stepE, bind_ok_eq, varF, List.map_cons, List.map_nil, List.cons_append, List.nil_append, List.length_cons, List.length_nil, List.replicate, Nat.reduceSub, Nat.reduceAdd, List.getElem?_cons_zero, List.getElem?_cons_succ, evL_cons, evL_nil, lcF, srcF, eK, ew, IT.vars]
  simp only [hcl, bind_ok_eq, e0, bi_all (blsOf_true K.toNat), all_true]
end
end Pe

set_option maxHeartbeats 0
/-! K79a: the table, the text against it. -/
namespace K79
open PySem PySem.Spec PyProof.Rows L2 Pd
/-- _wall -/
def tab_f0 : Fn := ⟨([95, 119, 97, 108, 108], none), 1, [[107]], [], false, [.never]⟩
/-- KnobError.__init__ -/
def tab_f1 : Fn := ⟨([75, 110, 111, 98, 69, 114, 114, 111, 114], some [95, 95, 105, 110, 105, 116, 95, 95]), 2, [[115, 101, 108, 102], [118, 97, 108, 117, 101]], [], false, [.never]⟩
/-- is_integer -/
def tab_f2 : Fn := ⟨([105, 115, 95, 105, 110, 116, 101, 103, 101, 114], none), 1, [[118, 97, 108, 117, 101]], [], false, [.ret (.and (.isi (.var 0) .int) (.not (.isi (.var 0) .bool)))]⟩
/-- is_between -/
def tab_f3 : Fn := ⟨([105, 115, 95, 98, 101, 116, 119, 101, 101, 110], none), 3, [[118, 97, 108, 117, 101], [108, 111, 119], [104, 105, 103, 104]], [], false, [.ret (.and (.call 2 [(.var 0)]) (.cmp2 .le .le (.var 1) (.var 0) (.var 2)))]⟩
/-- is_tuple -/
def tab_f4 : Fn := ⟨([105, 115, 95, 116, 117, 112, 108, 101], none), 3, [[118, 97, 108, 117, 101], [108, 101, 97, 115, 116], [109, 111, 115, 116]], [], false, [.ret (.and (.isi (.var 0) .tuple) (.cmp2 .le .le (.var 1) (.bi .len [(.var 0)]) (.var 2)))]⟩
/-- is_name -/
def tab_f5 : Fn := ⟨([105, 115, 95, 110, 97, 109, 101], none), 1, [[118, 97, 108, 117, 101], [108, 101, 116, 116, 101, 114]], [], false, [.ifs (.or (.not (.isi (.var 0) .str)) (.not (.cmp2 .le .le (.k (.int 1)) (.bi .len [(.var 0)]) (.g 16)))) [.ret (.k (.bl false))] [], .ret (.bi .all [(.lc false (.cmp .in_ (.var 1) (.g 11)) [.mk (.nm 1) (.val (.var 0)) none])])]⟩
/-- is_whole -/
def tab_f6 : Fn := ⟨([105, 115, 95, 119, 104, 111, 108, 101], none), 1, [[119, 111, 114, 100], [115, 105, 103, 110]], [], false, [.ifs (.or (.cmp .eq (.var 0) (.k (.str []))) (.not (.bi .all [(.lc false (.cmp .in_ (.var 1) (.g 12)) [.mk (.nm 1) (.val (.var 0)) none])]))) [.ret (.k (.bl false))] [], .ret (.or (.cmp .eq (.var 0) (.k (.str [48]))) (.cmp .ne (.idx (.var 0) (.k (.int 0))) (.k (.str [48]))))]⟩
/-- integer_in -/
def tab_f7 : Fn := ⟨([105, 110, 116, 101, 103, 101, 114, 95, 105, 110], none), 1, [[119, 111, 114, 100]], [], false, [.ifs (.or (.not (.call 6 [(.bm .removeprefix (.var 0) [(.g 15)])])) (.cmp .eq (.var 0) (.k (.str [45, 48])))) [.ret (.k .non)] [], .ret (.bi .int [(.var 0)])]⟩
/-- Word.__init__ -/
def tab_f8 : Fn := ⟨([87, 111, 114, 100], some [95, 95, 105, 110, 105, 116, 95, 95]), 2, [[115, 101, 108, 102], [116, 101, 120, 116], [108, 101, 116, 116, 101, 114, 115]], [], false, [.asg (.nm 2) (.call 18 [(.var 1)]), .ifs (.cmp .is (.var 2) (.k .non)) [.never] [], .fld (.var 0) 0 (.var 2), .fld (.var 0) 1 (.ite (.bm .startswith (.var 1) [(.g 15)]) (.neg (.k (.int 1))) (.k (.int 1)))]⟩
/-- Word.text -/
def tab_f9 : Fn := ⟨([87, 111, 114, 100], some [116, 101, 120, 116]), 1, [[115, 101, 108, 102]], [], false, [.ret (.ite (.cmp .lt (.attr (.var 0) 1) (.k (.int 0))) (.bin .add (.g 15) (.attr (.var 0) 0)) (.attr (.var 0) 0))]⟩
/-- Word.letters -/
def tab_f10 : Fn := ⟨([87, 111, 114, 100], some [108, 101, 116, 116, 101, 114, 115]), 1, [[115, 101, 108, 102]], [], false, [.ret (.attr (.var 0) 0)]⟩
/-- Word.sign -/
def tab_f11 : Fn := ⟨([87, 111, 114, 100], some [115, 105, 103, 110]), 1, [[115, 101, 108, 102]], [], false, [.ret (.attr (.var 0) 1)]⟩
/-- Word.passes -/
def tab_f12 : Fn := ⟨([87, 111, 114, 100], some [112, 97, 115, 115, 101, 115]), 2, [[115, 101, 108, 102], [111, 116, 104, 101, 114]], [], false, [.drop (.call 0 [(.k (.int 0))])]⟩
/-- Word.bent -/
def tab_f13 : Fn := ⟨([87, 111, 114, 100], some [98, 101, 110, 116]), 2, [[115, 101, 108, 102], [111, 116, 104, 101, 114]], [], false, [.drop (.call 20 [(.var 1)]), .drop (.call 21 [(.var 0), (.var 1)]), .ifs (.cmp .eq (.bin .mod (.call 24 [(.attr (.var 0) 0), (.attr (.var 1) 0)]) (.g 17)) (.k (.int 0))) [.never] [], .ret (.call 27 [(.var 0), (.var 1)])]⟩
/-- Word.__len__ -/
def tab_f14 : Fn := ⟨([87, 111, 114, 100], some [95, 95, 108, 101, 110, 95, 95]), 1, [[115, 101, 108, 102]], [], false, [.ret (.bi .len [(.attr (.var 0) 0)])]⟩
/-- Word.__neg__ -/
def tab_f15 : Fn := ⟨([87, 111, 114, 100], some [95, 95, 110, 101, 103, 95, 95]), 1, [[115, 101, 108, 102]], [], false, [.ret (.call 19 [(.attr (.var 0) 0), (.neg (.attr (.var 0) 1))])]⟩
/-- Word.__mul__ -/
def tab_f16 : Fn := ⟨([87, 111, 114, 100], some [95, 95, 109, 117, 108, 95, 95]), 2, [[115, 101, 108, 102], [111, 116, 104, 101, 114]], [], false, [.ifs (.not (.isi (.var 1) (.cls 10))) [.never] [], .drop (.call 21 [(.var 0), (.var 1)]), .ifs (.cmp .ne (.bin .mod (.call 24 [(.attr (.var 0) 0), (.attr (.var 1) 0)]) (.g 17)) (.k (.int 0))) [.never] [], .ret (.call 26 [(.var 0), (.var 1)])]⟩
/-- Word.__eq__ -/
def tab_f17 : Fn := ⟨([87, 111, 114, 100], some [95, 95, 101, 113, 95, 95]), 2, [[115, 101, 108, 102], [111, 116, 104, 101, 114]], [], false, [.ret (.and (.isi (.var 1) (.cls 10)) (.and (.cmp .eq (.attr (.var 0) 0) (.attr (.var 1) 0)) (.cmp .eq (.attr (.var 0) 1) (.attr (.var 1) 1))))]⟩
/-- letters_in -/
def tab_f18 : Fn := ⟨([108, 101, 116, 116, 101, 114, 115, 95, 105, 110], none), 1, [[116, 101, 120, 116], [108, 101, 116, 116, 101, 114, 115], [108, 101, 116, 116, 101, 114]], [], false, [.ifs (.not (.isi (.var 0) .str)) [.ret (.k .non)] [], .asg (.nm 1) (.bm .removeprefix (.var 0) [(.g 15)]), .ifs (.or (.not (.cmp2 .le .le (.k (.int 1)) (.bi .len [(.var 1)]) (.g 26))) (.not (.bi .all [(.lc false (.cmp .in_ (.var 2) (.g 25)) [.mk (.nm 2) (.val (.var 1)) none])]))) [.ret (.k .non)] [], .ret (.var 1)]⟩
/-- word_of -/
def tab_f19 : Fn := ⟨([119, 111, 114, 100, 95, 111, 102], none), 2, [[108, 101, 116, 116, 101, 114, 115], [115, 105, 103, 110]], [], false, [.ret (.make 10 [(.ite (.cmp .lt (.var 1) (.k (.int 0))) (.bin .add (.g 15) (.var 0)) (.var 0))])]⟩
/-- check_word -/
def tab_f20 : Fn := ⟨([99, 104, 101, 99, 107, 95, 119, 111, 114, 100], none), 1, [[118, 97, 108, 117, 101]], [], false, [.ifs (.not (.isi (.var 0) (.cls 10))) [.never] []]⟩
/-- check_size -/
def tab_f21 : Fn := ⟨([99, 104, 101, 99, 107, 95, 115, 105, 122, 101], none), 2, [[111, 110, 101], [111, 116, 104, 101, 114]], [], false, [.ifs (.cmp .ne (.bi .len [(.attr (.var 0) 0)]) (.bi .len [(.attr (.var 1) 0)])) [.never] []]⟩
/-- quarter_of -/
def tab_f22 : Fn := ⟨([113, 117, 97, 114, 116, 101, 114, 95, 111, 102], none), 2, [[104, 101, 114, 101], [116, 104, 101, 114, 101]], [], false, [.ifs (.cmp .in_ (.bin .add (.var 0) (.var 1)) (.g 27)) [.ret (.k (.int 1))] [], .ret (.ite (.cmp .in_ (.bin .add (.var 1) (.var 0)) (.g 27)) (.neg (.k (.int 1))) (.k (.int 0)))]⟩
/-- made_letter -/
def tab_f23 : Fn := ⟨([109, 97, 100, 101, 95, 108, 101, 116, 116, 101, 114], none), 2, [[104, 101, 114, 101], [116, 104, 101, 114, 101]], [], false, [.ifs (.cmp .eq (.var 0) (.var 1)) [.ret (.g 24)] [], .ifs (.cmp .in_ (.g 24) (.tup [.one (.var 0), .one (.var 1)])) [.ret (.ite (.cmp .eq (.var 0) (.g 24)) (.var 1) (.var 0))] [], .ret (.bm .get (.g 27) [(.bin .add (.var 0) (.var 1)), (.bm .get (.g 27) [(.bin .add (.var 1) (.var 0))])])]⟩
/-- quarters -/
def tab_f24 : Fn := ⟨([113, 117, 97, 114, 116, 101, 114, 115], none), 2, [[108, 101, 116, 116, 101, 114, 115], [111, 116, 104, 101, 114, 115], [104, 101, 114, 101], [116, 104, 101, 114, 101]], [], false, [.ret (.bi .sum [(.lc false (.call 22 [(.var 2), (.var 3)]) [.mk (.tp [2, 3]) (.zip (.var 0) (.var 1)) none])])]⟩
/-- made_letters -/
def tab_f25 : Fn := ⟨([109, 97, 100, 101, 95, 108, 101, 116, 116, 101, 114, 115], none), 2, [[108, 101, 116, 116, 101, 114, 115], [111, 116, 104, 101, 114, 115], [104, 101, 114, 101], [116, 104, 101, 114, 101]], [], false, [.ret (.bm .join (.k (.str [])) [(.lc false (.call 23 [(.var 2), (.var 3)]) [.mk (.tp [2, 3]) (.zip (.var 0) (.var 1)) none])])]⟩
/-- product -/
def tab_f26 : Fn := ⟨([112, 114, 111, 100, 117, 99, 116], none), 2, [[111, 110, 101], [111, 116, 104, 101, 114], [115, 105, 103, 110]], [], false, [.asg (.nm 2) (.bin .mul (.attr (.var 0) 1) (.attr (.var 1) 1)), .asg (.nm 2) (.ite (.cmp .eq (.bin .mod (.call 24 [(.attr (.var 0) 0), (.attr (.var 1) 0)]) (.g 28)) (.k (.int 0))) (.var 2) (.neg (.var 2))), .ret (.call 19 [(.call 25 [(.attr (.var 0) 0), (.attr (.var 1) 0)]), (.var 2)])]⟩
/-- bent_word -/
def tab_f27 : Fn := ⟨([98, 101, 110, 116, 95, 119, 111, 114, 100], none), 2, [[111, 110, 101], [111, 116, 104, 101, 114], [115, 105, 103, 110]], [], false, [.asg (.nm 2) (.bin .mul (.attr (.var 0) 1) (.attr (.var 1) 1)), .asg (.nm 2) (.ite (.cmp .eq (.bin .mod (.bin .add (.call 24 [(.attr (.var 0) 0), (.attr (.var 1) 0)]) (.k (.int 1))) (.g 28)) (.k (.int 0))) (.var 2) (.neg (.var 2))), .ret (.call 19 [(.call 25 [(.attr (.var 0) 0), (.attr (.var 1) 0)]), (.var 2)])]⟩
/-- do_pass -/
def tab_f28 : Fn := ⟨([100, 111, 95, 112, 97, 115, 115], none), 2, [[111, 110, 101], [111, 116, 104, 101, 114]], [], false, [.ret (.cmp .eq (.bin .mod (.call 24 [(.attr (.var 0) 0), (.attr (.var 1) 0)]) (.g 17)) (.k (.int 0)))]⟩
/-- still_letters -/
def tab_f29 : Fn := ⟨([115, 116, 105, 108, 108, 95, 108, 101, 116, 116, 101, 114, 115], none), 1, [[119, 105, 114, 101, 115]], [], false, [.ret (.bin .mul (.g 24) (.var 0))]⟩
/-- all_letters -/
def tab_f30 : Fn := ⟨([97, 108, 108, 95, 108, 101, 116, 116, 101, 114, 115], none), 1, [[119, 105, 114, 101, 115], [102, 111, 117, 110, 100], [108, 97, 112], [108, 101, 116, 116, 101, 114, 115], [115, 105, 103, 110]], [], false, [.asg (.nm 1) (.lst false [.one (.k (.str []))]), .for_ (.nm 2) (.range [(.var 0)]) [.asg (.nm 1) (.lc false (.bin .add (.var 3) (.var 4)) [.mk (.nm 3) (.val (.var 1)) none, .mk (.nm 4) (.val (.g 25)) none])], .ret (.var 1)]⟩
/-- lone_letters -/
def tab_f31 : Fn := ⟨([108, 111, 110, 101, 95, 108, 101, 116, 116, 101, 114, 115], none), 3, [[119, 105, 114, 101, 115], [119, 105, 114, 101], [108, 101, 116, 116, 101, 114]], [], false, [.ret (.bin .add (.bin .add (.bin .mul (.g 24) (.var 1)) (.var 2)) (.bin .mul (.g 24) (.bin .sub (.bin .sub (.var 0) (.var 1)) (.k (.int 1)))))]⟩
/-- Line.__init__ -/
def tab_f32 : Fn := ⟨([76, 105, 110, 101], some [95, 95, 105, 110, 105, 116, 95, 95]), 5, [[115, 101, 108, 102], [115, 97, 105, 100], [113, 117, 97, 114, 116, 101, 114, 115, 95, 111, 102], [119, 111, 114, 100], [102, 111, 114, 109]], [.non, (.tup [])], false, [.fld (.var 0) 2 (.var 1), .fld (.var 0) 3 (.var 2), .fld (.var 0) 4 (.var 3), .fld (.var 0) 5 (.var 4)]⟩
/-- Line.is_turn -/
def tab_f33 : Fn := ⟨([76, 105, 110, 101], some [105, 115, 95, 116, 117, 114, 110]), 1, [[115, 101, 108, 102]], [], false, [.ret (.cmp .isnot (.attr (.var 0) 4) (.k .non))]⟩
/-- lone -/
def tab_f34 : Fn := ⟨([108, 111, 110, 101], none), 3, [[119, 105, 114, 101, 115], [119, 105, 114, 101], [108, 101, 116, 116, 101, 114]], [], false, [.ret (.make 10 [(.call 31 [(.var 0), (.var 1), (.var 2)])])]⟩
/-- h_quarters -/
def tab_f35 : Fn := ⟨([104, 95, 113, 117, 97, 114, 116, 101, 114, 115], none), 2, [[119, 105, 114, 101, 115], [119, 105, 114, 101]], [], false, [.ret (.tup [.one (.call 34 [(.var 0), (.var 1), (.k (.str [90]))]), .one (.call 34 [(.var 0), (.var 1), (.k (.str [88]))]), .one (.call 34 [(.var 0), (.var 1), (.k (.str [90]))])])]⟩
/-- cz_quarters -/
def tab_f36 : Fn := ⟨([99, 122, 95, 113, 117, 97, 114, 116, 101, 114, 115], none), 3, [[119, 105, 114, 101, 115], [111, 110, 101], [111, 116, 104, 101, 114], [98, 111, 116, 104], [119, 105, 114, 101]], [], false, [.asg (.nm 3) (.bm .join (.k (.str [])) [(.lc false (.ite (.cmp .in_ (.var 4) (.tup [.one (.var 1), .one (.var 2)])) (.k (.str [90])) (.g 24)) [.mk (.nm 4) (.range [(.var 0)]) none])]), .ret (.tup [.one (.make 10 [(.bin .add (.g 15) (.var 3))]), .one (.call 34 [(.var 0), (.var 1), (.k (.str [90]))]), .one (.call 34 [(.var 0), (.var 2), (.k (.str [90]))])])]⟩
/-- cx_quarters -/
def tab_f37 : Fn := ⟨([99, 120, 95, 113, 117, 97, 114, 116, 101, 114, 115], none), 3, [[119, 105, 114, 101, 115], [111, 110, 101], [111, 116, 104, 101, 114]], [], false, [.ret (.tup [.star (.call 35 [(.var 0), (.var 2)]), .star (.call 36 [(.var 0), (.var 1), (.var 2)]), .star (.call 35 [(.var 0), (.var 2)])])]⟩
/-- swap_quarters -/
def tab_f38 : Fn := ⟨([115, 119, 97, 112, 95, 113, 117, 97, 114, 116, 101, 114, 115], none), 3, [[119, 105, 114, 101, 115], [111, 110, 101], [111, 116, 104, 101, 114]], [], false, [.ret (.tup [.star (.call 37 [(.var 0), (.var 1), (.var 2)]), .star (.call 37 [(.var 0), (.var 2), (.var 1)]), .star (.call 37 [(.var 0), (.var 1), (.var 2)])])]⟩
/-- word_in -/
def tab_f39 : Fn := ⟨([119, 111, 114, 100, 95, 105, 110], none), 2, [[116, 101, 120, 116], [119, 105, 114, 101, 115], [108, 101, 116, 116, 101, 114, 115]], [], false, [.asg (.nm 2) (.call 18 [(.var 0)]), .ifs (.or (.cmp .is (.var 2) (.k .non)) (.or (.cmp .ne (.bi .len [(.var 2)]) (.var 1)) (.cmp .eq (.var 2) (.bin .mul (.g 24) (.var 1))))) [.ret (.k .non)] [], .ret (.make 10 [(.var 0)])]⟩
/-- wire_in -/
def tab_f40 : Fn := ⟨([119, 105, 114, 101, 95, 105, 110], none), 2, [[116, 101, 120, 116], [119, 105, 114, 101, 115], [110, 117, 109, 98, 101, 114]], [], false, [.asg (.nm 2) (.call 7 [(.var 0)]), .ret (.ite (.and (.cmp .isnot (.var 2) (.k .non)) (.cmp2 .le .lt (.k (.int 0)) (.var 2) (.var 1))) (.var 2) (.k .non))]⟩
/-- form_in -/
def tab_f41 : Fn := ⟨([102, 111, 114, 109, 95, 105, 110], none), 1, [[119, 111, 114, 100, 115], [102, 111, 117, 110, 100], [109, 97, 110, 121], [107, 110, 111, 98], [110, 117, 109, 98, 101, 114]], [], false, [.never]⟩
/-- turn_in -/
def tab_f42 : Fn := ⟨([116, 117, 114, 110, 95, 105, 110], none), 3, [[116, 101, 120, 116], [119, 111, 114, 100, 115], [119, 105, 114, 101, 115], [119, 111, 114, 100], [102, 111, 114, 109]], [], false, [.ifs (.or (.cmp .lt (.bi .len [(.var 1)]) (.g 54)) (.cmp .ne (.idx (.var 1) (.g 17)) (.g 51))) [.ret (.k .non)] [], .asg (.tp [3, 4]) (.tup [.one (.call 39 [(.idx (.var 1) (.k (.int 1))), (.var 2)]), .one (.call 41 [(.sl (.var 1) (some (.g 54)) none)])]), .ret (.ite (.or (.cmp .is (.var 3) (.k .non)) (.cmp .is (.var 4) (.k .non))) (.k .non) (.make 11 [(.var 0), (.tup []), (.var 3), (.var 4)]))]⟩
/-- gate_in -/
def tab_f43 : Fn := ⟨([103, 97, 116, 101, 95, 105, 110], none), 3, [[116, 101, 120, 116], [119, 111, 114, 100, 115], [119, 105, 114, 101, 115], [115, 111, 109, 101], [113, 117, 97, 114, 116, 101, 114, 115], [119, 111, 114, 100], [119, 105, 114, 101]], [], false, [.asg (.nm 3) (.lc false (.call 40 [(.var 5), (.var 2)]) [.mk (.nm 5) (.val (.sl (.var 1) (some (.k (.int 1))) none)) none]), .ifs (.or (.cmp .in_ (.k .non) (.var 3)) (.cmp .lt (.bi .len [(.dc (.var 6) (.k (.bl true)) (.mk (.nm 6) (.val (.var 3)) none))]) (.bi .len [(.var 3)]))) [.ret (.k .non)] [], .ifs (.and (.cmp .eq (.idx (.var 1) (.k (.int 0))) (.g 46)) (.cmp .eq (.bi .len [(.var 3)]) (.k (.int 1)))) [.ret (.make 11 [(.var 0), (.call 35 [(.var 2), (.idx (.var 3) (.k (.int 0)))])])] [], .ifs (.or (.cmp .notin (.idx (.var 1) (.k (.int 0))) (.tup [.one (.g 47), .one (.g 48), .one (.g 49)])) (.cmp .ne (.bi .len [(.var 3)]) (.g 17))) [.ret (.k .non)] [], .ifs (.cmp .eq (.idx (.var 1) (.k (.int 0))) (.g 47)) [.ret (.make 11 [(.var 0), (.call 36 [(.var 2), (.idx (.var 3) (.k (.int 0))), (.idx (.var 3) (.k (.int 1)))])])] [], .asg (.nm 4) (.ite (.cmp .eq (.idx (.var 1) (.k (.int 0))) (.g 48)) (.call 37 [(.var 2), (.idx (.var 3) (.k (.int 0))), (.idx (.var 3) (.k (.int 1)))]) (.call 38 [(.var 2), (.idx (.var 3) (.k (.int 0))), (.idx (.var 3) (.k (.int 1)))])), .ret (.make 11 [(.var 0), (.var 4)])]⟩
/-- line_in -/
def tab_f44 : Fn := ⟨([108, 105, 110, 101, 95, 105, 110], none), 2, [[118, 97, 108, 117, 101], [119, 105, 114, 101, 115], [119, 111, 114, 100, 115], [119, 111, 114, 100]], [], false, [.asg (.nm 2) (.ite (.isi (.var 0) .str) (.bm .split (.var 0) [(.g 13)]) (.lst false [])), .ifs (.or (.cmp .lt (.bi .len [(.var 2)]) (.g 17)) (.cmp .in_ (.k (.str [])) (.var 2))) [.ret (.k .non)] [], .ifs (.cmp .eq (.idx (.var 2) (.k (.int 0))) (.g 50)) [.ret (.call 42 [(.var 0), (.var 2), (.var 1)])] [], .ifs (.cmp .in_ (.idx (.var 2) (.k (.int 0))) (.tup [.one (.g 44), .one (.g 45)])) [.asg (.nm 3) (.call 39 [(.idx (.var 2) (.k (.int 1))), (.var 1)]), .ifs (.or (.cmp .is (.var 3) (.k .non)) (.cmp .ne (.bi .len [(.var 2)]) (.g 17))) [.ret (.k .non)] [], .ret (.make 11 [(.var 0), (.ite (.cmp .eq (.idx (.var 2) (.k (.int 0))) (.g 44)) (.tup [.one (.var 3), .one (.var 3)]) (.tup [.one (.var 3)]))])] [], .ret (.call 43 [(.var 0), (.var 2), (.var 1)])]⟩
/-- contrary_text -/
def tab_f45 : Fn := ⟨([99, 111, 110, 116, 114, 97, 114, 121, 95, 116, 101, 120, 116], none), 1, [[108, 105, 110, 101], [119, 111, 114, 100, 115], [111, 116, 104, 101, 114]], [], false, [.asg (.nm 1) (.bm .split (.attr (.var 0) 2) [(.g 13)]), .ifs (.cmp .notin (.idx (.var 1) (.k (.int 0))) (.tup [.one (.g 45), .one (.g 50)])) [.ret (.attr (.var 0) 2)] [], .asg (.nm 2) (.ite (.bm .startswith (.idx (.var 1) (.k (.int 1))) [(.g 15)]) (.bm .removeprefix (.idx (.var 1) (.k (.int 1))) [(.g 15)]) (.bin .add (.g 15) (.idx (.var 1) (.k (.int 1))))), .ret (.bm .join (.g 13) [(.lst false [.one (.idx (.var 1) (.k (.int 0))), .one (.var 2), .star (.sl (.var 1) (some (.g 17)) none)])])]⟩
/-- quartered -/
def tab_f46 : Fn := ⟨([113, 117, 97, 114, 116, 101, 114, 101, 100], none), 2, [[97, 98, 111, 117, 116], [119, 111, 114, 100]], [], false, [.ret (.ite (.call 28 [(.var 0), (.var 1)]) (.var 1) (.call 27 [(.var 0), (.var 1)]))]⟩
/-- led_back -/
def tab_f47 : Fn := ⟨([108, 101, 100, 95, 98, 97, 99, 107], none), 2, [[108, 105, 110, 101], [119, 111, 114, 100], [97, 98, 111, 117, 116]], [], false, [.for_ (.nm 2) (.val (.stp (.attr (.var 0) 3) none (.neg (.k (.int 1))))) [.asg (.nm 1) (.call 46 [(.var 2), (.var 1)])], .ret (.var 1)]⟩
/-- led_through -/
def tab_f48 : Fn := ⟨([108, 101, 100, 95, 116, 104, 114, 111, 117, 103, 104], none), 2, [[108, 105, 110, 101, 115], [119, 111, 114, 100], [108, 105, 110, 101]], [], false, [.for_ (.nm 2) (.val (.stp (.var 0) none (.neg (.k (.int 1))))) [.asg (.nm 1) (.call 47 [(.var 2), (.var 1)])], .ret (.var 1)]⟩
/-- plus -/
def tab_f49 : Fn := ⟨([112, 108, 117, 115], none), 1, [[108, 101, 116, 116, 101, 114, 115]], [], false, [.ret (.call 19 [(.var 0), (.k (.int 1))])]⟩
/-- Circuit.__init__ -/
def tab_f50 : Fn := ⟨([67, 105, 114, 99, 117, 105, 116], some [95, 95, 105, 110, 105, 116, 95, 95]), 2, [[115, 101, 108, 102], [116, 101, 120, 116], [114, 111, 119, 115], [108, 105, 110, 101, 115], [98, 97, 100], [114, 111, 119]], [], false, [.ifs (.not (.isi (.var 1) .str)) [.never] [], .asg (.nm 2) (.bm .split (.var 1) [(.g 14)]), .fld (.var 0) 6 (.call 66 [(.idx (.var 2) (.k (.int 0)))]), .ifs (.cmp .is (.attr (.var 0) 6) (.k .non)) [.never] [], .asg (.nm 3) (.lc false (.call 44 [(.var 5), (.attr (.var 0) 6)]) [.mk (.nm 5) (.val (.sl (.var 2) (some (.k (.int 1))) none)) none]), .asg (.nm 4) (.call 67 [(.var 3)]), .ifs (.cmp .isnot (.var 4) (.k .non)) [.never] [], .fld (.var 0) 7 (.bi .tuple [(.var 3)])]⟩
/-- Circuit.text -/
def tab_f51 : Fn := ⟨([67, 105, 114, 99, 117, 105, 116], some [116, 101, 120, 116]), 1, [[115, 101, 108, 102], [108, 105, 110, 101]], [], false, [.ret (.bm .join (.g 14) [(.lst false [.one (.fs [(.g 72), (.k (.str [32])), (.attr (.var 0) 6)]), .star (.lc false (.attr (.var 1) 2) [.mk (.nm 1) (.val (.attr (.var 0) 7)) none])])])]⟩
/-- Circuit.wires -/
def tab_f52 : Fn := ⟨([67, 105, 114, 99, 117, 105, 116], some [119, 105, 114, 101, 115]), 1, [[115, 101, 108, 102]], [], false, [.ret (.attr (.var 0) 6)]⟩
/-- Circuit.knobs -/
def tab_f53 : Fn := ⟨([67, 105, 114, 99, 117, 105, 116], some [107, 110, 111, 98, 115]), 1, [[115, 101, 108, 102]], [], false, [.drop (.call 0 [(.k (.int 1))])]⟩
/-- Circuit.turns -/
def tab_f54 : Fn := ⟨([67, 105, 114, 99, 117, 105, 116], some [116, 117, 114, 110, 115]), 1, [[115, 101, 108, 102], [110, 117, 109, 98, 101, 114], [108, 105, 110, 101]], [], false, [.ret (.bi .tuple [(.lc false (.var 1) [.mk (.tp [1, 2]) (.enum (.attr (.var 0) 7)) (some (.meth (.var 2) 8 []))])])]⟩
/-- Circuit.still -/
def tab_f55 : Fn := ⟨([67, 105, 114, 99, 117, 105, 116], some [115, 116, 105, 108, 108]), 1, [[115, 101, 108, 102]], [], false, [.drop (.call 0 [(.k (.int 2))])]⟩
/-- Circuit.put -/
def tab_f56 : Fn := ⟨([67, 105, 114, 99, 117, 105, 116], some [112, 117, 116]), 3, [[115, 101, 108, 102], [112, 108, 97, 99, 101], [108, 105, 110, 101]], [], false, [.drop (.call 0 [(.k (.int 3))])]⟩
/-- Circuit.without -/
def tab_f57 : Fn := ⟨([67, 105, 114, 99, 117, 105, 116], some [119, 105, 116, 104, 111, 117, 116]), 2, [[115, 101, 108, 102], [110, 117, 109, 98, 101, 114], [97, 116], [116, 101, 120, 116]], [], false, [.drop (.meth (.var 0) 9 [(.var 1)]), .ret (.call 68 [(.attr (.var 0) 6), (.lc false (.var 3) [.mk (.tp [2, 3]) (.enum (.meth (.var 0) 10 [])) (some (.cmp .ne (.var 2) (.var 1)))])])]⟩
/-- Circuit.texts -/
def tab_f58 : Fn := ⟨([67, 105, 114, 99, 117, 105, 116], some [116, 101, 120, 116, 115]), 1, [[115, 101, 108, 102], [108, 105, 110, 101]], [], false, [.ret (.lc false (.attr (.var 1) 2) [.mk (.nm 1) (.val (.attr (.var 0) 7)) none])]⟩
/-- Circuit.check_number -/
def tab_f59 : Fn := ⟨([67, 105, 114, 99, 117, 105, 116], some [99, 104, 101, 99, 107, 95, 110, 117, 109, 98, 101, 114]), 2, [[115, 101, 108, 102], [110, 117, 109, 98, 101, 114]], [], false, [.ifs (.not (.call 3 [(.var 1), (.k (.int 0)), (.bin .sub (.bi .len [(.attr (.var 0) 7)]) (.k (.int 1)))])) [.never] []]⟩
/-- Circuit.__len__ -/
def tab_f60 : Fn := ⟨([67, 105, 114, 99, 117, 105, 116], some [95, 95, 108, 101, 110, 95, 95]), 1, [[115, 101, 108, 102]], [], false, [.ret (.bi .len [(.attr (.var 0) 7)])]⟩
/-- Circuit.__getitem__ -/
def tab_f61 : Fn := ⟨([67, 105, 114, 99, 117, 105, 116], some [95, 95, 103, 101, 116, 105, 116, 101, 109, 95, 95]), 2, [[115, 101, 108, 102], [110, 117, 109, 98, 101, 114]], [], false, [.drop (.meth (.var 0) 9 [(.var 1)]), .ret (.attr (.idx (.attr (.var 0) 7) (.var 1)) 2)]⟩
/-- Circuit.__iter__ -/
def tab_f62 : Fn := ⟨([67, 105, 114, 99, 117, 105, 116], some [95, 95, 105, 116, 101, 114, 95, 95]), 1, [[115, 101, 108, 102]], [], false, [.never]⟩
/-- Circuit.__mul__ -/
def tab_f63 : Fn := ⟨([67, 105, 114, 99, 117, 105, 116], some [95, 95, 109, 117, 108, 95, 95]), 2, [[115, 101, 108, 102], [111, 116, 104, 101, 114], [108, 105, 110, 101]], [], false, [.ifs (.not (.isi (.var 1) (.cls 12))) [.never] [], .ifs (.cmp .ne (.attr (.var 1) 6) (.attr (.var 0) 6)) [.never] [], .ret (.call 69 [(.attr (.var 0) 6), (.lc false (.attr (.var 2) 2) [.mk (.nm 2) (.val (.tup [.star (.attr (.var 0) 7), .star (.attr (.var 1) 7)])) none])])]⟩
/-- Circuit.__invert__ -/
def tab_f64 : Fn := ⟨([67, 105, 114, 99, 117, 105, 116], some [95, 95, 105, 110, 118, 101, 114, 116, 95, 95]), 1, [[115, 101, 108, 102], [108, 105, 110, 101]], [], false, [.ret (.call 68 [(.attr (.var 0) 6), (.lc false (.call 45 [(.var 1)]) [.mk (.nm 1) (.val (.stp (.attr (.var 0) 7) none (.neg (.k (.int 1))))) none])])]⟩
/-- Circuit.__eq__ -/
def tab_f65 : Fn := ⟨([67, 105, 114, 99, 117, 105, 116], some [95, 95, 101, 113, 95, 95]), 2, [[115, 101, 108, 102], [111, 116, 104, 101, 114]], [], false, [.ret (.and (.isi (.var 1) (.cls 12)) (.cmp .eq (.attr (.var 0) 11) (.attr (.var 1) 11)))]⟩
/-- wires_in -/
def tab_f66 : Fn := ⟨([119, 105, 114, 101, 115, 95, 105, 110], none), 1, [[114, 111, 119], [119, 111, 114, 100, 115], [110, 117, 109, 98, 101, 114]], [], false, [.asg (.nm 1) (.bm .split (.var 0) [(.g 13)]), .ifs (.or (.cmp .ne (.bi .len [(.var 1)]) (.g 17)) (.cmp .ne (.idx (.var 1) (.k (.int 0))) (.g 72))) [.ret (.k .non)] [], .asg (.nm 2) (.call 7 [(.idx (.var 1) (.k (.int 1)))]), .ret (.ite (.and (.cmp .isnot (.var 2) (.k .non)) (.cmp2 .le .le (.k (.int 1)) (.var 2) (.g 26))) (.var 2) (.k .non))]⟩
/-- first_bad -/
def tab_f67 : Fn := ⟨([102, 105, 114, 115, 116, 95, 98, 97, 100], none), 1, [[108, 105, 110, 101, 115], [116, 117, 114, 110, 115], [110, 117, 109, 98, 101, 114], [108, 105, 110, 101]], [], false, [.asg (.nm 1) (.k (.int 0)), .for_ (.tp [2, 3]) (.enum (.var 0)) [.ifs (.or (.cmp .is (.var 3) (.k .non)) (.cmp .eq (.var 2) (.g 73))) [.ret (.var 2)] [], .asg (.nm 1) (.bin .add (.var 1) (.bi .int [(.meth (.var 3) 8 [])])), .ifs (.cmp .gt (.var 1) (.g 74)) [.ret (.var 2)] []], .ret (.k .non)]⟩
/-- circuit_of -/
def tab_f68 : Fn := ⟨([99, 105, 114, 99, 117, 105, 116, 95, 111, 102], none), 2, [[119, 105, 114, 101, 115], [116, 101, 120, 116, 115]], [], false, [.ret (.make 12 [(.bm .join (.g 14) [(.lst false [.one (.fs [(.g 72), (.k (.str [32])), (.var 0)]), .star (.var 1)])])])]⟩
/-- checked -/
def tab_f69 : Fn := ⟨([99, 104, 101, 99, 107, 101, 100], none), 2, [[119, 105, 114, 101, 115], [116, 101, 120, 116, 115], [116, 101, 120, 116]], [], false, [.ifs (.cmp .gt (.bi .len [(.var 1)]) (.g 73)) [.never] [], .ifs (.cmp .gt (.bi .len [(.lc false (.var 2) [.mk (.nm 2) (.val (.var 1)) (some (.bm .startswith (.var 2) [(.k (.str [116, 117, 114, 110, 32]))]))])]) (.g 74)) [.never] [], .ret (.call 68 [(.var 0), (.var 1)])]⟩
/-- check_word_of -/
def tab_f70 : Fn := ⟨([99, 104, 101, 99, 107, 95, 119, 111, 114, 100, 95, 111, 102], none), 2, [[119, 105, 114, 101, 115], [118, 97, 108, 117, 101]], [], false, [.ifs (.not (.isi (.var 1) (.cls 10))) [.never] [], .ifs (.cmp .ne (.bi .len [(.var 1)]) (.var 0)) [.never] []]⟩
/-- lone_words -/
def tab_f71 : Fn := ⟨([108, 111, 110, 101, 95, 119, 111, 114, 100, 115], none), 1, [[119, 105, 114, 101, 115], [119, 105, 114, 101], [108, 101, 116, 116, 101, 114]], [], false, [.ret (.lc false (.call 34 [(.var 0), (.var 1), (.var 2)]) [.mk (.nm 1) (.range [(.var 0)]) none, .mk (.nm 2) (.val (.tup [.one (.k (.str [88])), .one (.k (.str [90]))])) none])]⟩
/-- Table.__init__ -/
def tab_f72 : Fn := ⟨([84, 97, 98, 108, 101], some [95, 95, 105, 110, 105, 116, 95, 95]), 2, [[115, 101, 108, 102], [105, 109, 97, 103, 101, 115]], [], false, [.ifs (.not (.call 81 [(.var 1)])) [.never] [], .fld (.var 0) 12 (.var 1)]⟩
/-- Table.images -/
def tab_f73 : Fn := ⟨([84, 97, 98, 108, 101], some [105, 109, 97, 103, 101, 115]), 1, [[115, 101, 108, 102]], [], false, [.ret (.attr (.var 0) 12)]⟩
/-- Table.wires -/
def tab_f74 : Fn := ⟨([84, 97, 98, 108, 101], some [119, 105, 114, 101, 115]), 1, [[115, 101, 108, 102]], [], false, [.ret (.bin .fdiv (.bi .len [(.attr (.var 0) 12)]) (.g 17))]⟩
/-- Table.back -/
def tab_f75 : Fn := ⟨([84, 97, 98, 108, 101], some [98, 97, 99, 107]), 2, [[115, 101, 108, 102], [119, 111, 114, 100], [102, 111, 117, 110, 100], [119, 105, 114, 101], [108, 101, 116, 116, 101, 114]], [], false, [.drop (.call 70 [(.attr (.var 0) 13), (.var 1)]), .asg (.nm 2) (.call 19 [(.call 29 [(.attr (.var 0) 13)]), (.attr (.var 1) 14)]), .for_ (.tp [3, 4]) (.enum (.attr (.var 1) 15)) [.ifs (.cmp .ne (.var 4) (.g 24)) [.asg (.nm 2) (.call 26 [(.var 2), (.meth (.var 0) 16 [(.var 3), (.var 4)])])] []], .ret (.var 2)]⟩
/-- Table.image_of -/
def tab_f76 : Fn := ⟨([84, 97, 98, 108, 101], some [105, 109, 97, 103, 101, 95, 111, 102]), 3, [[115, 101, 108, 102], [119, 105, 114, 101], [108, 101, 116, 116, 101, 114], [97, 99, 114, 111, 115, 115], [97, 108, 111, 110, 103]], [], false, [.asg (.tp [3, 4]) (.sl (.attr (.var 0) 12) (some (.bin .mul (.g 17) (.var 1))) (some (.bin .add (.bin .mul (.g 17) (.var 1)) (.g 17)))), .ifs (.cmp .eq (.var 2) (.k (.str [89]))) [.ret (.call 27 [(.var 3), (.var 4)])] [], .ret (.ite (.cmp .eq (.var 2) (.k (.str [88]))) (.var 3) (.var 4))]⟩
/-- Table.ahead -/
def tab_f77 : Fn := ⟨([84, 97, 98, 108, 101], some [97, 104, 101, 97, 100]), 2, [[115, 101, 108, 102], [119, 111, 114, 100], [108, 101, 116, 116, 101, 114, 115], [102, 111, 117, 110, 100], [97, 99, 114, 111, 115, 115], [97, 108, 111, 110, 103]], [], false, [.asg (.nm 2) (.lst true []), .for_ (.tp [4, 5]) (.zip (.stp (.attr (.var 0) 12) none (.g 17)) (.stp (.attr (.var 0) 12) (some (.k (.int 1))) (.g 17))) [.drop (.bm .append (.var 2) [(.idx (.g 82) (.tup [.one (.not (.call 28 [(.var 1), (.var 5)])), .one (.not (.call 28 [(.var 1), (.var 4)]))]))])], .asg (.nm 3) (.call 49 [(.bm .join (.k (.str [])) [(.var 2)])]), .ret (.ite (.cmp .eq (.meth (.var 0) 17 [(.var 3)]) (.var 1)) (.var 3) (.neg (.var 3)))]⟩
/-- Table.__mul__ -/
def tab_f78 : Fn := ⟨([84, 97, 98, 108, 101], some [95, 95, 109, 117, 108, 95, 95]), 2, [[115, 101, 108, 102], [111, 116, 104, 101, 114], [119, 111, 114, 100]], [], false, [.ifs (.not (.isi (.var 1) (.cls 13))) [.never] [], .ifs (.cmp .ne (.attr (.var 1) 13) (.attr (.var 0) 13)) [.never] [], .ret (.make 13 [(.bi .tuple [(.lc false (.meth (.var 0) 17 [(.var 2)]) [.mk (.nm 2) (.val (.attr (.var 1) 18)) none])])])]⟩
/-- Table.__invert__ -/
def tab_f79 : Fn := ⟨([84, 97, 98, 108, 101], some [95, 95, 105, 110, 118, 101, 114, 116, 95, 95]), 1, [[115, 101, 108, 102], [119, 111, 114, 100]], [], false, [.ret (.make 13 [(.bi .tuple [(.lc false (.meth (.var 0) 19 [(.var 1)]) [.mk (.nm 1) (.val (.call 71 [(.attr (.var 0) 13)])) none])])])]⟩
/-- Table.__eq__ -/
def tab_f80 : Fn := ⟨([84, 97, 98, 108, 101], some [95, 95, 101, 113, 95, 95]), 2, [[115, 101, 108, 102], [111, 116, 104, 101, 114]], [], false, [.ret (.and (.isi (.var 1) (.cls 13)) (.cmp .eq (.attr (.var 0) 12) (.attr (.var 1) 18)))]⟩
/-- are_images -/
def tab_f81 : Fn := ⟨([97, 114, 101, 95, 105, 109, 97, 103, 101, 115], none), 1, [[118, 97, 108, 117, 101], [97, 116], [111, 110, 101], [110, 117, 109, 98, 101, 114], [111, 116, 104, 101, 114], [119, 111, 114, 100]], [], false, [.ifs (.or (.not (.call 4 [(.var 0), (.g 17), (.bin .mul (.g 17) (.g 26))])) (.cmp .ne (.bin .mod (.bi .len [(.var 0)]) (.g 17)) (.k (.int 0)))) [.ret (.k (.bl false))] [], .ifs (.not (.bi .all [(.lc false (.and (.isi (.var 5) (.cls 10)) (.cmp .eq (.bi .len [(.var 5)]) (.bin .fdiv (.bi .len [(.var 0)]) (.g 17)))) [.mk (.nm 5) (.val (.var 0)) none])])) [.ret (.k (.bl false))] [], .for_ (.tp [1, 2]) (.enum (.var 0)) [.for_ (.tp [3, 4]) (.enum (.sl (.var 0) none (some (.var 1)))) [.ifs (.cmp .ne (.call 28 [(.var 2), (.var 4)]) (.cmp .ne (.bin .fdiv (.var 1) (.g 17)) (.bin .fdiv (.var 3) (.g 17)))) [.ret (.k (.bl false))] []]], .ret (.k (.bl true))]⟩
/-- table_of -/
def tab_f82 : Fn := ⟨([116, 97, 98, 108, 101, 95, 111, 102], none), 1, [[99, 105, 114, 99, 117, 105, 116], [108, 105, 110, 101, 115], [108, 105, 110, 101], [119, 111, 114, 100]], [], false, [.asg (.nm 1) (.lc false (.var 2) [.mk (.nm 2) (.val (.attr (.var 0) 7)) (some (.not (.meth (.var 2) 8 [])))]), .ret (.make 13 [(.bi .tuple [(.lc false (.call 48 [(.var 1), (.var 3)]) [.mk (.nm 3) (.val (.call 71 [(.attr (.var 0) 13)])) none])])])]⟩
/-- quarters_to -/
def tab_f83 : Fn := ⟨([113, 117, 97, 114, 116, 101, 114, 115, 95, 116, 111], none), 3, [[119, 111, 114, 100], [103, 111, 97, 108], [102, 105, 114, 109], [108, 101, 116, 116, 101, 114, 115], [97, 109, 105, 100], [102, 111, 117, 110, 100], [97, 98, 111, 117, 116], [111, 110, 101]], [], false, [.ifs (.cmp .eq (.attr (.var 0) 15) (.attr (.var 1) 15)) [.ret (.lst false [])] [], .ifs (.not (.call 28 [(.var 0), (.var 1)])) [.ret (.lst false [.one (.call 84 [(.var 0), (.var 1)])])] [], .for_ (.nm 3) (.val (.call 30 [(.bi .len [(.var 0)])])) [.asg (.nm 4) (.call 49 [(.var 3)]), .ifs (.and (.not (.call 28 [(.var 0), (.var 4)])) (.not (.call 28 [(.var 4), (.var 1)]))) [.asg (.nm 5) (.lst false [.one (.call 84 [(.var 0), (.var 4)]), .one (.call 84 [(.var 4), (.var 1)])]), .ifs (.bi .all [(.lc false (.call 28 [(.var 6), (.var 7)]) [.mk (.nm 6) (.val (.var 5)) none, .mk (.nm 7) (.val (.var 2)) none])]) [.ret (.var 5)] []] []], .ret (.lst false [])]⟩
/-- between -/
def tab_f84 : Fn := ⟨([98, 101, 116, 119, 101, 101, 110], none), 2, [[111, 110, 101], [111, 116, 104, 101, 114]], [], false, [.ret (.call 49 [(.call 25 [(.attr (.var 0) 15), (.attr (.var 1) 15)])])]⟩
/-- quarters_of -/
def tab_f85 : Fn := ⟨([113, 117, 97, 114, 116, 101, 114, 115, 95, 111, 102], none), 1, [[116, 97, 98, 108, 101], [105, 109, 97, 103, 101, 115], [102, 105, 114, 109], [102, 111, 117, 110, 100], [110, 117, 109, 98, 101, 114], [103, 111, 97, 108], [97, 98, 111, 117, 116], [119, 111, 114, 100]], [], false, [.asg (.tp [1, 2, 3]) (.tup [.one (.bi .list [(.attr (.var 0) 18)]), .one (.lst true []), .one (.lst true [])]), .for_ (.tp [4, 5]) (.enum (.call 71 [(.attr (.var 0) 13)])) [.for_ (.nm 6) (.val (.call 83 [(.idx (.var 1) (.var 4)), (.var 5), (.var 2)])) [.asg (.nm 1) (.lc false (.call 46 [(.var 6), (.var 7)]) [.mk (.nm 7) (.val (.var 1)) none]), .drop (.bm .append (.var 3) [(.var 6)])], .drop (.bm .append (.var 2) [(.var 5)])], .ret (.var 3)]⟩
/-- flip_for -/
def tab_f86 : Fn := ⟨([102, 108, 105, 112, 95, 102, 111, 114], none), 2, [[105, 109, 97, 103, 101, 115], [103, 111, 97, 108, 115], [108, 101, 116, 116, 101, 114, 115], [111, 110, 101], [103, 111, 97, 108]], [], false, [.for_ (.nm 2) (.val (.call 30 [(.bin .fdiv (.bi .len [(.var 0)]) (.g 17))])) [.ifs (.bi .all [(.lc false (.cmp .eq (.call 28 [(.call 49 [(.var 2)]), (.var 3)]) (.cmp .eq (.var 3) (.var 4))) [.mk (.tp [3, 4]) (.zip (.var 0) (.var 1)) none])]) [.ret (.var 2)] []], .ret (.call 29 [(.bin .fdiv (.bi .len [(.var 0)]) (.g 17))])]⟩
/-- gates -/
def tab_f87 : Fn := ⟨([103, 97, 116, 101, 115], none), 1, [[116, 97, 98, 108, 101], [119, 105, 114, 101, 115], [108, 105, 110, 101, 115], [108, 101, 116, 116, 101, 114, 115], [97, 104, 101, 97, 100], [97, 98, 111, 117, 116]], [], false, [.asg (.nm 1) (.attr (.var 0) 13), .asg (.nm 2) (.lc false (.bm .join (.g 13) [(.lst false [.one (.g 45), .one (.attr (.neg (.var 5)) 11)])]) [.mk (.nm 5) (.val (.call 85 [(.var 0)])) none]), .asg (.nm 3) (.call 86 [(.attr (.call 82 [(.call 68 [(.var 1), (.var 2)])]) 18), (.attr (.var 0) 18)]), .asg (.nm 4) (.ite (.cmp .eq (.var 3) (.call 29 [(.var 1)])) (.lst false []) (.lst false [.one (.bm .join (.g 13) [(.lst false [.one (.g 44), .one (.var 3)])])])), .ret (.call 68 [(.var 1), (.bin .add (.var 4) (.var 2))])]⟩
/-- _law_pot -/
def tab_f88 : Fn := ⟨([95, 108, 97, 119, 95, 112, 111, 116], none), 2, [[115, 99, 114, 105, 112, 116], [112, 108, 97, 99, 101], [99, 101, 108, 108], [111, 119, 110], [115, 109, 97, 108, 108]], [], true, [.asg (.nm 2) (.ite (.cmp .lt (.var 1) (.bi .len [(.var 0)])) (.idx (.var 0) (.var 1)) (.bin .add (.bin .mul (.k (.int 120)) (.var 1)) (.k (.int 276)))), .asg (.nm 3) (.bin .mul (.bin .mod (.bi .int [(.bi .abs [(.var 2)])]) (.bin .pow (.bin .pow (.k (.int 10)) (.k (.int 60))) (.k (.int 5)))) (.bi .int [(.cmp .ge (.bi .abs [(.var 2)]) (.bin .pow (.k (.int 10)) (.k (.int 18))))])), .asg (.nm 4) (.bin .mod (.bi .int [(.var 2)]) (.k (.int 2305843009213693951))), .ret (.lst true [.one (.var 3), .one (.bin .mod (.bi .int [(.bin .add (.bin .add (.bin .mul (.var 4) (.k (.int 82483))) (.bin .mul (.bin .mul (.k (.int 9055)) (.var 1)) (.var 1))) (.k (.int 1049)))]) (.k (.int 2305843009213693921))), .one (.k (.int 0))])]⟩
/-- _law_take -/
def tab_f89 : Fn := ⟨([95, 108, 97, 119, 95, 116, 97, 107, 101], none), 2, [[112, 111, 116], [117, 112, 116, 111], [112, 114, 105, 109, 101], [98, 108, 101, 110, 100], [100, 105, 103, 105, 116]], [], false, [.ifs (.cmp .gt (.idx (.var 0) (.k (.int 0))) (.k (.int 0))) [.asg (.nm 4) (.bin .mod (.bi .int [(.idx (.var 0) (.k (.int 0)))]) (.var 1)), .sub (.var 0) (.k (.int 0)) (.bin .fdiv (.idx (.var 0) (.k (.int 0))) (.var 1)), .ret (.var 4)] [], .sub (.var 0) (.k (.int 2)) (.bin .add (.idx (.var 0) (.k (.int 2))) (.k (.int 1))), .asg (.nm 2) (.idx (.lst false [.one (.k (.int 2147483647)), .one (.k (.int 2147483629)), .one (.k (.int 2147483587)), .one (.k (.int 2147483579)), .one (.k (.int 2147483563))]) (.bin .mod (.bi .int [(.idx (.var 0) (.k (.int 2)))]) (.k (.int 5)))), .asg (.nm 3) (.bin .mod (.bi .int [(.bin .pow (.bi .int [(.bin .add (.bin .add (.idx (.var 0) (.k (.int 1))) (.bin .mul (.bin .mul (.k (.int 93645)) (.idx (.var 0) (.k (.int 2)))) (.idx (.var 0) (.k (.int 2))))) (.k (.int 831)))]) (.k (.int 3)))]) (.var 2)), .ret (.bin .mod (.bi .int [(.bin .fdiv (.bin .mul (.var 3) (.bin .add (.bin .mod (.bi .int [(.var 3)]) (.k (.int 10323))) (.bin .mul (.k (.int 261)) (.idx (.var 0) (.k (.int 2)))))) (.k (.int 149)))]) (.var 1))]⟩
/-- _law_of -/
def tab_f90 : Fn := ⟨([95, 108, 97, 119, 95, 111, 102], none), 2, [[112, 111, 116], [115, 111, 109, 101]], [], false, [.ret (.idx (.var 1) (.call 89 [(.var 0), (.bi .len [(.var 1)])]))]⟩
/-- _law_cells -/
def tab_f91 : Fn := ⟨([95, 108, 97, 119, 95, 99, 101, 108, 108, 115], none), 2, [[115, 99, 114, 105, 112, 116], [109, 111, 115, 116]], [], false, [.ret (.bi .lrange [(.bi .max [(.k (.int 1)), (.bi .min [(.var 1), (.bi .len [(.var 0)])])])])]⟩
/-- _law_texts -/
def tab_f92 : Fn := ⟨([95, 108, 97, 119, 95, 116, 101, 120, 116, 115], none), 1, [[116, 101, 120, 116], [119, 111, 114, 100]], [], false, [.ret (.lc false (.attr (.var 1) 11) [.mk (.nm 1) (.val (.attr (.call 82 [(.make 12 [(.var 0)])]) 18)) none])]⟩
/-- _law_are_lines_right -/
def tab_f93 : Fn := ⟨([95, 108, 97, 119, 95, 97, 114, 101, 95, 108, 105, 110, 101, 115, 95, 114, 105, 103, 104, 116], none), 0, [[114, 111, 119, 115], [116, 101, 120, 116], [100, 117, 101]], [], false, [.asg (.nm 0) (.lst true [.one (.tup [.one (.k (.str [119, 105, 114, 101, 115, 32, 49, 10, 104, 32, 48])), .one (.lst false [.one (.k (.str [90])), .one (.k (.str [88]))])]), .one (.tup [.one (.k (.str [119, 105, 114, 101, 115, 32, 49, 10, 102, 108, 105, 112, 32, 88])), .one (.lst false [.one (.k (.str [88])), .one (.k (.str [45, 90]))])]), .one (.tup [.one (.k (.str [119, 105, 114, 101, 115, 32, 49, 10, 102, 108, 105, 112, 32, 89])), .one (.lst false [.one (.k (.str [45, 88])), .one (.k (.str [45, 90]))])])]), .drop (.bm .extend (.var 0) [(.lst false [.one (.tup [.one (.k (.str [119, 105, 114, 101, 115, 32, 49, 10, 113, 117, 97, 114, 116, 101, 114, 32, 90])), .one (.lst false [.one (.k (.str [45, 89])), .one (.k (.str [90]))])]), .one (.tup [.one (.k (.str [119, 105, 114, 101, 115, 32, 49, 10, 113, 117, 97, 114, 116, 101, 114, 32, 45, 90])), .one (.lst false [.one (.k (.str [89])), .one (.k (.str [90]))])])])]), .drop (.bm .append (.var 0) [(.tup [.one (.k (.str [119, 105, 114, 101, 115, 32, 49, 10, 113, 117, 97, 114, 116, 101, 114, 32, 88])), .one (.lst false [.one (.k (.str [88])), .one (.k (.str [89]))])])]), .drop (.bm .extend (.var 0) [(.lst false [.one (.tup [.one (.k (.str [119, 105, 114, 101, 115, 32, 49, 10, 113, 117, 97, 114, 116, 101, 114, 32, 89])), .one (.lst false [.one (.k (.str [90])), .one (.k (.str [45, 88]))])]), .one (.tup [.one (.k (.str [119, 105, 114, 101, 115, 32, 49])), .one (.lst false [.one (.k (.str [88])), .one (.k (.str [90]))])]), .one (.tup [.one (.k (.str [119, 105, 114, 101, 115, 32, 49, 10, 113, 117, 97, 114, 116, 101, 114, 32, 45, 88])), .one (.lst false [.one (.k (.str [88])), .one (.k (.str [45, 89]))])])])]), .drop (.bm .append (.var 0) [(.tup [.one (.k (.str [119, 105, 114, 101, 115, 32, 50, 10, 99, 122, 32, 48, 32, 49])), .one (.lst false [.one (.k (.str [88, 90])), .one (.k (.str [90, 73])), .one (.k (.str [90, 88])), .one (.k (.str [73, 90]))])])]), .drop (.bm .append (.var 0) [(.tup [.one (.k (.str [119, 105, 114, 101, 115, 32, 50, 10, 99, 120, 32, 48, 32, 49])), .one (.lst false [.one (.k (.str [88, 88])), .one (.k (.str [90, 73])), .one (.k (.str [73, 88])), .one (.k (.str [90, 90]))])])]), .drop (.bm .append (.var 0) [(.tup [.one (.k (.str [119, 105, 114, 101, 115, 32, 50, 10, 99, 120, 32, 49, 32, 48])), .one (.lst false [.one (.k (.str [88, 73])), .one (.k (.str [90, 90])), .one (.k (.str [88, 88])), .one (.k (.str [73, 90]))])])]), .drop (.bm .append (.var 0) [(.tup [.one (.k (.str [119, 105, 114, 101, 115, 32, 50, 10, 115, 119, 97, 112, 32, 49, 32, 48])), .one (.lst false [.one (.k (.str [73, 88])), .one (.k (.str [73, 90])), .one (.k (.str [88, 73])), .one (.k (.str [90, 73]))])])]), .drop (.bm .append (.var 0) [(.tup [.one (.k (.str [119, 105, 114, 101, 115, 32, 50, 10, 99, 120, 32, 48, 32, 49, 10, 99, 120, 32, 49, 32, 48, 10, 99, 120, 32, 48, 32, 49])), .one (.lst false [.one (.k (.str [73, 88])), .one (.k (.str [73, 90])), .one (.k (.str [88, 73])), .one (.k (.str [90, 73]))])])]), .drop (.bm .append (.var 0) [(.tup [.one (.k (.str [119, 105, 114, 101, 115, 32, 50, 10, 102, 108, 105, 112, 32, 90, 90])), .one (.lst false [.one (.k (.str [45, 88, 73])), .one (.k (.str [90, 73])), .one (.k (.str [45, 73, 88])), .one (.k (.str [73, 90]))])])]), .drop (.bm .append (.var 0) [(.tup [.one (.k (.str [119, 105, 114, 101, 115, 32, 50, 10, 113, 117, 97, 114, 116, 101, 114, 32, 45, 88, 88])), .one (.lst false [.one (.k (.str [88, 73])), .one (.k (.str [45, 89, 88])), .one (.k (.str [73, 88])), .one (.k (.str [45, 88, 89]))])])]), .ret (.bi .all [(.lc false (.cmp .eq (.call 92 [(.var 1)]) (.var 2)) [.mk (.tp [1, 2]) (.val (.var 0)) none])])]⟩
/-- _law_are_all_right -/
def tab_f94 : Fn := ⟨([95, 108, 97, 119, 95, 97, 114, 101, 95, 97, 108, 108, 95, 114, 105, 103, 104, 116], none), 0, [[111, 110, 101], [115, 111, 109, 101], [102, 111, 117, 110, 100], [111, 116, 104, 101, 114], [116, 97, 98, 108, 101], [116, 111, 108, 100]], [], false, [.asg (.tp [1, 2]) (.tup [.one (.lst false [.one (.k (.str [88])), .one (.k (.str [45, 88])), .one (.k (.str [89])), .one (.k (.str [45, 89])), .one (.k (.str [90])), .one (.k (.str [45, 90]))]), .one (.k (.int 0))]), .for_ (.nm 0) (.val (.var 1)) [.for_ (.nm 3) (.val (.var 1)) [.ifs (.cmp .ne (.idx (.var 0) (.neg (.k (.int 1)))) (.idx (.var 3) (.neg (.k (.int 1))))) [.asg (.nm 4) (.make 13 [(.tup [.one (.make 10 [(.var 0)]), .one (.make 10 [(.var 3)])])]), .asg (.nm 5) (.call 87 [(.var 4)]), .ifs (.or (.cmp .ne (.attr (.var 5) 20) (.tup [])) (.cmp .ne (.call 92 [(.attr (.var 5) 11)]) (.lst false [.one (.var 0), .one (.var 3)]))) [.ret (.k (.bl false))] [], .ifs (.cmp .ne (.attr (.meth (.bin .mul (.var 4) (.inv (.var 4))) 17 [(.make 10 [(.k (.str [89]))])]) 11) (.k (.str [89]))) [.ret (.k (.bl false))] [], .asg (.nm 2) (.bin .add (.var 2) (.k (.int 1)))] []]], .ret (.cmp .eq (.var 2) (.k (.int 24)))]⟩
/-- _law_right -/
def tab_f95 : Fn := ⟨([95, 108, 97, 119, 95, 114, 105, 103, 104, 116], none), 1, [[112, 111, 116], [97, 98, 111, 117, 116], [119, 104, 111, 108, 101], [116, 119, 105, 99, 101], [119, 105, 114, 101], [108, 101, 116, 116, 101, 114]], [], false, [.asg (.tp [4, 5]) (.tup [.one (.call 89 [(.var 0), (.k (.int 4))]), .one (.call 90 [(.var 0), (.k (.str [88, 89, 90]))])]), .asg (.nm 1) (.bin .add (.bin .add (.bin .mul (.k (.str [73])) (.var 4)) (.var 5)) (.bin .mul (.k (.str [73])) (.bin .sub (.k (.int 3)) (.var 4)))), .asg (.nm 2) (.call 82 [(.make 12 [(.bin .add (.k (.str [119, 105, 114, 101, 115, 32, 52, 10])) (.bm .join (.k (.str [10])) [(.bin .mul (.lst false [.one (.bin .add (.k (.str [113, 117, 97, 114, 116, 101, 114, 32])) (.var 1))]) (.k (.int 4)))]))])]), .ifs (.or (.cmp .ne (.var 2) (.call 82 [(.make 12 [(.k (.str [119, 105, 114, 101, 115, 32, 52]))])])) (.cmp .eq (.call 82 [(.make 12 [(.bin .add (.k (.str [119, 105, 114, 101, 115, 32, 52, 10, 102, 108, 105, 112, 32])) (.var 1))])]) (.var 2))) [.ret (.k (.bl false))] [], .asg (.nm 3) (.call 82 [(.make 12 [(.bin .add (.bin .add (.bin .add (.k (.str [119, 105, 114, 101, 115, 32, 52, 10, 113, 117, 97, 114, 116, 101, 114, 32])) (.var 1)) (.k (.str [10, 113, 117, 97, 114, 116, 101, 114, 32]))) (.var 1))])]), .ifs (.or (.cmp .ne (.var 3) (.call 82 [(.make 12 [(.bin .add (.k (.str [119, 105, 114, 101, 115, 32, 52, 10, 102, 108, 105, 112, 32])) (.var 1))])])) (.cmp .ne (.inv (.var 3)) (.var 3))) [.ret (.k (.bl false))] [], .ret (.and (.call 93 []) (.call 94 []))]⟩
/-- law -/
def tab_f96 : Fn := ⟨([108, 97, 119], none), 1, [[115, 99, 114, 105, 112, 116], [112, 108, 97, 99, 101]], [], false, [.ret (.bi .all [(.lc false (.call 95 [(.call 88 [(.var 0), (.var 1)])]) [.mk (.nm 1) (.val (.call 91 [(.var 0), (.k (.int 6))])) none])])]⟩
def tab : Tab where
  globs := [([95, 119, 97, 108, 108], .fn 0), ([75, 110, 111, 98, 69, 114, 114, 111, 114], .cls 0), ([66, 97, 100, 87, 111, 114, 100], .cls 1), ([79, 116, 104, 101, 114, 83, 105, 122, 101], .cls 2), ([67, 114, 111, 115, 115, 105, 110, 103], .cls 3), ([80, 97, 115, 115, 105, 110, 103], .cls 4), ([66, 97, 100, 67, 105, 114, 99, 117, 105, 116], .cls 5), ([78, 111, 76, 105, 110, 101], .cls 6), ([76, 111, 110, 103], .cls 7), ([77, 97, 110, 121], .cls 8), ([66, 97, 100, 73, 109, 97, 103, 101, 115], .cls 9), ([76, 69, 84, 84, 69, 82, 83], .c (.str [97, 98, 99, 100, 101, 102, 103, 104, 105, 106, 107, 108, 109, 110, 111, 112, 113, 114, 115, 116, 117, 118, 119, 120, 121, 122])), ([70, 73, 71, 85, 82, 69, 83], .c (.str [48, 49, 50, 51, 52, 53, 54, 55, 56, 57])), ([66, 76, 65, 78, 75], .c (.str [32])), ([70, 69, 69, 68], .c (.str [10])), ([77, 73, 78, 85, 83], .c (.str [45])), ([77, 79, 83, 84, 95, 76, 69, 84, 84, 69, 82, 83], .c (.int 8)), ([80, 65, 73, 82], .c (.int 2)), ([105, 115, 95, 105, 110, 116, 101, 103, 101, 114], .fn 2), ([105, 115, 95, 98, 101, 116, 119, 101, 101, 110], .fn 3), ([105, 115, 95, 116, 117, 112, 108, 101], .fn 4), ([105, 115, 95, 110, 97, 109, 101], .fn 5), ([105, 115, 95, 119, 104, 111, 108, 101], .fn 6), ([105, 110, 116, 101, 103, 101, 114, 95, 105, 110], .fn 7), ([83, 84, 73, 76, 76], .c (.str [73])), ([83, 73, 71, 78, 83], .c (.str [73, 88, 89, 90])), ([77, 79, 83, 84, 95, 87, 73, 82, 69, 83], .c (.int 4)), ([84, 72, 73, 82, 68, 83], .c (.wd [((.str [88, 89]), (.str [90])), ((.str [89, 90]), (.str [88])), ((.str [90, 88]), (.str [89]))])), ([82, 79, 85, 78, 68], .c (.int 4)), ([87, 111, 114, 100], .cls 10), ([108, 101, 116, 116, 101, 114, 115, 95, 105, 110], .fn 18), ([119, 111, 114, 100, 95, 111, 102], .fn 19), ([99, 104, 101, 99, 107, 95, 119, 111, 114, 100], .fn 20), ([99, 104, 101, 99, 107, 95, 115, 105, 122, 101], .fn 21), ([113, 117, 97, 114, 116, 101, 114, 95, 111, 102], .fn 22), ([109, 97, 100, 101, 95, 108, 101, 116, 116, 101, 114], .fn 23), ([113, 117, 97, 114, 116, 101, 114, 115], .fn 24), ([109, 97, 100, 101, 95, 108, 101, 116, 116, 101, 114, 115], .fn 25), ([112, 114, 111, 100, 117, 99, 116], .fn 26), ([98, 101, 110, 116, 95, 119, 111, 114, 100], .fn 27), ([100, 111, 95, 112, 97, 115, 115], .fn 28), ([115, 116, 105, 108, 108, 95, 108, 101, 116, 116, 101, 114, 115], .fn 29), ([97, 108, 108, 95, 108, 101, 116, 116, 101, 114, 115], .fn 30), ([108, 111, 110, 101, 95, 108, 101, 116, 116, 101, 114, 115], .fn 31), ([70, 76, 73, 80], .c (.str [102, 108, 105, 112])), ([81, 85, 65, 82, 84, 69, 82], .c (.str [113, 117, 97, 114, 116, 101, 114])), ([72], .c (.str [104])), ([67, 90], .c (.str [99, 122])), ([67, 88], .c (.str [99, 120])), ([83, 87, 65, 80], .c (.str [115, 119, 97, 112])), ([84, 85, 82, 78], .c (.str [116, 117, 114, 110])), ([66, 89], .c (.str [98, 121])), ([77, 79, 83, 84, 95, 84, 73, 77, 69, 83], .c (.int 4)), ([77, 79, 83, 84, 95, 75, 78, 79, 66, 83], .c (.int 3)), ([84, 82, 73, 80, 76, 69], .c (.int 3)), ([76, 105, 110, 101], .cls 11), ([108, 111, 110, 101], .fn 34), ([104, 95, 113, 117, 97, 114, 116, 101, 114, 115], .fn 35), ([99, 122, 95, 113, 117, 97, 114, 116, 101, 114, 115], .fn 36), ([99, 120, 95, 113, 117, 97, 114, 116, 101, 114, 115], .fn 37), ([115, 119, 97, 112, 95, 113, 117, 97, 114, 116, 101, 114, 115], .fn 38), ([119, 111, 114, 100, 95, 105, 110], .fn 39), ([119, 105, 114, 101, 95, 105, 110], .fn 40), ([102, 111, 114, 109, 95, 105, 110], .fn 41), ([116, 117, 114, 110, 95, 105, 110], .fn 42), ([103, 97, 116, 101, 95, 105, 110], .fn 43), ([108, 105, 110, 101, 95, 105, 110], .fn 44), ([99, 111, 110, 116, 114, 97, 114, 121, 95, 116, 101, 120, 116], .fn 45), ([113, 117, 97, 114, 116, 101, 114, 101, 100], .fn 46), ([108, 101, 100, 95, 98, 97, 99, 107], .fn 47), ([108, 101, 100, 95, 116, 104, 114, 111, 117, 103, 104], .fn 48), ([112, 108, 117, 115], .fn 49), ([87, 73, 82, 69, 83], .c (.str [119, 105, 114, 101, 115])), ([77, 79, 83, 84, 95, 76, 73, 78, 69, 83], .c (.int 40)), ([77, 79, 83, 84, 95, 84, 85, 82, 78, 83], .c (.int 6)), ([67, 105, 114, 99, 117, 105, 116], .cls 12), ([119, 105, 114, 101, 115, 95, 105, 110], .fn 66), ([102, 105, 114, 115, 116, 95, 98, 97, 100], .fn 67), ([99, 105, 114, 99, 117, 105, 116, 95, 111, 102], .fn 68), ([99, 104, 101, 99, 107, 101, 100], .fn 69), ([99, 104, 101, 99, 107, 95, 119, 111, 114, 100, 95, 111, 102], .fn 70), ([108, 111, 110, 101, 95, 119, 111, 114, 100, 115], .fn 71), ([76, 69, 84, 84, 69, 82, 83, 95, 66, 89], .c (.wd [((.tup [(.bl false), (.bl false)]), (.str [73])), ((.tup [(.bl true), (.bl false)]), (.str [88])), ((.tup [(.bl false), (.bl true)]), (.str [90])), ((.tup [(.bl true), (.bl true)]), (.str [89]))])), ([84, 97, 98, 108, 101], .cls 13), ([97, 114, 101, 95, 105, 109, 97, 103, 101, 115], .fn 81), ([116, 97, 98, 108, 101, 95, 111, 102], .fn 82), ([113, 117, 97, 114, 116, 101, 114, 115, 95, 116, 111], .fn 83), ([98, 101, 116, 119, 101, 101, 110], .fn 84), ([113, 117, 97, 114, 116, 101, 114, 115, 95, 111, 102], .fn 85), ([102, 108, 105, 112, 95, 102, 111, 114], .fn 86), ([103, 97, 116, 101, 115], .fn 87), ([95, 108, 97, 119, 95, 112, 111, 116], .fn 88), ([95, 108, 97, 119, 95, 116, 97, 107, 101], .fn 89), ([95, 108, 97, 119, 95, 111, 102], .fn 90), ([95, 108, 97, 119, 95, 99, 101, 108, 108, 115], .fn 91), ([95, 108, 97, 119, 95, 116, 101, 120, 116, 115], .fn 92), ([95, 108, 97, 119, 95, 97, 114, 101, 95, 108, 105, 110, 101, 115, 95, 114, 105, 103, 104, 116], .fn 93), ([95, 108, 97, 119, 95, 97, 114, 101, 95, 97, 108, 108, 95, 114, 105, 103, 104, 116], .fn 94), ([95, 108, 97, 119, 95, 114, 105, 103, 104, 116], .fn 95), ([108, 97, 119], .fn 96)]
  attrs := [[111, 119, 110, 95, 108, 101, 116, 116, 101, 114, 115], [111, 119, 110, 95, 115, 105, 103, 110], [115, 97, 105, 100], [113, 117, 97, 114, 116, 101, 114, 115, 95, 111, 102], [119, 111, 114, 100], [102, 111, 114, 109], [111, 119, 110, 95, 119, 105, 114, 101, 115], [111, 119, 110, 95, 108, 105, 110, 101, 115], [105, 115, 95, 116, 117, 114, 110], [99, 104, 101, 99, 107, 95, 110, 117, 109, 98, 101, 114], [116, 101, 120, 116, 115], [116, 101, 120, 116], [111, 119, 110, 95, 105, 109, 97, 103, 101, 115], [119, 105, 114, 101, 115], [115, 105, 103, 110], [108, 101, 116, 116, 101, 114, 115], [105, 109, 97, 103, 101, 95, 111, 102], [98, 97, 99, 107], [105, 109, 97, 103, 101, 115], [97, 104, 101, 97, 100], [116, 117, 114, 110, 115], [112, 97, 115, 115, 101, 115], [98, 101, 110, 116], [107, 110, 111, 98, 115], [115, 116, 105, 108, 108], [112, 117, 116], [119, 105, 116, 104, 111, 117, 116]]
  fns := [tab_f0, tab_f1, tab_f2, tab_f3, tab_f4, tab_f5, tab_f6, tab_f7, tab_f8, tab_f9, tab_f10, tab_f11, tab_f12, tab_f13, tab_f14, tab_f15, tab_f16, tab_f17, tab_f18, tab_f19, tab_f20, tab_f21, tab_f22, tab_f23, tab_f24, tab_f25, tab_f26, tab_f27, tab_f28, tab_f29, tab_f30, tab_f31, tab_f32, tab_f33, tab_f34, tab_f35, tab_f36, tab_f37, tab_f38, tab_f39, tab_f40, tab_f41, tab_f42, tab_f43, tab_f44, tab_f45, tab_f46, tab_f47, tab_f48, tab_f49, tab_f50, tab_f51, tab_f52, tab_f53, tab_f54, tab_f55, tab_f56, tab_f57, tab_f58, tab_f59, tab_f60, tab_f61, tab_f62, tab_f63, tab_f64, tab_f65, tab_f66, tab_f67, tab_f68, tab_f69, tab_f70, tab_f71, tab_f72, tab_f73, tab_f74, tab_f75, tab_f76, tab_f77, tab_f78, tab_f79, tab_f80, tab_f81, tab_f82, tab_f83, tab_f84, tab_f85, tab_f86, tab_f87, tab_f88, tab_f89, tab_f90, tab_f91, tab_f92, tab_f93, tab_f94, tab_f95, tab_f96]
  clss := [⟨[75, 110, 111, 98, 69, 114, 114, 111, 114], 1, [], [], [], (some 1)⟩, ⟨[66, 97, 100, 87, 111, 114, 100], 1, [], [], [], none⟩, ⟨[79, 116, 104, 101, 114, 83, 105, 122, 101], 1, [], [], [], none⟩, ⟨[67, 114, 111, 115, 115, 105, 110, 103], 1, [], [], [], none⟩, ⟨[80, 97, 115, 115, 105, 110, 103], 1, [], [], [], none⟩, ⟨[66, 97, 100, 67, 105, 114, 99, 117, 105, 116], 1, [], [], [], none⟩, ⟨[78, 111, 76, 105, 110, 101], 1, [], [], [], none⟩, ⟨[76, 111, 110, 103], 1, [], [], [], none⟩, ⟨[77, 97, 110, 121], 1, [], [], [], none⟩, ⟨[66, 97, 100, 73, 109, 97, 103, 101, 115], 1, [], [], [], none⟩, ⟨[87, 111, 114, 100], 0, [0, 1], [(11, 1, 9), (15, 1, 10), (14, 1, 11), (21, 0, 12), (22, 0, 13)], [(1, 14), (2, 15), (3, 16), (0, 17)], (some 8)⟩, ⟨[76, 105, 110, 101], 0, [5, 3, 2, 4], [(8, 0, 33)], [], (some 32)⟩, ⟨[67, 105, 114, 99, 117, 105, 116], 0, [7, 6], [(11, 1, 51), (13, 1, 52), (23, 1, 53), (20, 1, 54), (24, 1, 55), (25, 0, 56), (26, 0, 57), (10, 0, 58), (9, 0, 59)], [(1, 60), (3, 63), (4, 64), (0, 65)], (some 50)⟩, ⟨[84, 97, 98, 108, 101], 0, [12], [(18, 1, 73), (13, 1, 74), (17, 0, 75), (16, 0, 76), (19, 0, 77)], [(3, 78), (4, 79), (0, 80)], (some 72)⟩]
def prog : Program := (PySem.Challenge.rw_looseknobs_k79_tables_by_hand).prog
def rows : List DefRow := defsTop prog.main.body
theorem rows_ok : rowsOk tab 200 tab.fns rows = true := by decide +kernel
end K79

set_option maxHeartbeats 0
/-! K79b: the head's run. -/
namespace K79
open PySem PySem.Spec PyProof.Rows L2 Pd
abbrev RwL : PySem.W.OpenRow := PySem.W.OpenLaw.row PySem.Challenge.rw_looseknobs_k79_tables_by_hand
def names : List PySem.Str := (["_wall", "KnobError", "BadWord", "OtherSize", "Crossing", "Passing", "BadCircuit", "NoLine", "Long", "Many", "BadImages", "LETTERS", "FIGURES", "BLANK", "FEED", "MINUS", "MOST_LETTERS", "PAIR", "is_integer", "is_between", "is_tuple", "is_name", "is_whole", "integer_in", "STILL", "SIGNS", "MOST_WIRES", "THIRDS", "ROUND", "Word"] : List PySem.Str) ++ (["letters_in", "word_of", "check_word", "check_size", "quarter_of", "made_letter", "quarters", "made_letters", "product", "bent_word", "do_pass", "still_letters", "all_letters", "lone_letters", "FLIP", "QUARTER", "H", "CZ", "CX", "SWAP", "TURN", "BY", "MOST_TIMES", "MOST_KNOBS", "TRIPLE", "Line", "lone", "h_quarters", "cz_quarters", "cx_quarters"] : List PySem.Str) ++ (["swap_quarters", "word_in", "wire_in", "form_in", "turn_in", "gate_in", "line_in", "contrary_text", "quartered", "led_back", "led_through", "plus", "WIRES", "MOST_LINES", "MOST_TURNS", "Circuit", "wires_in", "first_bad", "circuit_of", "checked", "check_word_of", "lone_words", "LETTERS_BY", "Table", "are_images", "table_of", "quarters_to", "between", "quarters_of", "flip_for"] : List PySem.Str) ++ (["gates", "_law_pot", "_law_take", "_law_of", "_law_cells", "_law_texts", "_law_are_lines_right", "_law_are_all_right", "_law_right"] : List PySem.Str)
def dd : List He.DefD := liveD tab.fns rows
abbrev hk : PySem.W.Hook := hookP 5 tab dd
def ob (s : PySem.W.SharedT) : AlP := obsPG 5 tab dd (HandSHeadRun.getT s)
theorem ob_eq (s : PySem.W.SharedT) : ob s = hk.obs s.abs := obsPG_eq (HandSHeadRun.getT_eq s)
theorem run_Af (w : World) : HandSHeadRun.RunEq RwL (PySem.W.view RwL.prog [108]) (hookA 5 tab) (fun s => obA 5 tab (HandSHeadRun.getT s)) 8000 names (w.withFollow "special-get-raises" false) := by
  intro os
  kernel_rfl
theorem run_A2f (w : World) : HandSHeadRun.RunEq RwL (PySem.W.view RwL.prog [108]) (hookA2 5 tab) (fun s => obA2 5 tab (HandSHeadRun.getT s)) 8000 names (w.withFollow "special-get-raises" false) := by
  intro os
  kernel_rfl
theorem run_Bf (w : World) : HandSHeadRun.RunEq RwL (PySem.W.view RwL.prog [108]) (hookB 5 tab dd) (fun s => obB 5 tab dd (HandSHeadRun.getT s)) 8000 names (w.withFollow "special-get-raises" false) := by
  intro os
  kernel_rfl
theorem run_Cf (w : World) : HandSHeadRun.RunEq RwL (PySem.W.view RwL.prog [108]) (hookC 5 tab dd) (fun s => obC 5 tab dd (HandSHeadRun.getT s)) 8000 names (w.withFollow "special-get-raises" false) := by
  intro os
  kernel_rfl
theorem run_At (w : World) : HandSHeadRun.RunEq RwL (PySem.W.view RwL.prog [108]) (hookA 5 tab) (fun s => obA 5 tab (HandSHeadRun.getT s)) 8000 names (w.withFollow "special-get-raises" true) := by
  intro os
  kernel_rfl
theorem run_A2t (w : World) : HandSHeadRun.RunEq RwL (PySem.W.view RwL.prog [108]) (hookA2 5 tab) (fun s => obA2 5 tab (HandSHeadRun.getT s)) 8000 names (w.withFollow "special-get-raises" true) := by
  intro os
  kernel_rfl
theorem run_Bt (w : World) : HandSHeadRun.RunEq RwL (PySem.W.view RwL.prog [108]) (hookB 5 tab dd) (fun s => obB 5 tab dd (HandSHeadRun.getT s)) 8000 names (w.withFollow "special-get-raises" true) := by
  intro os
  kernel_rfl
theorem run_Ct (w : World) : HandSHeadRun.RunEq RwL (PySem.W.view RwL.prog [108]) (hookC 5 tab dd) (fun s => obC 5 tab dd (HandSHeadRun.getT s)) 8000 names (w.withFollow "special-get-raises" true) := by
  intro os
  kernel_rfl
theorem run (w : World) : HandSHeadRun.RunEq RwL (PySem.W.view RwL.prog [108]) hk ob 8000 names w :=
  PySem.W.byRow2 "special-get-raises" (P := fun w => HandSHeadRun.RunEq RwL (PySem.W.view RwL.prog [108]) hk ob 8000 names w) (fun w => run_join (run_Af w) (run_A2f w) (run_Bf w) (run_Cf w)) (fun w => run_join (run_At w) (run_A2t w) (run_Bt w) (run_Ct w)) w
end K79

set_option maxHeartbeats 0
/-! K79c: what the evaluator makes of the law. -/
namespace K79
open Pd Pe
theorem f_pot : tab.fns[88]? = some tab_f88 := rfl
theorem f_take : tab.fns[89]? = some tab_f89 := rfl
theorem f_of : tab.fns[90]? = some tab_f90 := rfl
theorem f_cells : tab.fns[91]? = some tab_f91 := rfl
theorem f_right : tab.fns[95]? = some tab_f95 := rfl
theorem f_law : tab.fns[96]? = some tab_f96 := rfl
theorem take_b : tab_f89.body = takeBody 93645 831 10323 261 149 := rfl
theorem pot_b : tab_f88.body = potBody 120 276 82483 9055 1049 := rfl
theorem of_b : tab_f90.body = ofBody 89 := rfl
theorem c93 (a b c : Int) : callF tab (runF tab 19) 93 [] [.hid, potC a b c] = .ok (.bl true) [.hid, potC a b c] := by kernel_rfl
/-! all tables of one wire -/
def six : List D := [.str [88], .str [45, 88], .str [89], .str [45, 89], .str [90], .str [45, 90]]
def inner : List ST := [.ifs (.cmp .ne (.idx (.var 0) (.neg (.k (.int 1)))) (.idx (.var 3) (.neg (.k (.int 1))))) [.asg (.nm 4) (.make 13 [(.tup [.one (.make 10 [(.var 0)]), .one (.make 10 [(.var 3)])])]), .asg (.nm 5) (.call 87 [(.var 4)]), .ifs (.or (.cmp .ne (.attr (.var 5) 20) (.tup [])) (.cmp .ne (.call 92 [(.attr (.var 5) 11)]) (.lst false [.one (.var 0), .one (.var 3)]))) [.ret (.k (.bl false))] [], .ifs (.cmp .ne (.attr (.meth (.bin .mul (.var 4) (.inv (.var 4))) 17 [(.make 10 [(.k (.str [89]))])]) 11) (.k (.str [89]))) [.ret (.k (.bl false))] [], .asg (.nm 2) (.bin .add (.var 2) (.k (.int 1)))] []]
def evn4 (r : R (Option D × Env)) : Option D := match r with
  | .ok (_, [_, _, _, _, x, _]) _ => x
  | _ => none
def evn5 (r : R (Option D × Env)) : Option D := match r with
  | .ok (_, [_, _, _, _, _, x]) _ => x
  | _ => none
abbrev S98 : ST → Env → M → R (Option D × Env) := (evn tab (runF tab 18) 4998).S
def pairEnv (a b : List Nat) (n : Int) (x y : Option D) : Env := [some (.str a), some (.fl six), some (.int n), some (.str b), x, y]
def Pair (S : ST → Env → M → R (Option D × Env)) (a b : List Nat) (k : Int) : Prop := ∀ (n : Int) (x y : Option D), ∃ x' y', blk S inner (pairEnv a b n x y) [.hid, .hid] = .ok (none, pairEnv a b (n + k) x' y') [.hid, .hid]
theorem q00 : Pair S98 [88] [88] 0 := fun n x y => ⟨x, y, by rw [Int.add_zero]; kernel_rfl⟩
theorem q01 : Pair S98 [88] [45, 88] 0 := fun n x y => ⟨x, y, by rw [Int.add_zero]; kernel_rfl⟩
theorem q02 : Pair S98 [88] [89] 1 := fun n x y => ⟨evn4 (blk S98 inner (pairEnv [88] [89] n x y) [.hid, .hid]), evn5 (blk S98 inner (pairEnv [88] [89] n x y) [.hid, .hid]), by kernel_rfl⟩
theorem q03 : Pair S98 [88] [45, 89] 1 := fun n x y => ⟨evn4 (blk S98 inner (pairEnv [88] [45, 89] n x y) [.hid, .hid]), evn5 (blk S98 inner (pairEnv [88] [45, 89] n x y) [.hid, .hid]), by kernel_rfl⟩
theorem q04 : Pair S98 [88] [90] 1 := fun n x y => ⟨evn4 (blk S98 inner (pairEnv [88] [90] n x y) [.hid, .hid]), evn5 (blk S98 inner (pairEnv [88] [90] n x y) [.hid, .hid]), by kernel_rfl⟩
theorem q05 : Pair S98 [88] [45, 90] 1 := fun n x y => ⟨evn4 (blk S98 inner (pairEnv [88] [45, 90] n x y) [.hid, .hid]), evn5 (blk S98 inner (pairEnv [88] [45, 90] n x y) [.hid, .hid]), by kernel_rfl⟩
theorem q10 : Pair S98 [45, 88] [88] 0 := fun n x y => ⟨x, y, by rw [Int.add_zero]; kernel_rfl⟩
theorem q11 : Pair S98 [45, 88] [45, 88] 0 := fun n x y => ⟨x, y, by rw [Int.add_zero]; kernel_rfl⟩
theorem q12 : Pair S98 [45, 88] [89] 1 := fun n x y => ⟨evn4 (blk S98 inner (pairEnv [45, 88] [89] n x y) [.hid, .hid]), evn5 (blk S98 inner (pairEnv [45, 88] [89] n x y) [.hid, .hid]), by kernel_rfl⟩
theorem q13 : Pair S98 [45, 88] [45, 89] 1 := fun n x y => ⟨evn4 (blk S98 inner (pairEnv [45, 88] [45, 89] n x y) [.hid, .hid]), evn5 (blk S98 inner (pairEnv [45, 88] [45, 89] n x y) [.hid, .hid]), by kernel_rfl⟩
theorem q14 : Pair S98 [45, 88] [90] 1 := fun n x y => ⟨evn4 (blk S98 inner (pairEnv [45, 88] [90] n x y) [.hid, .hid]), evn5 (blk S98 inner (pairEnv [45, 88] [90] n x y) [.hid, .hid]), by kernel_rfl⟩
theorem q15 : Pair S98 [45, 88] [45, 90] 1 := fun n x y => ⟨evn4 (blk S98 inner (pairEnv [45, 88] [45, 90] n x y) [.hid, .hid]), evn5 (blk S98 inner (pairEnv [45, 88] [45, 90] n x y) [.hid, .hid]), by kernel_rfl⟩
theorem q20 : Pair S98 [89] [88] 1 := fun n x y => ⟨evn4 (blk S98 inner (pairEnv [89] [88] n x y) [.hid, .hid]), evn5 (blk S98 inner (pairEnv [89] [88] n x y) [.hid, .hid]), by kernel_rfl⟩
theorem q21 : Pair S98 [89] [45, 88] 1 := fun n x y => ⟨evn4 (blk S98 inner (pairEnv [89] [45, 88] n x y) [.hid, .hid]), evn5 (blk S98 inner (pairEnv [89] [45, 88] n x y) [.hid, .hid]), by kernel_rfl⟩
theorem q22 : Pair S98 [89] [89] 0 := fun n x y => ⟨x, y, by rw [Int.add_zero]; kernel_rfl⟩
theorem q23 : Pair S98 [89] [45, 89] 0 := fun n x y => ⟨x, y, by rw [Int.add_zero]; kernel_rfl⟩
theorem q24 : Pair S98 [89] [90] 1 := fun n x y => ⟨evn4 (blk S98 inner (pairEnv [89] [90] n x y) [.hid, .hid]), evn5 (blk S98 inner (pairEnv [89] [90] n x y) [.hid, .hid]), by kernel_rfl⟩
theorem q25 : Pair S98 [89] [45, 90] 1 := fun n x y => ⟨evn4 (blk S98 inner (pairEnv [89] [45, 90] n x y) [.hid, .hid]), evn5 (blk S98 inner (pairEnv [89] [45, 90] n x y) [.hid, .hid]), by kernel_rfl⟩
theorem q30 : Pair S98 [45, 89] [88] 1 := fun n x y => ⟨evn4 (blk S98 inner (pairEnv [45, 89] [88] n x y) [.hid, .hid]), evn5 (blk S98 inner (pairEnv [45, 89] [88] n x y) [.hid, .hid]), by kernel_rfl⟩
theorem q31 : Pair S98 [45, 89] [45, 88] 1 := fun n x y => ⟨evn4 (blk S98 inner (pairEnv [45, 89] [45, 88] n x y) [.hid, .hid]), evn5 (blk S98 inner (pairEnv [45, 89] [45, 88] n x y) [.hid, .hid]), by kernel_rfl⟩
theorem q32 : Pair S98 [45, 89] [89] 0 := fun n x y => ⟨x, y, by rw [Int.add_zero]; kernel_rfl⟩
theorem q33 : Pair S98 [45, 89] [45, 89] 0 := fun n x y => ⟨x, y, by rw [Int.add_zero]; kernel_rfl⟩
theorem q34 : Pair S98 [45, 89] [90] 1 := fun n x y => ⟨evn4 (blk S98 inner (pairEnv [45, 89] [90] n x y) [.hid, .hid]), evn5 (blk S98 inner (pairEnv [45, 89] [90] n x y) [.hid, .hid]), by kernel_rfl⟩
theorem q35 : Pair S98 [45, 89] [45, 90] 1 := fun n x y => ⟨evn4 (blk S98 inner (pairEnv [45, 89] [45, 90] n x y) [.hid, .hid]), evn5 (blk S98 inner (pairEnv [45, 89] [45, 90] n x y) [.hid, .hid]), by kernel_rfl⟩
theorem q40 : Pair S98 [90] [88] 1 := fun n x y => ⟨evn4 (blk S98 inner (pairEnv [90] [88] n x y) [.hid, .hid]), evn5 (blk S98 inner (pairEnv [90] [88] n x y) [.hid, .hid]), by kernel_rfl⟩
theorem q41 : Pair S98 [90] [45, 88] 1 := fun n x y => ⟨evn4 (blk S98 inner (pairEnv [90] [45, 88] n x y) [.hid, .hid]), evn5 (blk S98 inner (pairEnv [90] [45, 88] n x y) [.hid, .hid]), by kernel_rfl⟩
theorem q42 : Pair S98 [90] [89] 1 := fun n x y => ⟨evn4 (blk S98 inner (pairEnv [90] [89] n x y) [.hid, .hid]), evn5 (blk S98 inner (pairEnv [90] [89] n x y) [.hid, .hid]), by kernel_rfl⟩
theorem q43 : Pair S98 [90] [45, 89] 1 := fun n x y => ⟨evn4 (blk S98 inner (pairEnv [90] [45, 89] n x y) [.hid, .hid]), evn5 (blk S98 inner (pairEnv [90] [45, 89] n x y) [.hid, .hid]), by kernel_rfl⟩
theorem q44 : Pair S98 [90] [90] 0 := fun n x y => ⟨x, y, by rw [Int.add_zero]; kernel_rfl⟩
theorem q45 : Pair S98 [90] [45, 90] 0 := fun n x y => ⟨x, y, by rw [Int.add_zero]; kernel_rfl⟩
theorem q50 : Pair S98 [45, 90] [88] 1 := fun n x y => ⟨evn4 (blk S98 inner (pairEnv [45, 90] [88] n x y) [.hid, .hid]), evn5 (blk S98 inner (pairEnv [45, 90] [88] n x y) [.hid, .hid]), by kernel_rfl⟩
theorem q51 : Pair S98 [45, 90] [45, 88] 1 := fun n x y => ⟨evn4 (blk S98 inner (pairEnv [45, 90] [45, 88] n x y) [.hid, .hid]), evn5 (blk S98 inner (pairEnv [45, 90] [45, 88] n x y) [.hid, .hid]), by kernel_rfl⟩
theorem q52 : Pair S98 [45, 90] [89] 1 := fun n x y => ⟨evn4 (blk S98 inner (pairEnv [45, 90] [89] n x y) [.hid, .hid]), evn5 (blk S98 inner (pairEnv [45, 90] [89] n x y) [.hid, .hid]), by kernel_rfl⟩
theorem q53 : Pair S98 [45, 90] [45, 89] 1 := fun n x y => ⟨evn4 (blk S98 inner (pairEnv [45, 90] [45, 89] n x y) [.hid, .hid]), evn5 (blk S98 inner (pairEnv [45, 90] [45, 89] n x y) [.hid, .hid]), by kernel_rfl⟩
theorem q54 : Pair S98 [45, 90] [90] 0 := fun n x y => ⟨x, y, by rw [Int.add_zero]; kernel_rfl⟩
theorem q55 : Pair S98 [45, 90] [45, 90] 0 := fun n x y => ⟨x, y, by rw [Int.add_zero]; kernel_rfl⟩
/-- the inner loop -/
theorem for_cons {f : D → Env → M → R (Option D × Env)} {h : M → Bool} {x : D} {r : List D} {ρ ρ' : Env} {m : M} (e : f x ρ m = .ok (none, ρ') m) (hm : h m = true) : forLoop f h (x :: r) ρ m = forLoop f h r ρ' m := by
  show ((f x ρ m).bind fun o m => (match o with
    | (some d, ρ) => R.ok (some d, ρ) m
    | (none, ρ) => bif h m then forLoop f h r ρ m else .bad)) = _
  rw [e]
  show (bif h m then _ else _) = _
  rw [hm]
  rfl
def tf (S : ST → Env → M → R (Option D × Env)) (t : IT) (b : List ST) (d : D) (ρ : Env) (m : M) : R (Option D × Env) := match tgt t d ρ with
  | some ρ' => blk S b ρ' m
  | none => .bad
def allTrue (_ : M) : Bool := true
theorem turn3 {S : ST → Env → M → R (Option D × Env)} {a b c : List Nat} {k n : Int} {x y z : Option D} (h : Pair S a b k) : ∃ x' y', tf S (.nm 3) inner (.str b) [some (.str a), some (.fl six), some (.int n), z, x, y] [.hid, .hid] = .ok (none, pairEnv a b (n + k) x' y') [.hid, .hid] := h n x y
def Row (S : ST → Env → M → R (Option D × Env)) (a : List Nat) : Prop := ∀ (n : Int) (z x y : Option D), ∃ z' x' y', forLoop (tf S (.nm 3) inner) (held [.hid, .hid] (.fl six)) six [some (.str a), some (.fl six), some (.int n), z, x, y] [.hid, .hid] = .ok (none, [some (.str a), some (.fl six), some (.int (n + 4)), z', x', y']) [.hid, .hid]
theorem row_of {S : ST → Env → M → R (Option D × Env)} {a : List Nat} {k0 k1 k2 k3 k4 k5 : Int} (h0 : Pair S a [88] k0) (h1 : Pair S a [45, 88] k1) (h2 : Pair S a [89] k2) (h3 : Pair S a [45, 89] k3) (h4 : Pair S a [90] k4) (h5 : Pair S a [45, 90] k5) (hk : k0 + k1 + k2 + k3 + k4 + k5 = 4) : Row S a := fun n z x y => by
  obtain ⟨x0, y0, e0⟩ := turn3 (n := n) (x := x) (y := y) (z := z) (c := []) h0
  obtain ⟨x1, y1, e1⟩ := turn3 (n := n + k0) (x := x0) (y := y0) (z := some (.str [88])) (c := []) h1
  obtain ⟨x2, y2, e2⟩ := turn3 (n := n + k0 + k1) (x := x1) (y := y1) (z := some (.str [45, 88])) (c := []) h2
  obtain ⟨x3, y3, e3⟩ := turn3 (n := n + k0 + k1 + k2) (x := x2) (y := y2) (z := some (.str [89])) (c := []) h3
  obtain ⟨x4, y4, e4⟩ := turn3 (n := n + k0 + k1 + k2 + k3) (x := x3) (y := y3) (z := some (.str [45, 89])) (c := []) h4
  obtain ⟨x5, y5, e5⟩ := turn3 (n := n + k0 + k1 + k2 + k3 + k4) (x := x4) (y := y4) (z := some (.str [90])) (c := []) h5
  refine ⟨some (.str [45, 90]), x5, y5, ?_⟩
  show forLoop (tf S (.nm 3) inner) (held [.hid, .hid] (.fl six)) [.str [88], .str [45, 88], .str [89], .str [45, 89], .str [90], .str [45, 90]] _ _ = _
  rw [for_cons e0 rfl, pairEnv, for_cons e1 rfl, pairEnv, for_cons e2 rfl, pairEnv, for_cons e3 rfl, pairEnv, for_cons e4 rfl, pairEnv, for_cons e5 rfl, pairEnv, show n + k0 + k1 + k2 + k3 + k4 + k5 = n + 4 by omega]
  rfl
theorem r0 : Row S98 [88] := row_of q00 q01 q02 q03 q04 q05 (by decide)
theorem r1 : Row S98 [45, 88] := row_of q10 q11 q12 q13 q14 q15 (by decide)
theorem r2 : Row S98 [89] := row_of q20 q21 q22 q23 q24 q25 (by decide)
theorem r3 : Row S98 [45, 89] := row_of q30 q31 q32 q33 q34 q35 (by decide)
theorem r4 : Row S98 [90] := row_of q40 q41 q42 q43 q44 q45 (by decide)
theorem r5 : Row S98 [45, 90] := row_of q50 q51 q52 q53 q54 q55 (by decide)
theorem all_core {cl : Call} (h0 : Row (evn tab cl 4998).S [88]) (h1 : Row (evn tab cl 4998).S [45, 88]) (h2 : Row (evn tab cl 4998).S [89]) (h3 : Row (evn tab cl 4998).S [45, 89]) (h4 : Row (evn tab cl 4998).S [90]) (h5 : Row (evn tab cl 4998).S [45, 90]) :
    ((blk (evn tab cl fuel).S tab_f94.body [none, none, none, none, none, none] [.hid, .hid]).bind fun o m => (match o with
      | (some d, _) => R.ok d m
      | (none, _) => .ok .non m)) = .ok (.bl true) [.hid, .hid] := by
  have turn : ∀ {a : List Nat} {n : Int} {w z x y : Option D}, Row (evn tab cl 4998).S a → ∃ z' x' y', tf (evn tab cl 4999).S (.nm 0) [.for_ (.nm 3) (.val (.var 1)) inner] (.str a) [w, some (.fl six), some (.int n), z, x, y] [.hid, .hid] = .ok (none, [some (.str a), some (.fl six), some (.int (n + 4)), z', x', y']) [.hid, .hid] := fun {a n w z x y} h => by
    obtain ⟨z', x', y', e⟩ := h n z x y
    refine ⟨z', x', y', ?_⟩
    show blk (evn tab cl 4999).S [.for_ (.nm 3) (.val (.var 1)) inner] [some (.str a), some (.fl six), some (.int n), z, x, y] [.hid, .hid] = _
    have h99 : (4999 : Nat) = 4998 + 1 := rfl
    rw [h99, blk_cons, evS]
    show ((forLoop (tf (evn tab cl 4998).S (.nm 3) inner) (held [.hid, .hid] (.fl six)) six [some (.str a), some (.fl six), some (.int n), z, x, y] [.hid, .hid]).bind _) = _
    rw [e]
    rfl
  obtain ⟨z0, x0, y0, e0⟩ := turn (n := 0) (w := none) (z := none) (x := none) (y := none) h0
  obtain ⟨z1, x1, y1, e1⟩ := turn (n := 0 + 4) (w := some (.str [88])) (z := z0) (x := x0) (y := y0) h1
  obtain ⟨z2, x2, y2, e2⟩ := turn (n := 0 + 4 + 4) (w := some (.str [45, 88])) (z := z1) (x := x1) (y := y1) h2
  obtain ⟨z3, x3, y3, e3⟩ := turn (n := 0 + 4 + 4 + 4) (w := some (.str [89])) (z := z2) (x := x2) (y := y2) h3
  obtain ⟨z4, x4, y4, e4⟩ := turn (n := 0 + 4 + 4 + 4 + 4) (w := some (.str [45, 89])) (z := z3) (x := x3) (y := y3) h4
  obtain ⟨z5, x5, y5, e5⟩ := turn (n := 0 + 4 + 4 + 4 + 4 + 4) (w := some (.str [90])) (z := z4) (x := x4) (y := y4) h5
  have hl : forLoop (tf (evn tab cl 4999).S (.nm 0) [.for_ (.nm 3) (.val (.var 1)) inner]) (held [.hid, .hid] (.fl six)) six [none, some (.fl six), some (.int 0), none, none, none] [.hid, .hid] = .ok (none, [some (.str [45, 90]), some (.fl six), some (.int 24), z5, x5, y5]) [.hid, .hid] := by
    show forLoop (tf (evn tab cl 4999).S (.nm 0) [.for_ (.nm 3) (.val (.var 1)) inner]) (held [.hid, .hid] (.fl six)) [.str [88], .str [45, 88], .str [89], .str [45, 89], .str [90], .str [45, 90]] _ _ = _
    rw [for_cons e0 rfl, for_cons e1 rfl, for_cons e2 rfl, for_cons e3 rfl, for_cons e4 rfl, for_cons e5 rfl]
    rfl
  have hb : tab_f94.body = tab_f94.body.head (by simp [tab_f94]) :: [.for_ (.nm 0) (.val (.var 1)) [.for_ (.nm 3) (.val (.var 1)) inner], .ret (.cmp .eq (.var 2) (.k (.int 24)))] := rfl
  have hf : fuel = 4999 + 1 := rfl
  have a1 : (evn tab cl fuel).S (tab_f94.body.head (by simp [tab_f94])) [none, none, none, none, none, none] [.hid, .hid] = .ok (none, [none, some (.fl six), some (.int 0), none, none, none]) [.hid, .hid] := rfl
  have a2 : (evn tab cl fuel).S (.for_ (.nm 0) (.val (.var 1)) [.for_ (.nm 3) (.val (.var 1)) inner]) [none, some (.fl six), some (.int 0), none, none, none] [.hid, .hid] = .ok (none, [some (.str [45, 90]), some (.fl six), some (.int 24), z5, x5, y5]) [.hid, .hid] := by
    rw [hf, evS]
    exact hl
  have a3 : (evn tab cl fuel).S (.ret (.cmp .eq (.var 2) (.k (.int 24)))) [some (.str [45, 90]), some (.fl six), some (.int 24), z5, x5, y5] [.hid, .hid] = .ok (some (.bl true), [some (.str [45, 90]), some (.fl six), some (.int 24), z5, x5, y5]) [.hid, .hid] := rfl
  rw [hb, blk_cons, a1, bind_ok_eq]
  dsimp only
  rw [blk_cons, a2, bind_ok_eq]
  dsimp only
  rw [blk_cons, a3]
  rfl
theorem f_all : tab.fns[94]? = some tab_f94 := rfl
theorem c94 (a b c : Int) : callF tab (runF tab 19) 94 [] [.hid, potC a b c] = .ok (.bl true) [.hid, potC a b c] :=
  call_closed (cl := runF tab (18 + 1)) f_all (l := []) rfl rfl rfl ((run_eq (ds := []) f_all).trans (all_core r0 r1 r2 r3 r4 r5)) rfl
def mid : List ST := (tab_f95.body.drop 1).take 5
def envOf (r : R (Option D × Env)) : Env := match r with
  | .ok (_, ρ) _ => ρ
  | _ => []
abbrev SS19 : ST → Env → M → R (Option D × Env) := (evn tab (runF tab 19) fuel).S
def env0 (w l : Nat) : Env := [some (.ref 1), none, none, none, some (.int w), some (.str [l])]
def Mid (w l : Nat) : Prop := ∀ a b c : Int, ∃ ρ', blk SS19 mid (env0 w l) [.hid, potC a b c] = .ok (none, ρ') [.hid, potC a b c]
theorem m00 : Mid 0 88 := fun a b c => ⟨envOf (blk SS19 mid (env0 0 88) [.hid, potC a b c]), by kernel_rfl⟩
theorem m01 : Mid 0 89 := fun a b c => ⟨envOf (blk SS19 mid (env0 0 89) [.hid, potC a b c]), by kernel_rfl⟩
theorem m02 : Mid 0 90 := fun a b c => ⟨envOf (blk SS19 mid (env0 0 90) [.hid, potC a b c]), by kernel_rfl⟩
theorem m10 : Mid 1 88 := fun a b c => ⟨envOf (blk SS19 mid (env0 1 88) [.hid, potC a b c]), by kernel_rfl⟩
theorem m11 : Mid 1 89 := fun a b c => ⟨envOf (blk SS19 mid (env0 1 89) [.hid, potC a b c]), by kernel_rfl⟩
theorem m12 : Mid 1 90 := fun a b c => ⟨envOf (blk SS19 mid (env0 1 90) [.hid, potC a b c]), by kernel_rfl⟩
theorem m20 : Mid 2 88 := fun a b c => ⟨envOf (blk SS19 mid (env0 2 88) [.hid, potC a b c]), by kernel_rfl⟩
theorem m21 : Mid 2 89 := fun a b c => ⟨envOf (blk SS19 mid (env0 2 89) [.hid, potC a b c]), by kernel_rfl⟩
theorem m22 : Mid 2 90 := fun a b c => ⟨envOf (blk SS19 mid (env0 2 90) [.hid, potC a b c]), by kernel_rfl⟩
theorem m30 : Mid 3 88 := fun a b c => ⟨envOf (blk SS19 mid (env0 3 88) [.hid, potC a b c]), by kernel_rfl⟩
theorem m31 : Mid 3 89 := fun a b c => ⟨envOf (blk SS19 mid (env0 3 89) [.hid, potC a b c]), by kernel_rfl⟩
theorem m32 : Mid 3 90 := fun a b c => ⟨envOf (blk SS19 mid (env0 3 90) [.hid, potC a b c]), by kernel_rfl⟩
theorem mids (w l : Nat) (hw : w < 4) (hl : 88 ≤ l ∧ l < 91) : Mid w l := by
  obtain ⟨h1, h2⟩ := hl
  have e1 : w = 0 ∨ w = 1 ∨ w = 2 ∨ w = 3 := by omega
  have e2 : l = 88 ∨ l = 89 ∨ l = 90 := by omega
  rcases e1 with rfl | rfl | rfl | rfl
  · rcases e2 with rfl | rfl | rfl
    · exact m00
    · exact m01
    · exact m02
  · rcases e2 with rfl | rfl | rfl
    · exact m10
    · exact m11
    · exact m12
  · rcases e2 with rfl | rfl | rfl
    · exact m20
    · exact m21
    · exact m22
  · rcases e2 with rfl | rfl | rfl
    · exact m30
    · exact m31
    · exact m32
/-- right's body, the calls told -/
theorem right_core {cl : Call} {a b a1 c1 a2 c2 w : Int} {l : Nat} {ρ1 : Env} (e1 : callF tab cl 89 [.ref 1, .int 4] [.hid, potC a b 0] = .ok (.int w) [.hid, potC a1 b c1]) (e3 : callF tab cl 90 [.ref 1, .str [88, 89, 90]] [.hid, potC a1 b c1] = .ok (.str [l]) [.hid, potC a2 b c2])
    (hm : blk (evn tab cl fuel).S mid [some (.ref 1), none, none, none, some (.int w), some (.str [l])] [.hid, potC a2 b c2] = .ok (none, ρ1) [.hid, potC a2 b c2]) (h93 : callF tab cl 93 [] [.hid, potC a2 b c2] = .ok (.bl true) [.hid, potC a2 b c2]) (h94 : callF tab cl 94 [] [.hid, potC a2 b c2] = .ok (.bl true) [.hid, potC a2 b c2]) :
    ((blk (evn tab cl fuel).S tab_f95.body [some (.ref 1), none, none, none, none, none] [.hid, potC a b 0]).bind fun o m => (match o with
      | (some d, _) => R.ok d m
      | (none, _) => .ok .non m)) = .ok (.bl true) [.hid, potC a2 b c2] := by
  have hb : tab_f95.body = tab_f95.body.head (by simp [tab_f95]) :: (mid ++ [.ret (.and (.call 93 []) (.call 94 []))]) := rfl
  rw [hb, blk_cons]
  have hf : fuel = 4980 + 20 := rfl
  have h1 : (evn tab cl fuel).S (tab_f95.body.head (by simp [tab_f95])) [some (.ref 1), none, none, none, none, none] [.hid, potC a b 0] = .ok (none, [some (.ref 1), none, none, none, some (.int w), some (.str [l])]) [.hid, potC a2 b c2] := by
    rw [hf]
    have ht : ∀ xs : List D, ∀ m, okLen xs.length = true → tupF xs m = .ok (.tup xs) m := fun xs m h => by unfold tupF; rw [h]; rfl
    simp only [tab_f95, List.head_cons, evS, evE, stepS, stepE, bind_ok_eq, evA_one, evA_nil, evL_cons, evL_nil, varF, List.getElem?_cons_zero, List.getElem?_cons_succ, e1, e3, ht [.int w, .str [l]] _ rfl, tgt, setAll, setE, List.set]
  rw [h1, bind_ok_eq]
  dsimp only
  rw [blk_append, hm, bind_ok_eq]
  dsimp only
  rw [hf]
  simp only [blk_cons, blk_nil, evS, evE, stepS, stepE, bind_ok_eq, evL_nil, h93, h94, isBl_bl, cond_true]
/-- right(pot) -/
theorem right_call {a b : Int} (P : Pot a b 0) : ∃ a' c' : Int, callF tab (runF tab 20) 95 [.ref 1] [.hid, potC a b 0] = .ok (.bl true) [.hid, potC a' b c'] := by
  obtain ⟨w, a1, c1, e1, w0, w1, a10, a11, c10, c11⟩ := take_call (k := 18) (T := tab) (m := [.hid, potC a b 0]) (j := 1) (u := 4) f_take take_b rfl rfl rfl rfl rfl P (by decide) (by decide) (by decide) (by decide) (by decide) (by decide) (by decide)
  have P1 : Pot a1 b c1 := ⟨a10, by have := P.a1; omega, P.b0, P.b1, by omega, by omega⟩
  obtain ⟨r, a2, c2, e2, r0, r1, a20, a21, c20, c21⟩ := take_call (k := 17) (T := tab) (m := [.hid, potC a1 b c1]) (j := 1) (u := (([88, 89, 90] : List Nat).length : Int)) f_take take_b rfl rfl rfl rfl rfl P1 (by decide) (by decide) (by decide) (by decide) (by decide) (by decide) (by decide)
  obtain ⟨l, hl, e3⟩ := of_str (k := 18) (T := tab) (j := 1) (s := [88, 89, 90]) (m := [.hid, potC a1 b c1]) f_of of_b rfl rfl rfl rfl rfl e2 r0 r1 rfl rfl
  have r1 : r < 3 := r1
  have hl2 : 88 ≤ l ∧ l < 91 := by
    rcases (show r.toNat = 0 ∨ r.toNat = 1 ∨ r.toNat = 2 by omega) with q | q | q <;> (rw [q] at hl; simp at hl; omega)
  obtain ⟨ρ1, hm⟩ := mids w.toNat l (by omega) hl2 a2 b c2
  unfold env0 at hm
  rw [show (w.toNat : Int) = w from Int.toNat_of_nonneg w0] at hm
  refine ⟨a2, c2, ?_⟩
  have hrun : runF tab (19 + 1) 95 [.ref 1] [.hid, potC a b 0] = .ok (.bl true) [.hid, potC a2 b c2] :=
    (run_eq f_right).trans (right_core e1 e3 hm (c93 a2 b c2) (c94 a2 b c2))
  rw [call_open (cl := runF tab (19 + 1)) f_right (l := [.ref 1]) rfl rfl rfl hrun]
  exact close_flat rfl rfl rfl
theorem pure_law (ns : List Int) (_ : ns.length ≤ 63) : ∃ m, runF tab (20 + 1) 96 [.scr (ns.map .int)] [] = .ok (.bl true) m :=
  ⟨[], law_run (k := 19) (R := 95) (P := 88) (C := 91) (most := 6) f_law rfl rfl f_pot pot_b rfl rfl rfl rfl (by decide) (by decide) (by decide) (by decide) f_cells rfl rfl rfl rfl rfl (by decide) (by decide) fun a b P => by
    obtain ⟨a', c', e⟩ := right_call P
    exact ⟨_, e⟩⟩
end K79

set_option maxHeartbeats 0
/-! K79d: the end. -/
namespace K79
open PySem PySem.Spec PyProof.Rows L2 Pd
end K79
open PySem PySem.W PySem.Calls PyProof.Rows
theorem PySem.Challenge.cw_looseknobs_k79_tables_by_hand_holds : PySem.Challenge.rw_looseknobs_k79_tables_by_hand.Holds := by
  w_on; o_law
  refine HandSHeadRun.head_any (r := OpenLaw.row PySem.Challenge.rw_looseknobs_k79_tables_by_hand) (q := view (OpenLaw.row PySem.Challenge.rw_looseknobs_k79_tables_by_hand).prog [108]) (H := K79.hk) (ob := K79.ob) (M := 8000) (loose := K79.names) (d := HandSHeadRun.topDef (OpenLaw.row PySem.Challenge.rw_looseknobs_k79_tables_by_hand).prog 108) (kwd := []) K79.ob_eq
    (by kernel_rfl) (fun s => by kernel_rfl) K79.run (by kernel_rfl) (by kernel_rfl) (by kernel_rfl) (by rfl) (by first | assumption | decide +kernel) (by decide +kernel) ⟨rfl, rfl, rfl, rfl, rfl, by decide +kernel⟩ ?hw ?hc
  case hw => w_witness2
  case hc =>
    refine L2.walk_ofE (l := PySem.Challenge.rw_looseknobs_k79_tables_by_hand) (n := 63) (k := 10 * (20 + 1)) (x := "script") (CX := Pd.CXw (PySem.Challenge.rw_looseknobs_k79_tables_by_hand).prog) rfl (by decide) (by kernel_rfl) ⟨rfl, by decide, by decide⟩ ?F (fun H s e s' z => Pd.CXw_no H s e s' z)
    intro w mg fa h Y G hmg0
    obtain ⟨K, KX, c⟩ := Y
    have hmg : mg ("law" : PySem.Str) = some (.ref fa) := by
      have e : (HandSHeadRun.topDef (OpenLaw.row PySem.Challenge.rw_looseknobs_k79_tables_by_hand).prog 108).name = ("law" : PySem.Str) := by kernel_rfl
      rw [← e]
      exact hmg0
    obtain ⟨fd, hb, hF⟩ := Pd.law_ok (P := (PySem.Challenge.rw_looseknobs_k79_tables_by_hand).prog) (w := w) (T := K79.tab) (k := 20) (li := 96) (f := K79.tab_f96) K79.rows_ok KX G c rfl rfl rfl (by decide +kernel) rfl (by kernel_rfl) hmg K79.pure_law
    exact ⟨K, fd, Pd.spLaw K, KX, hb, fun H a ns hl _ hS => ⟨a, ns, rfl, hS, hl, fun _ => rfl⟩, hF⟩
