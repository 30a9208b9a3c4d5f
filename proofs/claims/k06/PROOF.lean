import PyProof.Rows.All
import Wide.All
import OpenK.AllK
import Wide.FinOn
import HandS.ForMost
import HandS.ForExc
import HandS.Lambda
import HandS.TupAny
import HandS.Style
import HandS.Deep
import HandS.Zip
import HandS.RaiseMore
import KE.KEqDict
import HandS.Steps
import HandS.Flow
import HandS.Star
import HandS.Conv
import HandS.TupLen
import KE.SortData
import KE.KDictSum
import HandS.Codes
import HandS.IsInst
import HandS.MakeKw
import HandS.HeadWalk
import HandS.Property
import HandS.Iter
import HandS.Comp
import HandS.Small
import HandS.StrMore
import HandS.DictComp
import HandS.OwnEq
import KE.KCallOwn
import HandS.SlotsOwn
import KE.IntTextLaws
import KE.SortKeyHeap
import HandS.HeadHook4
import HandS.Head2
import HandS.HeadNt
import HandS.Head0
import HandS.Head1
import HandS.HeadEnd
import KE.KStateDown
import Lean
import PySem.Challenge.RW_shortlists_k06_whole_lines_put_and_taken
set_option Elab.async false
set_option linter.all false
section
set_option autoImplicit false
/-! PcCore: a small language with values (lists, tuples and dicts by what they hold), its expressions and statements, and what they come to. Plain Lean. -/
namespace PC

/-- values: a list or a tuple is what it holds; obj: an instance that never changes; cell: a thing with a place of its own in the store; scr: the law's script, a list that nobody changes -/
inductive D where
  | non
  | bl (b : Bool)
  | int (i : Int)
  | str (s : List Nat)
  | lst (xs : List D)
  | tup (xs : List D)
  | dct (kvs : List (D × D))
  | obj (C : Nat) (fs : List (Nat × D))
  | cell (n : Nat)
  | exc (C : Nat) (fs : List (Nat × D))
  | scr (l : List Int)
  deriving Inhabited, Repr

/-! ### equality -/
mutual
def eqv : D → D → Bool
  | .non, .non => true
  | .bl a, .bl b => a == b
  | .bl a, .int j => (if a then (1 : Int) else 0) == j
  | .int i, .bl b => i == (if b then (1 : Int) else 0)
  | .int i, .int j => i == j
  | .str x, .str y => x == y
  | .lst xs, .lst ys => eqvL xs ys
  | .tup xs, .tup ys => eqvL xs ys
  | _, _ => false
def eqvL : List D → List D → Bool
  | [], [] => true
  | x :: xs, y :: ys => eqv x y && eqvL xs ys
  | _, _ => false
end
/-- signs there are -/
def okS (s : List Nat) : Bool := s.all fun c => decide (c < 1114112)
mutual
/-- data for which == is eqv: how deep at most n -/
def shp : Nat → D → Bool
  | _, .non => true
  | _, .bl _ => true
  | _, .int _ => true
  | _, .str s => okS s
  | 0, .lst _ => false
  | 0, .tup _ => false
  | n + 1, .lst xs => shpL n xs
  | n + 1, .tup xs => shpL n xs
  | _, .dct _ => false
  | _, .obj _ _ => false
  | _, .cell _ => false
  | _, .exc _ _ => false
  | _, .scr _ => false
def shpL : Nat → List D → Bool
  | _, [] => true
  | n, x :: xs => shp n x && shpL n xs
end
/-- a key of a dict: an int, a text, a tuple of such -/
def keyd : D → Bool
  | .int _ => true
  | .str _ => true
  | _ => false
def keyT : D → Bool
  | .tup xs => xs.all keyd
  | _ => false
def keyOk (d : D) : Bool := keyd d || keyT d
/-- what a tuple of the module's own may be: the empty one, one with a long text (no key is one) -/
def kcs (ds : List D) : Bool := ds.isEmpty || ds.any fun d => match d with
  | .str s => decide (8 < s.length)
  | _ => false
def keyNew : D → Bool
  | .tup xs => !kcs xs
  | _ => true
/-- a key for a dict with these entries: of their kind -/
def keyFor (kvs : List (D × D)) (k : D) : Bool := keyOk k && kvs.all fun p => keyd p.1 == keyd k

def dGet : List (D × D) → D → Option D
  | [], _ => none
  | (k, v) :: r, x => if eqv k x then some v else dGet r x
def dPut (kvs : List (D × D)) (x y : D) : List (D × D) :=
  if kvs.any (fun p => eqv p.1 x) then kvs.map (fun p => if eqv p.1 x then (p.1, y) else p) else kvs ++ [(x, y)]

/-! ### the language -/
inductive BOp where
  | add | sub | mul | fdiv | mod | pow
inductive COp where
  | eq | ne | lt | le | gt | ge | is_ | isn | in_ | nin
inductive Ty where
  | int | bool | str | tup | lst | cls (C : Nat)
inductive Bi where
  | len | tuple | list | dict | sorted | all | any | abs | int | str | repr | bool | max2 | min2 | max | min | divmod | lenset | sortedset
inductive Bm where
  | append | insert | pop | remove | index | count | split | join | replace | upper | get | items
/-- targets: a name, x[k], several -/
inductive T where
  | n (i : Nat)
  | ix (x k : Nat)
  | t (ts : List T)
inductive E where
  | c (d : D)
  | v (i : Nat)
  | bin (o : BOp) (a b : E)
  | neg (a : E)
  | cmp (o : COp) (a b : E)
  | chn (o p : COp) (a b c : E)
  | and (a b : E)
  | or (a b : E)
  | not (a : E)
  | ite (c a b : E)
  | star (a : E)
  | tup (es : List E)
  | lst (es : List E)
  | dct (kvs : List E)
  | dctS (b : E) (k v : E)
  | lc (e : E) (t : T) (it : E) (cs : List E)
  | lc2 (e : E) (t : T) (it : E) (cs : List E) (t2 : T) (it2 : E) (cs2 : List E)
  | dc (k e : E) (t : T) (it : E) (cs : List E)
  | rng (es : List E)
  | ditems (e : E)
  | enum (e : E)
  | zip (a b : E)
  | call (f : Nat) (es : List E) (ps : List (Sum Nat D))
  | make (C : Nat) (es : List E) (ps : List (Sum Nat D))
  | meth (o : E) (m : Nat) (es : List E) (ps : List (Sum Nat D))
  | attr (o : E) (f : Nat)
  | bi (b : Bi) (es : List E)
  | bm (m : Bm) (o : E) (es : List E)
  | idx (a i : E)
  | slc (a lo hi : E)
  | rev (a : E)
  | isi (a : E) (ts : List Ty)
  | fst (es : List E)
  | srt (e : E) (x : Nat) (k : E)
  | srtL (e : E)
  | mnk (e : E) (x : Nat) (k : E)
  | thk (f : Nat) (b : E) (ow : List Nat)
  | act
inductive S where
  | ex (e : E)
  | set (x : Nat) (mk : Bool) (e : E)
  | setR (x : Nat) (e : E)
  | setT (t : T) (e : E)
  | par (xs : List (Nat × Bool)) (es : List E)
  | setI (o i e : E)
  | setF (o : E) (f : Nat) (e : E)
  | ret (e : E)
  | retN
  | ife (c : E) (a b : List S)
  | for_ (t : T) (it : E) (b : List S)
  | whl (c : E) (b : List S)
  | rse (C : Nat) (es : List E)
  | try_ (b : List S) (hs : List (List Nat × Option Nat × List S))
  | with_ (e : E) (x : Option Nat) (b : List S)
  | brk
  | cont
  | pass

structure Fd where
  ps : Nat
  ns : Nat
  refs : List Bool
  body : List S

/-- what an attribute of an own class is -/
inductive At where
  | fld
  | prop (f : Nat)
/-- the functions, the classes -/
structure Gl where
  fn : Nat → Option Fd
  at_ : Nat → Nat → Option At
  meth : Nat → Nat → Option Nat
  init : Nat → Option Nat
  value : Nat → Bool
  sub : Nat → Nat → Bool
  excF : Nat → Option (List Nat)
  mEq : Nat
  mLen : Nat
  mBool : Nat
  mStr : Nat
  mRepr : Nat
  mIn : Nat
  mGet : Nat
  mSet : Nat
  mEnter : Nat
  mExit : Nat

/-! ### states and ends -/
/-- a slot: nothing, a value, a list or dict of one's own that may still change -/
inductive Sl where
  | un
  | va (d : D)
  | ow (d : D)
  deriving Inhabited, Repr
inductive Cl where
  | ref (xs : List D)
  | inst (C : Nat) (fs : List (Nat × D))
  deriving Inhabited, Repr
abbrev Sg := List Sl
abbrev Gs := List Cl
structure St where
  s : Sg
  g : Gs
inductive Rs (α : Type) where
  | ok (a : α) (s : St)
  | ex (C : Nat) (fs : List (Nat × D)) (s : St)
  | no
/-- a call's end -/
inductive Re where
  | ok (d : D) (fr : Bool) (g : Gs)
  | ex (C : Nat) (fs : List (Nat × D)) (g : Gs)
  | no
def Rs.bind {α β : Type} (r : Rs α) (f : α → St → Rs β) : Rs β := match r with
  | .ok a s => f a s
  | .ex C fs s => .ex C fs s
  | .no => .no
def Re.rs (r : Re) (s : Sg) : Rs (D × Bool) := match r with
  | .ok d fr g => .ok (d, fr) ⟨s, g⟩
  | .ex C fs g => .ex C fs ⟨s, g⟩
  | .no => .no
def opt {α : Type} (o : Option α) (s : St) : Rs α := match o with
  | some a => .ok a s
  | none => .no
inductive Fl where
  | nx
  | rt (d : D) (fr : Bool)
  | bk
  | ct

/-! ### what operators and built-ins make of values -/
def big : Nat := 16777216
def mkL (xs : List D) : Option (D × Bool) := if xs.length ≤ big then some (.lst xs, true) else none
def mkT (xs : List D) : Option (D × Bool) := if xs.length ≤ big then some (.tup xs, false) else none
def mkS (x : List Nat) : Option (D × Bool) := if x.length ≤ big then some (.str x, false) else none
def drf (g : Gs) (d : D) : D := match d with
  | .cell n => (match g[n]? with
    | some (.ref xs) => .lst xs
    | _ => d)
  | d => d
def two64 : Int := 18446744073709551616
def binD (o : BOp) (a b : D) : Option (D × Bool) := match o, a, b with
  | .add, .int i, .int j => some (.int (i + j), false)
  | .add, .str x, .str y => mkS (x ++ y)
  | .add, .lst xs, .lst ys => mkL (xs ++ ys)
  | .add, .tup xs, .tup ys => mkT (xs ++ ys)
  | .sub, .int i, .int j => some (.int (i - j), false)
  | .mul, .int i, .int j => if (-two64 < i ∧ i < two64) ∨ (-two64 < j ∧ j < two64) then some (.int (i * j), false) else none
  | .mul, .lst xs, .int k => if 0 ≤ k ∧ k ≤ 1000 ∧ xs.length * k.toNat ≤ big then some (.lst (List.replicate k.toNat xs).flatten, true) else none
  | .fdiv, .int i, .int j => if 0 < j ∧ j < 1073741824 then some (.int (i / j), false) else none
  | .mod, .int i, .int j => if 0 < j then some (.int (i % j), false) else none
  | .pow, .int i, .int j => if 0 ≤ j ∧ j ≤ 1000 ∧ -two64 < i ∧ i < two64 then some (.int (i ^ j.toNat), false) else none
  | _, _, _ => none
def strLt : List Nat → List Nat → Bool
  | [], [] => false
  | [], _ :: _ => true
  | _ :: _, [] => false
  | a :: r, b :: t => if a < b then true else if b < a then false else strLt r t
mutual
/-- a < b for data of one kind -/
def ltD : D → D → Option Bool
  | .int i, .int j => some (decide (i < j))
  | .str x, .str y => some (strLt x y)
  | .tup xs, .tup ys => ltL xs ys
  | _, _ => none
def ltL : List D → List D → Option Bool
  | [], [] => some false
  | [], _ :: _ => some true
  | _ :: _, [] => some false
  | x :: xs, y :: ys => if eqv x y then ltL xs ys else ltD x y
end
mutual
/-- data as a row of signs -/
def toksD : D → List (Sum Int (List Nat))
  | .bl b => [.inl (if b then 1 else 0)]
  | .int n => [.inl n]
  | .str x => [.inr x]
  | .lst xs => toksL xs
  | .tup xs => toksL xs
  | _ => []
def toksL : List D → List (Sum Int (List Nat))
  | [] => [.inl 0]
  | x :: xs => .inl 1 :: (toksD x ++ toksL xs)
end
mutual
/-- alike, place by place -/
def alikeD : D → D → Bool
  | .non, .non => true
  | .bl _, .bl _ => true
  | .int _, .int _ => true
  | .str _, .str _ => true
  | .lst xs, .lst ys => alikeL xs ys
  | .tup xs, .tup ys => alikeL xs ys
  | _, _ => false
def alikeL : List D → List D → Bool
  | x :: xs, y :: ys => alikeD x y && alikeL xs ys
  | _, _ => true
end
def ltTok : Sum Int (List Nat) → Sum Int (List Nat) → Bool
  | .inl a, .inl b => decide (a < b)
  | .inr a, .inr b => strLt a b
  | .inl _, .inr _ => true
  | .inr _, .inl _ => false
def ltToks : List (Sum Int (List Nat)) → List (Sum Int (List Nat)) → Bool
  | [], [] => false
  | [], _ :: _ => true
  | _ :: _, [] => false
  | x :: r, y :: t => ltTok x y || (!ltTok y x && ltToks r t)
def leD (a b : D) : Bool := !ltToks (toksD b) (toksD a)
def tupNE : D → Bool
  | .tup (_ :: _) => true
  | _ => false
def noTup : D → Bool
  | .tup _ => false
  | .non => false
  | _ => true
def sortable (l : List D) : Bool := (l.all fun x => l.all fun y => alikeD x y) && (l.all tupNE || l.all noTup) && shpL 40 l
/-- sorted by a key, stable -/
def sortD (key : D → D) (l : List D) : Option (List D) := if sortable (l.map key) && decide (l.length ≤ 16777216) then some (l.mergeSort fun a b => leD (key a) (key b)) else none
def subAt (x : List Nat) : List Nat → Bool
  | [] => x.isEmpty
  | c :: r => x.isPrefixOf (c :: r) || subAt x r
def inD (x c : D) : Option Bool := match c with
  | .lst ys => if shp 60 x && shpL 60 ys then some (ys.any fun y => eqv y x) else none
  | .tup ys => if shp 60 x && shpL 60 ys then some (ys.any fun y => eqv y x) else none
  | .str y => (match x with
    | .str [c] => some (y.contains c)
    | _ => none)
  | .dct kvs => if keyFor kvs x then some (dGet kvs x).isSome else none
  | _ => none
def cmpD (o : COp) (a b : D) : Option Bool := match o with
  | .eq => (match a, b with
    | .dct xs, .dct ys => if xs.isEmpty || ys.isEmpty then some (xs.isEmpty && ys.isEmpty) else none
    | a, b => if shp 60 a && shp 60 b then some (eqv a b) else none)
  | .ne => (match a, b with
    | .dct xs, .dct ys => if xs.isEmpty || ys.isEmpty then some (!(xs.isEmpty && ys.isEmpty)) else none
    | a, b => if shp 60 a && shp 60 b then some (!eqv a b) else none)
  | .lt => (match a, b with
    | .int i, .int j => some (decide (i < j))
    | .str x, .str y => some (strLt x y)
    | _, _ => none)
  | .gt => (match a, b with
    | .int i, .int j => some (decide (j < i))
    | .str x, .str y => some (strLt y x)
    | _, _ => none)
  | .le => (match a, b with
    | .int i, .int j => some (decide (i ≤ j))
    | .str x, .str y => some (!strLt y x)
    | _, _ => none)
  | .ge => (match a, b with
    | .int i, .int j => some (decide (j ≤ i))
    | _, _ => none)
  | .is_ => (match b with
    | .non => some (match a with
      | .non => true
      | _ => false)
    | .bl true => (match a with
      | .bl c => some c
      | _ => none)
    | .bl false => (match a with
      | .bl c => some (!c)
      | _ => none)
    | _ => none)
  | .isn => (match b with
    | .non => some (match a with
      | .non => false
      | _ => true)
    | .bl true => (match a with
      | .bl c => some (!c)
      | _ => none)
    | .bl false => (match a with
      | .bl c => some c
      | _ => none)
    | _ => none)
  | .in_ => inD a b
  | .nin => (inD a b).map (!·)
/-- S stands ahead of l -/
def preS (S l : List Nat) : Bool := l.take S.length == S
/-- a text cut at each S from the left; k signs are still passed over -/
def splS (S : List Nat) : Nat → List Nat → List Nat → List (List Nat)
  | _, acc, [] => [acc]
  | 0, acc, c :: r => if preS S (c :: r) = true then acc :: splS S (S.length - 1) [] r else splS S 0 (acc ++ [c]) r
  | k + 1, acc, _ :: r => splS S k acc r
def splitL (sep x : List Nat) : List (List Nat) := splS sep 0 [] x
def joinL (sep : List Nat) : List (List Nat) → List Nat
  | [] => []
  | [p] => p
  | p :: q :: r => p ++ (sep ++ joinL sep (q :: r))
def digits (i : Int) : List Nat := (toString i).toList.map Char.toNat
def strsO : List D → Option (List (List Nat))
  | [] => some []
  | .str x :: r => (strsO r).map (x :: ·)
  | _ :: _ => none
def intsO : List D → Option (List Int)
  | [] => some []
  | .int i :: r => (intsO r).map (i :: ·)
  | _ :: _ => none
def bools : List D → Option (List Bool)
  | [] => some []
  | .bl b :: r => (bools r).map (b :: ·)
  | _ :: _ => none
/-- the signs of a text as repr writes them (plain signs and newlines) -/
def repSign (q : Nat) (c : Nat) : List Nat := if c = 10 then [92, 110] else if c = 92 then [92, 92] else if c = q then [92, c] else [c]
def repStr (x : List Nat) : List Nat :=
  let q := if x.contains 39 && !x.contains 34 then 34 else 39
  q :: (x.flatMap (repSign q) ++ [q])
def plainSigns (x : List Nat) : Bool := x.all fun c => c == 10 || (32 ≤ c && c ≤ 126)
mutual
def rep : D → Option (List Nat)
  | .non => some [78, 111, 110, 101]
  | .bl true => some [84, 114, 117, 101]
  | .bl false => some [70, 97, 108, 115, 101]
  | .int i => some (digits i)
  | .str x => if plainSigns x then some (repStr x) else none
  | .lst xs => (repL xs).map fun l => [91] ++ joinL [44, 32] l ++ [93]
  | .tup xs => (match xs with
    | [x] => (rep x).map fun l => [40] ++ l ++ [44, 41]
    | xs => (repL xs).map fun l => [40] ++ joinL [44, 32] l ++ [41])
  | .dct kvs => (repKV kvs).map fun l => [123] ++ joinL [44, 32] l ++ [125]
  | _ => none
def repL : List D → Option (List (List Nat))
  | [] => some []
  | x :: r => (rep x).bind fun a => (repL r).map (a :: ·)
def repP : D × D → Option (List Nat)
  | (k, v) => (rep k).bind fun a => (rep v).map fun b => a ++ [58, 32] ++ b
def repKV : List (D × D) → Option (List (List Nat))
  | [] => some []
  | p :: r => (repP p).bind fun a => (repKV r).map (a :: ·)
end
def digitVal (c : Nat) : Option Nat := if 48 ≤ c ∧ c ≤ 57 then some (c - 48) else none
def readNat : List Nat → Nat → Option Nat
  | [], n => some n
  | c :: r, n => (digitVal c).bind fun d => readNat r (n * 10 + d)
def dedup : List D → List D
  | [] => []
  | x :: r => x :: (dedup r).filter fun y => !eqv x y
def seqOf : D → Option (List D)
  | .lst xs => some xs
  | .tup xs => some xs
  | .str x => some (x.map fun c => .str [c])
  | .dct kvs => some (kvs.map (·.1))
  | _ => none
/-- what a list, a tuple holds -/
def seqLT : D → Option (List D)
  | .lst xs => some xs
  | .tup xs => some xs
  | _ => none
def biD (b : Bi) (xs : List D) : Option (D × Bool) := match b, xs with
  | .len, [.str x] => if x.length ≤ big then some (.int x.length, false) else none
  | .len, [.lst x] => some (.int x.length, false)
  | .len, [.scr x] => some (.int x.length, false)
  | .len, [.tup x] => some (.int x.length, false)
  | .len, [.dct x] => some (.int x.length, false)
  | .tuple, [.lst x] => some (.tup x, false)
  | .tuple, [.tup x] => some (.tup x, false)
  | .tuple, [.dct x] => some (.tup (x.map (·.1)), false)
  | .list, [.lst x] => mkL x
  | .list, [.tup x] => mkL x
  | .list, [.dct x] => mkL (x.map (·.1))
  | .dict, [.dct x] => some (.dct x, true)
  | .dict, [.lst x] => ((x.foldl (fun acc p => acc.bind fun a => match p with
    | .tup [k, v] => if keyFor a k && keyNew k then some (dPut a k v) else none
    | _ => none) (some [])).map fun a => (.dct a, true))
  | .sorted, [.lst x] => (sortD id x).bind mkL
  | .sorted, [.dct x] => (sortD id (x.map (·.1))).bind mkL
  | .sortedset, [.lst x] => (sortD id (dedup x)).bind mkL
  | .sortedset, [.tup x] => (sortD id (dedup x)).bind mkL
  | .lenset, [.tup x] => if x.all keyd then some (.int (dedup x).length, false) else none
  | .lenset, [.lst x] => if x.all keyd then some (.int (dedup x).length, false) else none
  | .all, [.lst x] => (bools x).map fun l => (.bl (l.all id), false)
  | .any, [.lst x] => (bools x).map fun l => (.bl (l.any id), false)
  | .abs, [.int i] => some (.int (if i < 0 then -i else i), false)
  | .int, [.int i] => some (.int i, false)
  | .int, [.bl i] => some (.int (if i then 1 else 0), false)
  | .int, [.str x] => if x.isEmpty || 600 < x.length then none else (readNat x 0).map fun n => (.int n, false)
  | .str, [.str x] => some (.str x, false)
  | .str, [.int i] => if i.natAbs.log2 < 1920 then some (.str (digits i), false) else none
  | .repr, [x] => (rep x).bind mkS
  | .max2, [.int i, .int j] => some (.int (if j > i then j else i), false)
  | .min2, [.int i, .int j] => some (.int (if j < i then j else i), false)
  | .max, [.lst x] => (intsO x).bind fun l => match l with
    | [] => none
    | i :: r => some (.int (r.foldl (fun a b => if b > a then b else a) i), false)
  | .min, [.lst x] => (intsO x).bind fun l => match l with
    | [] => none
    | i :: r => some (.int (r.foldl (fun a b => if b < a then b else a) i), false)
  | .divmod, [.int i, .int j] => if 0 < j ∧ j < 1073741824 then some (.tup [.int (i / j), .int (i % j)], false) else none
  | _, _ => none
def findIx (xs : List D) (y : D) : Nat → Option Nat
  | n => match xs with
    | [] => none
    | x :: r => if eqv x y then some n else findIx r y (n + 1)
/-- what a walk gives -/
def walkS : D → Option (List D)
  | .lst xs => some xs
  | .tup xs => some xs
  | .str x => some (x.map fun c => .str [c])
  | _ => none
/-- .. a dict only under a name (it is locked meanwhile) -/
def walkI : E → D → Option (List D)
  | .v _, .dct m => some (m.map (·.1))
  | _, d => walkS d
/-- methods that change nothing -/
def bmD (m : Bm) (o : D) (xs : List D) : Option (D × Bool) := match m, o, xs with
  | .index, .lst l, [y] => if shp 60 y && shpL 60 l then (findIx l y 0).map fun k => (.int k, false) else none
  | .index, .tup l, [y] => if shp 60 y && shpL 60 l then (findIx l y 0).map fun k => (.int k, false) else none
  | .count, .lst l, [y] => if shp 60 y && shpL 60 l then some (.int (l.filter fun x => eqv x y).length, false) else none
  | .count, .tup l, [y] => if shp 60 y && shpL 60 l then some (.int (l.filter fun x => eqv x y).length, false) else none
  | .split, .str x, [.str s] => if !s.isEmpty && s.all (fun c => decide (c < 256)) && decide (x.length + 2 ≤ big) then mkL ((splitL s x).map .str) else none
  | .join, .str s, [.lst l] => (strsO l).bind fun ts => if (ts.map List.length).sum + ts.length * s.length ≤ big then some (.str (joinL s ts), false) else none
  | .join, .str s, [.tup l] => (strsO l).bind fun ts => if (ts.map List.length).sum + ts.length * s.length ≤ big then some (.str (joinL s ts), false) else none
  | .replace, .str x, [.str a, .str b] => if a.isEmpty then none else mkS (joinL b (splitL a x))
  | .upper, .str x, [] => if x.all (· < 128) then some (.str (x.map fun c => if 97 ≤ c ∧ c ≤ 122 then c - 32 else c), false) else none
  | .get, .dct kvs, [k] => if keyFor kvs k then some ((dGet kvs k).getD .non, false) else none
  | .get, .dct kvs, [k, z] => if keyFor kvs k then some ((dGet kvs k).getD z, false) else none
  | _, _, _ => none
def ixOf (i : Int) (n : Nat) : Option Nat := if 0 ≤ i then (if i < n then some i.toNat else none) else if 0 ≤ i + n then some (i + n).toNat else none
def idxD (a i : D) : Option (D × Bool) := match a, i with
  | .lst xs, .int k => (ixOf k xs.length).bind fun n => xs[n]?.map fun d => (d, false)
  | .tup xs, .int k => (ixOf k xs.length).bind fun n => xs[n]?.map fun d => (d, false)
  | .scr xs, .int k => (ixOf k xs.length).bind fun n => xs[n]?.map fun d => (.int d, false)
  | .str xs, .int k => if xs.length ≤ big then (ixOf k xs.length).bind fun n => xs[n]?.map fun d => (.str [d], false) else none
  | .dct kvs, k => if keyFor kvs k then (dGet kvs k).map fun d => (d, false) else none
  | _, _ => none
/-- a bound of a slice -/
def bnd (i : Int) (n : Nat) : Nat := if i < 0 then (if i + n < 0 then 0 else (i + n).toNat) else (if i < n then i.toNat else n)
def cutD {α : Type} (xs : List α) (lo hi : Option Int) : List α :=
  let l := (lo.map (bnd · xs.length)).getD 0
  let h := (hi.map (bnd · xs.length)).getD xs.length
  (xs.drop l).take (h - l)
/-- a part of a slice: left out, or an int -/
def prt (e : E) (d : D) : Option (Option Int) := match e with
  | .c .non => some none
  | _ => (match d with
    | .int i => some (some i)
    | _ => none)
def slcD (a : D) (l h : Option Int) : Option (D × Bool) := match a with
  | .lst xs => some (.lst (cutD xs l h), true)
  | .scr xs => some (.lst (cutD (xs.map .int) l h), true)
  | .tup xs => some (.tup (cutD xs l h), false)
  | .str xs => if xs.length ≤ big then some (.str (cutD xs l h), false) else none
  | _ => none
def revD (a : D) : Option (D × Bool) := match a with
  | .lst xs => some (.lst xs.reverse, true)
  | .tup xs => some (.tup xs.reverse, false)
  | .str xs => if xs.length ≤ big then some (.str xs.reverse, false) else none
  | _ => none
def tyIs (G : Gl) (g : Gs) (d : D) : Ty → Bool
  | .int => (match d with
    | .int _ => true
    | .bl _ => true
    | _ => false)
  | .bool => (match d with
    | .bl _ => true
    | _ => false)
  | .str => (match d with
    | .str _ => true
    | _ => false)
  | .tup => (match d with
    | .tup _ => true
    | _ => false)
  | .lst => (match d with
    | .lst _ => true
    | .scr _ => true
    | _ => false)
  | .cls C => (match d with
    | .obj B _ => B == C
    | .exc B _ => G.sub B C
    | .cell n => (match g[n]? with
      | some (.inst B _) => B == C
      | _ => false)
    | _ => false)
def isDct : D → Bool
  | .dct _ => true
  | _ => false
def isRef (g : Gs) : D → Bool
  | .cell n => (match g[n]? with
    | some (.ref _) => true
    | _ => false)
  | _ => false
/-- the items that a walk gives -/
def walkD (d : D) : Option (List D) := seqOf d
def rngD (xs : List D) : Option (List D) := match xs with
  | [.int j] => if -1000000 < j ∧ j < 1000000 then some ((List.range j.toNat).map fun (k : Nat) => .int k) else none
  | [.int i, .int j] => if -1000000 < i ∧ i < 1000000 ∧ -1000000 < j ∧ j < 1000000 then some ((List.range (j - i).toNat).map fun (k : Nat) => .int (i + k)) else none
  | _ => none
def enumD : Nat → List D → List D
  | _, [] => []
  | n, x :: r => .tup [.int n, x] :: enumD (n + 1) r
def zipD : List D → List D → List D
  | x :: xs, y :: ys => .tup [x, y] :: zipD xs ys
  | _, _ => []

/-! ### stores -/
def setS (s : Sg) (i : Nat) (x : Sl) : Sg := s.set i x
/-- a name is given a value: owned if mk and the value is new -/
def put (i : Nat) (mk : Bool) (r : D × Bool) (s : Sg) : Sg := s.set i (if mk && r.2 then .ow r.1 else .va r.1)
def setIx (g : Gs) (n k : Nat) (d : D) : Option Gs := match g[n]? with
  | some (Cl.ref l) => if k < l.length then some (g.set n (.ref (l.set k d))) else none
  | _ => none
mutual
def bindT : T → D → St → Option St
  | .n i, d, s => some ⟨s.s.set i (.va d), s.g⟩
  | .ix x k, d, s => (match s.s[x]? with
    | some (Sl.va (.cell n)) => (setIx s.g n k d).map fun g => ⟨s.s, g⟩
    | _ => none)
  | .t ts, d, s => (match d with
    | .tup xs => bindTs ts xs s
    | .lst xs => bindTs ts xs s
    | _ => none)
def bindTs : List T → List D → St → Option St
  | [], [], s => some s
  | t :: ts, x :: xs, s => (bindT t x s).bind (bindTs ts xs)
  | _, _, _ => none
end
mutual
def ownT : T → List Nat
  | .n i => [i]
  | .ix _ _ => []
  | .t ts => ownTs ts
def ownTs : List T → List Nat
  | [] => []
  | t :: ts => ownT t ++ ownTs ts
end
/-- the slots of a block's own names as they were -/
def back (own : List Nat) (s0 s : Sg) : Sg := own.foldl (fun a i => a.set i (s0.getD i .un)) s
/-- .. forgotten -/
def wip (own : List Nat) (s : Sg) : Sg := own.foldl (fun a i => a.set i .un) s
/-- a block's own names hold nothing that is owned -/
def clr (own : List Nat) (s : Sg) : Bool := own.all fun i => match s[i]? with
  | some (Sl.ow _) => false
  | _ => true
/-- names that a thunk reads are no longer owned -/
def frz1 (a : Sg) (i : Nat) : Sg := match a[i]? with
  | some (Sl.ow d) => a.set i (.va d)
  | _ => a
def frz (ow : List Nat) (s : Sg) : Sg := ow.foldl frz1 s
def permF (vs : List (D × Bool)) : List (Sum Nat D) → Option (List (D × Bool))
  | [] => some []
  | .inl k :: r => vs[k]?.bind fun v => (permF vs r).map ((v.1, false) :: ·)
  | .inr d :: r => (permF vs r).map ((d, false) :: ·)
def isDfl : Sum Nat D → Bool
  | .inl _ => false
  | .inr _ => true
/-- as they come, then defaults -/
def isId : Nat → List (Sum Nat D) → Bool
  | n, .inl k :: r => k == n && isId (n + 1) r
  | _, r => r.all isDfl
def dflOf : List (Sum Nat D) → List (D × Bool)
  | [] => []
  | .inl _ :: r => dflOf r
  | .inr d :: r => (d, false) :: dflOf r
def perm (vs : List (D × Bool)) (ps : List (Sum Nat D)) : Option (List (D × Bool)) := if isId 0 ps then some (vs ++ dflOf ps) else permF vs ps
/-- arguments: a new list where a list with a place is asked for becomes one -/
def args : List Bool → List (D × Bool) → Gs → List D × Gs
  | true :: bs, (.lst xs, true) :: r, g => let p := args bs r (g ++ [.ref xs]); (.cell g.length :: p.1, p.2)
  | _ :: bs, (d, _) :: r, g => let p := args bs r g; (d :: p.1, p.2)
  | [], (d, _) :: r, g => let p := args [] r g; (d :: p.1, p.2)
  | _, [], g => ([], g)
mutual
/-- no cell at or above n -/
def below : Nat → D → Bool
  | _, .non => true
  | _, .bl _ => true
  | _, .int _ => true
  | _, .str _ => true
  | n, .lst xs => belowL n xs
  | n, .tup xs => belowL n xs
  | n, .dct kvs => belowK n kvs
  | n, .obj _ fs => belowF n fs
  | n, .cell k => decide (k < n)
  | n, .exc _ fs => belowF n fs
  | _, .scr _ => true
def belowL : Nat → List D → Bool
  | _, [] => true
  | n, x :: xs => below n x && belowL n xs
def belowKV : Nat → D × D → Bool
  | n, (k, v) => below n k && below n v
def belowK : Nat → List (D × D) → Bool
  | _, [] => true
  | n, p :: r => belowKV n p && belowK n r
def belowNF : Nat → Nat × D → Bool
  | n, (_, v) => below n v
def belowF : Nat → List (Nat × D) → Bool
  | _, [] => true
  | n, p :: r => belowNF n p && belowF n r
end
def fGet : List (Nat × D) → Nat → Option D
  | [], _ => none
  | (k, v) :: r, f => if k = f then some v else fGet r f
def fPut : List (Nat × D) → Nat → D → List (Nat × D)
  | [], f, x => [(f, x)]
  | (k, v) :: r, f, x => if k = f then (k, x) :: r else (k, v) :: fPut r f x

/-! ### what expressions and statements come to -/
abbrev CF := Nat → List (D × Bool) → Option (Gs → Re) → Gs → Re
/-- the class of an own instance -/
def clsOf (g : Gs) : D → Option Nat
  | .obj C _ => some C
  | .cell n => (match g[n]? with
    | some (.inst C _) => some C
    | _ => none)
  | _ => none
def fldsOf (g : Gs) : D → Option (List (Nat × D))
  | .obj _ fs => some fs
  | .exc _ fs => some fs
  | .cell n => (match g[n]? with
    | some (.inst _ fs) => some fs
    | _ => none)
  | _ => none
/-- a value by an own method -/
def viaM (G : Gl) (cf : CF) (m : Nat) (xs : List (D × Bool)) (C : Nat) (s : St) : Rs (D × Bool) := match G.meth C m with
  | some f => (cf f xs none s.g).rs s.s
  | none => .no
/-- cells that nobody sees any more -/
def clB (n : Nat) : Cl → Bool
  | .ref xs => belowL n xs
  | .inst _ fs => belowF n fs
/-- C(..) -/
def makeD (G : Gl) (cf : CF) (C : Nat) (xs : List (D × Bool)) (s : St) : Rs (D × Bool) := match G.excF C with
  | some fs => if xs.length = fs.length then .ok (.exc C (fs.zip (xs.map (·.1))), false) s else .no
  | none => match G.init C with
    | none => .no
    | some f => match cf f ((.cell s.g.length, false) :: xs) none (s.g ++ [.inst C []]) with
      | .ok .non _ g => if G.value C then (match g[s.g.length]? with
          | some (.inst B fs) => if B == C && g.length = s.g.length + 1 && belowF s.g.length fs && (g.take s.g.length).all (clB s.g.length) then .ok (.obj C fs, false) ⟨s.s, g.take s.g.length⟩ else .no
          | _ => .no)
        else .ok (.cell s.g.length, false) ⟨s.s, g⟩
      | .ok _ _ _ => .no
      | .ex D fs g => .ex D fs ⟨s.s, g.take s.g.length⟩
      | .no => .no
def attrD (G : Gl) (cf : CF) (f : Nat) (d : D) (s : St) : Rs (D × Bool) := match d with
  | .exc _ fs => opt ((fGet fs f).map fun x => (x, false)) s
  | d => match clsOf s.g d, fldsOf s.g d with
    | some C, some fs => (match G.at_ C f with
      | some .fld => opt ((fGet fs f).map fun x => (x, false)) s
      | some (.prop p) => (cf p [(d, false)] none s.g).rs s.s
      | none => .no)
    | _, _ => .no
/-- a list comprehension over items -/
def lcL (step : D → St → Rs (List D)) : List D → St → Rs (List D)
  | [], s => .ok [] s
  | x :: r, s => (step x s).bind fun a s1 => (lcL step r s1).bind fun b s2 => .ok (a ++ b) s2
def lcK (step : D → List (D × D) → St → Rs (List (D × D))) : List D → List (D × D) → St → Rs (List (D × D))
  | [], acc, s => .ok acc s
  | x :: r, acc, s => (step x acc s).bind fun a s1 => lcK step r a s1
def keysL (step : D → St → Rs D) : List D → St → Rs (List (D × D))
  | [], s => .ok [] s
  | x :: r, s => (step x s).bind fun k s1 => (keysL step r s1).bind fun b s2 => .ok ((x, k) :: b) s2
def sortK (l : List (D × D)) : Option (List D) := (sortD (fun p => match p with
  | .tup [_, k] => k
  | p => p) (l.map fun p => .tup [p.1, p.2])).map fun m => m.map fun p => match p with
  | .tup [x, _] => x
  | p => p
/-- tuples, the shorter ones first -/
def lenKey : D → D
  | .tup zs => .tup [.int zs.length, .tup zs]
  | d => d
def isIntD : D → Bool
  | .int _ => true
  | _ => false
def isTupD : D → Bool
  | .tup zs => zs.all isIntD
  | _ => false
def srtLD : D → Option (D × Bool)
  | .lst xs => if xs.all isTupD then (sortD lenKey xs).bind mkL else none
  | _ => none
def minK : List (D × D) → Option D
  | [] => none
  | (x, k) :: r => (r.foldl (fun acc p => acc.bind fun a => match ltD p.2 a.2 with
    | some true => some p
    | some false => some a
    | none => none) (some (x, k))).map (·.1)
def forL (body : D → St → Rs Fl) : List D → St → Rs Fl
  | [], s => .ok .nx s
  | x :: r, s => (body x s).bind fun f s1 => match f with
    | .nx => forL body r s1
    | .ct => forL body r s1
    | .bk => .ok .nx s1
    | .rt d fr => .ok (.rt d fr) s1
def whlL (test : St → Rs Bool) (body : St → Rs Fl) : Nat → St → Rs Fl
  | 0, _ => .no
  | n + 1, s => (test s).bind fun b s1 => if b then (body s1).bind fun f s2 => (match f with
      | .nx => whlL test body n s2
      | .ct => whlL test body n s2
      | .bk => .ok .nx s2
      | .rt d fr => .ok (.rt d fr) s2)
    else .ok .nx s1
def toB (r : D × Bool) (s : St) : Rs Bool := match r.1 with
  | .bl b => .ok b s
  | _ => .no
/-- a list of one's own is changed -/
def mutD (m : Bm) (d : D) (xs : List D) : Option (D × D) := match m, d, xs with
  | .append, .lst l, [x] => if l.length < big then some (.lst (l ++ [x]), .non) else none
  | .insert, .lst l, [.int k, x] => if 0 ≤ k ∧ k ≤ l.length ∧ l.length < big then some (.lst (l.take k.toNat ++ x :: l.drop k.toNat), .non) else none
  | .pop, .lst l, [] => l.getLast?.map fun x => (.lst l.dropLast, x)
  | .pop, .lst l, [.int k] => if 0 ≤ k then l[k.toNat]?.map fun x => (.lst (l.eraseIdx k.toNat), x) else none
  | .remove, .lst l, [x] => if shp 60 x && shpL 60 l then (findIx l x 0).map fun k => (.lst (l.eraseIdx k), .non) else none
  | _, _, _ => none
def isMut : Bm → Bool
  | .append => true
  | .insert => true
  | .pop => true
  | .remove => true
  | _ => false
def setD (d k x : D) : Option D := match d, k with
  | .lst l, .int i => (ixOf i l.length).map fun n => .lst (l.set n x)
  | .dct kvs, k => if keyFor kvs k && keyNew k && decide (kvs.length < big) then some (.dct (dPut kvs k x)) else none
  | _, _ => none
/-- a name of a list that may change -/
def isLs (s : St) (i : Nat) : Bool := match s.s[i]? with
  | some (.ow (.lst _)) => true
  | some (.va (.cell n)) => (match s.g[n]? with
    | some (.ref _) => true
    | _ => false)
  | _ => false
/-- a name is read: an owned thing is then a value for good -/
def rd (i : Nat) (s : St) : Rs (D × Bool) := match s.s[i]? with
  | some (.va d) => .ok (d, false) s
  | some (.ow d) => .ok (d, false) ⟨s.s.set i (.va d), s.g⟩
  | _ => .no
/-- a look at a name -/
def pk (i : Nat) (s : St) : Rs (D × Bool) := match s.s[i]? with
  | some (.va d) => .ok (d, false) s
  | some (.ow d) => .ok (d, false) s
  | _ => .no
mutual
/-- nothing can change while this is reckoned -/
def quiet : E → Bool
  | .c _ => true
  | .v _ => true
  | .bin _ a b => quiet a && quiet b
  | .neg a => quiet a
  | .cmp _ a b => quiet a && quiet b
  | .chn _ _ a b c => quiet a && quiet b && quiet c
  | .and a b => quiet a && quiet b
  | .or a b => quiet a && quiet b
  | .not a => quiet a
  | .ite c a b => quiet c && quiet a && quiet b
  | .star a => quiet a
  | .tup es => quietL es
  | .lst es => quietL es
  | .dct es => quietL es
  | .lc e _ it cs => quiet e && quiet it && quietL cs
  | .rng es => quietL es
  | .ditems e => quiet e
  | .enum e => quiet e
  | .zip a b => quiet a && quiet b
  | .bi _ es => quietL es
  | .bm m o es => !isMut m && quiet o && quietL es
  | .idx a i => quiet a && quiet i
  | .slc a l h => quiet a && quiet l && quiet h
  | .rev a => quiet a
  | .isi a _ => quiet a
  | .call _ es _ => quietL es
  | .make _ es _ => quietL es
  | .meth o _ es _ => quiet o && quietL es
  | .attr o _ => quiet o
  | .fst es => quietL es
  | _ => false
def quietL : List E → Bool
  | [] => true
  | e :: es => quiet e && quietL es
end
/-- an expression as an operand: a name is looked at if what follows is quiet (q) -/
def lk (q : Bool) (a : E) (s : St) (r : Rs (D × Bool)) : Rs (D × Bool) := match q, a with
  | true, .v i => pk i s
  | _, _ => r
/-- a name of a dict: what is walked is known -/
def isDs (e : E) (s : St) : Bool := match e with
  | .v i => (match s.s[i]? with
    | some (.ow (.dct _)) => true
    | _ => false)
  | _ => false
/-- a name that is only looked at -/
def looked (e : E) (s : St) : Bool := match e with
  | .v i => (match s.s[i]? with
    | some (.ow _) => true
    | _ => false)
  | _ => false
/-- a comparison that an instance answers -/
def inC (o : COp) (g : Gs) (x y : D) : Bool := match o with
  | .eq => (clsOf g x).isSome
  | .ne => (clsOf g x).isSome
  | .in_ => (match y with
    | .cell _ => true
    | _ => false)
  | .nin => (match y with
    | .cell _ => true
    | _ => false)
  | _ => false
section
variable (G : Gl) (cf : CF) (th : Option (Gs → Re))
def notB (r : Rs (D × Bool)) : Rs (D × Bool) := r.bind fun x s => (toB x s).bind fun k s1 => .ok (.bl (!k), false) s1
/-- an instance that changes: equal to itself alone -/
def plainC (G : Gl) (g : Gs) (d : D) : Bool := match clsOf g d with
  | some C => !G.value C && (G.meth C G.mEq).isNone
  | none => false
def cmpV (o : COp) (x y : D × Bool) (s : St) : Rs (D × Bool) := match o, x.1, y.1 with
  | .eq, .obj C _, _ => viaM G cf G.mEq [(x.1, false), (y.1, false)] C s
  | .ne, .obj C _, _ => notB (viaM G cf G.mEq [(x.1, false), (y.1, false)] C s)
  | .eq, .cell a, .cell b => if plainC G s.g x.1 then .ok (.bl (a == b), false) s else .no
  | .ne, .cell a, .cell b => if plainC G s.g x.1 then .ok (.bl (!(a == b)), false) s else .no
  | .in_, _, .cell n => (match clsOf s.g (.cell n) with
    | some C => viaM G cf G.mIn [(y.1, false), (x.1, false)] C s
    | none => (opt (cmpD .in_ x.1 (drf s.g y.1)) s).bind fun k s1 => .ok (.bl k, false) s1)
  | .nin, _, .cell n => (match clsOf s.g (.cell n) with
    | some C => notB (viaM G cf G.mIn [(y.1, false), (x.1, false)] C s)
    | none => (opt (cmpD .nin x.1 (drf s.g y.1)) s).bind fun k s1 => .ok (.bl k, false) s1)
  | o, a, b => (opt (cmpD o a b) s).bind fun k s1 => .ok (.bl k, false) s1
/-- what an own method must give -/
def okB : Bi → D → Bool
  | .len, .int i => decide (0 ≤ i) && decide (i ≤ big)
  | .bool, .bl _ => true
  | .str, .str _ => true
  | .repr, .str _ => true
  | _, _ => false
def okR (b : Bi) (r : Rs (D × Bool)) : Rs (D × Bool) := r.bind fun x s => if okB b x.1 then .ok x s else .no
def biV (b : Bi) (x : D × Bool) (s : St) : Rs (D × Bool) := match clsOf s.g x.1 with
  | some C => (match b with
    | .len => okR b (viaM G cf G.mLen [(x.1, false)] C s)
    | .bool => okR b (viaM G cf G.mBool [(x.1, false)] C s)
    | .str => okR b (viaM G cf G.mStr [(x.1, false)] C s)
    | .repr => okR b (viaM G cf G.mRepr [(x.1, false)] C s)
    | _ => .no)
  | none => opt (biD b [drf s.g x.1]) s
def idxV (x : D × Bool) (i : D) (s : St) : Rs (D × Bool) := match x.1 with
  | .cell n => (match clsOf s.g (.cell n) with
    | some C => viaM G cf G.mGet [(x.1, false), (i, false)] C s
    | none => opt (idxD (drf s.g x.1) i) s)
  | d => opt (idxD d i) s
def allS : List D → Option (List Nat)
  | [] => some []
  | .str x :: r => (allS r).map (x ++ ·)
  | .int i :: r => (allS r).map (digits i ++ ·)
  | _ :: _ => none
/-- a dict as displayed: keys and values by turns -/
def dispD : List D → List (D × D) → Option (List (D × D))
  | [], acc => some acc
  | k :: v :: r, acc => if keyFor acc k && keyNew k then dispD r (dPut acc k v) else none
  | _, _ => none
mutual
def evE : E → St → Rs (D × Bool)
  | .c d, s => .ok (d, false) s
  | .v i, s => rd i s
  | .bin o a b, s => (lk (quiet b) a s (evE a s)).bind fun x s1 => (lk true b s1 (evE b s1)).bind fun y s2 => opt (binD o (drf s2.g x.1) (drf s2.g y.1)) s2
  | .neg a, s => (evE a s).bind fun x s1 => (match x.1 with
    | .int i => .ok (.int (-i), false) s1
    | _ => .no)
  | .cmp o a b, s => (lk (quiet b) a s (evE a s)).bind fun x s1 => (lk true b s1 (evE b s1)).bind fun y s2 => if inC o s2.g x.1 y.1 && (looked a s1 || looked b s2 || x.2 || y.2) then .no else cmpV G cf o x y s2
  | .chn o p a b c, s => (evE a s).bind fun x s1 => (evE b s1).bind fun y s2 => (opt (cmpD o x.1 y.1) s2).bind fun k s3 =>
      if k then (evE c s3).bind fun z s4 => (opt (cmpD p y.1 z.1) s4).bind fun j s5 => .ok (.bl j, false) s5 else .ok (.bl false, false) s3
  | .and a b, s => (evE a s).bind fun x s1 => (toB x s1).bind fun k s2 => if k then evE b s2 else .ok (.bl false, false) s2
  | .or a b, s => (evE a s).bind fun x s1 => (toB x s1).bind fun k s2 => if k then .ok (.bl true, false) s2 else evE b s2
  | .not a, s => notB (evE a s)
  | .ite c a b, s => (evE c s).bind fun x s1 => (toB x s1).bind fun k s2 => if k then evE a s2 else evE b s2
  | .star _, _ => .no
  | .tup es, s => (evL es s).bind fun xs s1 => opt (mkT (xs.map (·.1))) s1
  | .lst es, s => (evL es s).bind fun xs s1 => opt (mkL (xs.map (·.1))) s1
  | .dct kvs, s => (evL kvs s).bind fun xs s1 => opt ((dispD (xs.map (·.1)) []).map fun m => (.dct m, true)) s1
  | .dctS b k v, s => (lk (quiet k && quiet v) b s (evE b s)).bind fun x s1 => (evE k s1).bind fun y s2 => (evE v s2).bind fun z s3 => opt ((setD x.1 y.1 z.1).map fun d => (d, true)) s3
  | .lc e t it cs, s => (lk (quiet e && quietL cs && !isDs it s) it s (evE it s)).bind fun r s1 => (opt (if clr (ownT t) s1.s then walkI it r.1 else none) s1).bind fun xs s1' =>
      (lcL (fun x s2 => (opt (bindT t x ⟨wip (ownT t) s2.s, s2.g⟩) s2).bind fun z _ => (evA cs z).bind fun k s4 => if k then (evE e s4).bind fun y s5 => .ok [y.1] ⟨back (ownT t) s2.s s5.s, s5.g⟩ else .ok [] ⟨back (ownT t) s2.s s4.s, s4.g⟩) xs s1').bind
      fun ys s6 => opt (mkL ys) s6
  | .lc2 e t it cs t2 it2 cs2, s => (evE it s).bind fun r s1 => (opt (if clr (ownT t ++ ownT t2) s1.s then walkI it r.1 else none) s1).bind fun xs s1' =>
      (lcL (fun x s2 => (opt (bindT t x ⟨wip (ownT t) s2.s, s2.g⟩) s2).bind fun z _ => (evA cs z).bind fun k s4 => if k then
          ((evE it2 s4).bind fun r2 s5 => (opt (walkI it2 r2.1) s5).bind fun xs2 s6 =>
            (lcL (fun x2 s7 => (opt (bindT t2 x2 ⟨wip (ownT t2) s7.s, s7.g⟩) s7).bind fun z2 _ => (evA cs2 z2).bind fun k2 s9 => if k2 then (evE e s9).bind fun y sa => .ok [y.1] ⟨back (ownT t2) s7.s sa.s, sa.g⟩ else .ok [] ⟨back (ownT t2) s7.s s9.s, s9.g⟩) xs2 s6)).bind
          fun ys sb => .ok ys ⟨back (ownT t) s2.s sb.s, sb.g⟩
        else .ok [] ⟨back (ownT t) s2.s s4.s, s4.g⟩) xs s1').bind
      fun ys sc => opt (mkL ys) sc
  | .dc k e t it cs, s => (evE it s).bind fun r s1 => (opt (if clr (ownT t) s1.s then walkI it r.1 else none) s1).bind fun xs s1' =>
      (lcK (fun x acc s2 => (opt (bindT t x ⟨wip (ownT t) s2.s, s2.g⟩) s2).bind fun z _ => (evA cs z).bind fun b s4 => if b then
          (evE k s4).bind fun y s5 => (evE e s5).bind fun w s6 => (opt (setD (.dct acc) y.1 w.1) s6).bind fun d s7 => (match d with
            | .dct m => .ok m ⟨back (ownT t) s2.s s7.s, s7.g⟩
            | _ => .no)
        else .ok acc ⟨back (ownT t) s2.s s4.s, s4.g⟩) xs [] s1').bind fun m s8 => .ok (.dct m, true) s8
  | .rng es, s => (evL es s).bind fun xs s1 => opt ((rngD (xs.map (·.1))).bind mkL) s1
  | .ditems e, s => (lk true e s (evE e s)).bind fun x s1 => (match x.1 with
    | .dct kvs => .ok (.lst (kvs.map fun p => .tup [p.1, p.2]), true) s1
    | _ => .no)
  | .enum e, s => (evE e s).bind fun x s1 => opt ((seqOf x.1).map fun xs => (.lst (enumD 0 xs), true)) s1
  | .zip a b, s => (evE a s).bind fun x s1 => (evE b s1).bind fun y s2 => opt ((seqOf x.1).bind fun xs => (seqOf y.1).map fun ys => (.lst (zipD xs ys), true)) s2
  | .call f es ps, s => (evL es s).bind fun xs s1 => (opt (perm xs ps) s1).bind fun ys s2 => (cf f ys none s2.g).rs s2.s
  | .make C es ps, s => (evL es s).bind fun xs s1 => (opt (perm xs ps) s1).bind fun ys s2 => makeD G cf C ys s2
  | .meth o m es ps, s => (evE o s).bind fun x s1 => (match clsOf s1.g x.1 with
    | some C => (evL es s1).bind fun xs s2 => (opt (perm xs ps) s2).bind fun ys s3 => viaM G cf m (x :: ys) C s3
    | none => .no)
  | .attr o f, s => (evE o s).bind fun x s1 => attrD G cf f x.1 s1
  | .bi b es, s => (match es with
    | [e] => (lk true e s (evE e s)).bind fun x s1 => biV G cf b x s1
    | es => (evL es s).bind fun xs s1 => opt (biD b (xs.map (·.1))) s1)
  | .bm m o es, s => if isMut m then (match o with
      | .v i => if !isLs s i then .no else (evL es s).bind fun xs s1 => (match s1.s[i]? with
        | some (.ow d) => (opt (mutD m d (xs.map (·.1))) s1).bind fun r s2 => .ok (r.2, false) ⟨s2.s.set i (.ow r.1), s2.g⟩
        | some (.va (.cell n)) => (match s1.g[n]? with
          | some (.ref l) => (opt (mutD m (.lst l) (xs.map (·.1))) s1).bind fun r s2 => (match r.1 with
            | .lst l2 => .ok (r.2, false) ⟨s2.s, s2.g.set n (.ref l2)⟩
            | _ => .no)
          | _ => .no)
        | _ => .no)
      | _ => .no)
    else (lk (quietL es) o s (evE o s)).bind fun x s1 => (match es with
      | [e] => (lk true e s1 (evE e s1)).bind fun y s2 => opt (bmD m (drf s2.g x.1) [y.1]) s2
      | es => (evL es s1).bind fun xs s2 => opt (bmD m (drf s2.g x.1) (xs.map (·.1))) s2)
  | .idx a i, s => (lk (quiet i) a s (evE a s)).bind fun x s1 => (evE i s1).bind fun y s2 => idxV G cf x y.1 s2
  | .slc a lo hi, s => (lk (quiet lo && quiet hi) a s (evE a s)).bind fun x s1 => (evE lo s1).bind fun l s2 => (opt (prt lo l.1) s2).bind fun p s3 => (evE hi s3).bind fun h s4 => (opt (prt hi h.1) s4).bind fun q s5 => opt (slcD (drf s5.g x.1) p q) s5
  | .rev a, s => (lk true a s (evE a s)).bind fun x s1 => opt (revD x.1) s1
  | .isi a ts, s => (evE a s).bind fun x s1 => .ok (.bl (ts.any fun t => tyIs G s1.g (drf s1.g x.1) t), false) s1
  | .fst es, s => (evL es s).bind fun xs s1 => opt ((allS (xs.map (·.1))).bind mkS) s1
  | .srt e x k, s => (lk true e s (evE e s)).bind fun r s1 => (opt (seqOf r.1) s1).bind fun xs s2 =>
      (keysL (fun y s3 => (evE k ⟨s3.s.set x (.va y), s3.g⟩).bind fun z s4 => .ok z.1 ⟨s4.s.set x (s3.s.getD x .un), s4.g⟩) xs s2).bind fun ps s5 => opt ((sortK ps).bind mkL) s5
  | .srtL e, s => (lk true e s (evE e s)).bind fun x s1 => opt (srtLD (drf s1.g x.1)) s1
  | .mnk e x k, s => (lk true e s (evE e s)).bind fun r s1 => (opt (seqOf r.1) s1).bind fun xs s2 =>
      (keysL (fun y s3 => (evE k ⟨s3.s.set x (.va y), s3.g⟩).bind fun z s4 => .ok z.1 ⟨s4.s.set x (s3.s.getD x .un), s4.g⟩) xs s2).bind fun ps s5 => opt ((minK ps).map fun d => (d, false)) s5
  | .thk f b ow, s => (cf f [] (some fun g => match evE b ⟨frz ow s.s, g⟩ with
      | .ok r s1 => .ok r.1 false s1.g
      | .ex C fs s1 => .ex C fs s1.g
      | .no => .no) s.g).rs (frz ow s.s)
  | .act, s => (match th with
    | some t => (t s.g).rs s.s
    | none => .no)
def evL : List E → St → Rs (List (D × Bool))
  | [], s => .ok [] s
  | .star a :: es, s => (lk (quietL es) a s (evE a s)).bind fun x s1 => (opt (seqLT x.1) s1).bind fun ys s2 => (evL es s2).bind fun xs s3 => .ok (ys.map (fun y => (y, false)) ++ xs) s3
  | e :: es, s => (evE e s).bind fun x s1 => (evL es s1).bind fun xs s2 => .ok (x :: xs) s2
/-- all tests -/
def evA : List E → St → Rs Bool
  | [], s => .ok true s
  | e :: es, s => (evE e s).bind fun x s1 => (toB x s1).bind fun k s2 => if k then evA es s2 else .ok false s2
end
/-- which errors a clause takes -/
def takes (C : Nat) (cs : List Nat) : Bool := cs.any fun c => G.sub C c
def fuelW : Nat := 100000
/-- a, b = x, y -/
def puts : List (Nat × Bool) → List (D × Bool) → Sg → Option Sg
  | [], [], s => some s
  | p :: ps, r :: rs, s => puts ps rs (put p.1 p.2 r s)
  | _, _, _ => none
mutual
def evS : S → St → Rs Fl
  | .ex e, s => (evE G cf th e s).bind fun _ s1 => .ok .nx s1
  | .set x mk e, s => (evE G cf th e s).bind fun r s1 => .ok .nx ⟨put x mk r s1.s, s1.g⟩
  | .setR x e, s => (evE G cf th e s).bind fun r s1 => (match r with
      | (.lst l, true) => .ok .nx ⟨s1.s.set x (.va (.cell s1.g.length)), s1.g ++ [.ref l]⟩
      | _ => .no)
  | .setT t e, s => (evE G cf th e s).bind fun r s1 => (opt (bindT t r.1 s1) s1).bind fun z _ => .ok .nx z
  | .par xs es, s => (evL G cf th es s).bind fun rs s1 => (opt (puts xs rs s1.s) s1).bind fun z s2 => .ok .nx ⟨z, s2.g⟩
  | .setI o i e, s => (evE G cf th e s).bind fun x s1 => (match o with
      | .v j => (match s1.s[j]? with
        | some (.ow _) => (evE G cf th i s1).bind fun k s2 => (match s2.s[j]? with
          | some (.ow d2) => (opt (setD d2 k.1 x.1) s2).bind fun z s3 => .ok .nx ⟨s3.s.set j (.ow z), s3.g⟩
          | _ => .no)
        | some (.va (.cell n)) => (evE G cf th i s1).bind fun k s2 => (match s2.g[n]? with
          | some (.ref l) => (opt (setD (.lst l) k.1 x.1) s2).bind fun z s3 => (match z with
            | .lst m => .ok .nx ⟨s3.s, s3.g.set n (.ref m)⟩
            | _ => .no)
          | some (.inst C _) => (viaM G cf G.mSet [(.cell n, false), (k.1, false), (x.1, false)] C s2).bind fun _ s3 => .ok .nx s3
          | none => .no)
        | _ => .no)
      | o => (evE G cf th o s1).bind fun y s2 => (evE G cf th i s2).bind fun k s3 => (match clsOf s3.g y.1 with
          | some C => (viaM G cf G.mSet [(y.1, false), (k.1, false), (x.1, false)] C s3).bind fun _ s4 => .ok .nx s4
          | none => .no))
  | .setF o f e, s => (evE G cf th e s).bind fun x s1 => (evE G cf th o s1).bind fun y s2 => (match y.1 with
      | .cell n => (match s2.g[n]? with
        | some (.inst C fs) => if fs.length < 900 then .ok .nx ⟨s2.s, s2.g.set n (.inst C (fPut fs f x.1))⟩ else .no
        | _ => .no)
      | _ => .no)
  | .ret e, s => (match e with
    | .v i => (pk i s).bind fun r s1 => (match s.s[i]? with
      | some (.ow d) => .ok (.rt d true) ⟨s1.s.set i .un, s1.g⟩
      | _ => .ok (.rt r.1 r.2) s1)
    | e => (evE G cf th e s).bind fun r s1 => .ok (.rt r.1 r.2) s1)
  | .retN, s => .ok (.rt .non false) s
  | .ife c a b, s => (evE G cf th c s).bind fun x s1 => (toB x s1).bind fun k s2 => if k then evSs a s2 else evSs b s2
  | .for_ t it b, s => (evE G cf th it s).bind fun r s1 => (opt (walkI it r.1) s1).bind fun xs s2 =>
      forL (fun x s3 => (opt (bindT t x s3) s3).bind fun z _ => evSs b z) xs s2
  | .whl c b, s => whlL (fun s1 => (evE G cf th c s1).bind fun x s2 => toB x s2) (fun s1 => evSs b s1) fuelW s
  | .rse C es, s => (evL G cf th es s).bind fun xs s1 => (makeD G cf C xs s1).bind fun x s2 => (match x.1 with
      | .exc D fs => .ex D fs s2
      | _ => .no)
  | .try_ b hs, s => (match evSs b s with
      | .ex C fs s1 => evH hs C fs s1
      | r => r)
  | .with_ e x b, s => (evE G cf th e s).bind fun m s1 => (match clsOf s1.g m.1 with
      | some C => (viaM G cf G.mEnter [m] C s1).bind fun r s2 => (match evSs b ⟨(match x with
          | some i => s2.s.set i (.va r.1)
          | none => s2.s), s2.g⟩ with
        | .ok f s3 => (viaM G cf G.mExit [m, (.non, false), (.non, false), (.non, false)] C s3).bind fun _ s4 => .ok f s4
        | .ex D fs s3 => (viaM G cf G.mExit [m, (.int D, false), (.exc D fs, false), (.int 0, false)] C s3).bind fun _ s4 => .ex D fs s4
        | .no => .no)
      | none => .no)
  | .brk, s => .ok .bk s
  | .cont, s => .ok .ct s
  | .pass, s => .ok .nx s
def evSs : List S → St → Rs Fl
  | [], s => .ok .nx s
  | x :: r, s => (evS x s).bind fun f s1 => (match f with
    | .nx => evSs r s1
    | f => .ok f s1)
/-- the clauses of a try, from the first -/
def evH : List (List Nat × Option Nat × List S) → Nat → List (Nat × D) → St → Rs Fl
  | [], C, fs, s => .ex C fs s
  | h :: r, C, fs, s => if takes G C h.1 then evH1 h.2 C fs s else evH r C fs s
def evH1 : Option Nat × List S → Nat → List (Nat × D) → St → Rs Fl
  | (n, b), C, fs, s => (match n with
    | some i => (match evSs b ⟨s.s.set i (.va (.exc C fs)), s.g⟩ with
      | .ok f s1 => .ok f ⟨s1.s.set i .un, s1.g⟩
      | r => r)
    | none => evSs b s)
end
end
/-- a call's end: cells that nobody sees any more are dropped -/
def fin (n : Nat) (d : D) (fr : Bool) (g : Gs) : Re :=
  if g.length = n then .ok d fr g else if below n d && (g.take n).all (clB n) then .ok d fr (g.take n) else .ok d fr g
def finX (n : Nat) (C : Nat) (fs : List (Nat × D)) (g : Gs) : Re :=
  if g.length = n then .ex C fs g else if belowF n fs && (g.take n).all (clB n) then .ex C fs (g.take n) else .ex C fs g
def evFn (G : Gl) : Nat → CF
  | 0 => fun _ _ _ _ => .no
  | k + 1 => fun f xs th g => match G.fn f with
    | none => .no
    | some fd => if xs.length + (if th.isSome then 1 else 0) = fd.ps then
        let p := args fd.refs xs g
        match evSs G (evFn G k) th fd.body ⟨p.1.map .va ++ List.replicate (fd.ns - xs.length) .un, p.2⟩ with
        | .ok (.rt d fr) s => fin g.length d fr s.g
        | .ok .nx s => fin g.length .non false s.g
        | .ok _ _ => .no
        | .ex C fs s => finX g.length C fs s.g
        | .no => .no
      else .no
end PC
end

section
set_option Elab.async false
set_option linter.all false
set_option maxRecDepth 100000
set_option maxHeartbeats 1000000
/-! Br1: how the core language's values, slots and stores stand in the layer's heap. -/
namespace Br
open PySem PySem.Spec PyProof.Rows L2
open PC (D E S Sl Cl Sg Gs Rs Re)

/-- the row's names and addresses -/
structure Tb where
  K : PySem.W.Frag
  own : Nat → Bool
  fld : Nat → Bool
  fnA : Nat → Addr
  clA : Nat → Addr
  nm : Nat → Str
  tb : List (Addr × Str)
  scr : Option (Addr × List Int)

def keyD : Key → D
  | .inl i => .int i
  | .inr x => .str x.cps.toList

/-- a tuple of the module's -/
def KTup (K : PySem.W.Frag) (a : Addr) (vs : List V) : Prop := ∃ (o : Obj) (its : Array Value) (n : Nat), K.lookup a = some o ∧ o.cls = .type "tuple" ∧ o.data = .seq its n ∧ its.size ≤ sizeLine ∧ Vals vs its.toList
section
variable (T : Tb) (ι : List Addr) (F : Hp)
mutual
/-- a value that is known for good -/
inductive Rep : V → D → Prop
  | non : Rep .non .non
  | bl (b : Bool) : Rep (.bl b) (.bl b)
  | int (i : Int) : Rep (.int i) (.int i)
  | str (x : Str) : Rep (.str x) (.str x.cps.toList)
  | lst {a : Addr} {vs : List V} {ds : List D} : F a = some (.lst vs) → Reps vs ds → Rep (.ref a) (.lst ds)
  | tup {a : Addr} {vs : List V} {ds : List D} : F a = some (.tup vs) → Reps vs ds → Rep (.ref a) (.tup ds)
  | kt {a : Addr} {vs : List V} {ds : List D} : KTup T.K a vs → PC.kcs ds = true → Reps vs ds → Rep (.ref a) (.tup ds)
  | dK {a : Addr} {es : List (Key × V)} {kvs : List (D × D)} : F a = some (.dK es) → RepK es kvs → Rep (.ref a) (.dct kvs)
  | dT {a : Addr} {es : List (List Key × V)} {kvs : List (D × D)} : F a = some (.dT es) → RepT es kvs → Rep (.ref a) (.dct kvs)
  | obj {a dx : Addr} {C : Nat} {es : List (Str × V)} {fs : List (Nat × D)} : T.own C = true → F a = some (.ins (T.clA C) dx es) → RepF es fs → Rep (.ref a) (.obj C fs)
  | cell {n : Nat} {a : Addr} : ι[n]? = some a → Rep (.ref a) (.cell n)
  | scr {a : Addr} {ns : List Int} : T.scr = some (a, ns) → Rep (.ref a) (.scr ns)
  | scrF {a : Addr} {ns : List Int} : F a = some (.lst (ns.map V.int)) → Rep (.ref a) (.scr ns)
inductive Reps : List V → List D → Prop
  | nil : Reps [] []
  | cons {v : V} {d : D} {vs : List V} {ds : List D} : Rep v d → Reps vs ds → Reps (v :: vs) (d :: ds)
inductive RepK : List (Key × V) → List (D × D) → Prop
  | nil : RepK [] []
  | cons {k : Key} {v : V} {d : D} {es : List (Key × V)} {kvs : List (D × D)} : Rep v d → RepK es kvs → RepK ((k, v) :: es) ((keyD k, d) :: kvs)
inductive RepT : List (List Key × V) → List (D × D) → Prop
  | nil : RepT [] []
  | cons {k : List Key} {v : V} {d : D} {es : List (List Key × V)} {kvs : List (D × D)} : Rep v d → RepT es kvs → RepT ((k, v) :: es) ((.tup (k.map keyD), d) :: kvs)
inductive RepF : List (Str × V) → List (Nat × D) → Prop
  | nil : RepF [] []
  | cons {n : Nat} {v : V} {d : D} {es : List (Str × V)} {fs : List (Nat × D)} : T.fld n = true → Rep v d → RepF es fs → RepF ((T.nm n, v) :: es) ((n, d) :: fs)
end
end

section
variable {T : Tb} {ι ι' : List Addr} {F F' : Hp}
mutual
theorem Rep.mono (hi : ∀ (n : Nat) a, ι[n]? = some a → ι'[n]? = some a) (hf : ∀ a u, F a = some u → F' a = some u) : ∀ {v : V} {d : D}, Rep T ι F v d → Rep T ι' F' v d
  | _, _, .non => .non
  | _, _, .bl b => .bl b
  | _, _, .int i => .int i
  | _, _, .str x => .str x
  | _, _, .lst h r => .lst (hf _ _ h) (Reps.mono hi hf r)
  | _, _, .tup h r => .tup (hf _ _ h) (Reps.mono hi hf r)
  | _, _, .kt h k r => .kt h k (Reps.mono hi hf r)
  | _, _, .dK h r => .dK (hf _ _ h) (RepK.mono hi hf r)
  | _, _, .dT h r => .dT (hf _ _ h) (RepT.mono hi hf r)
  | _, _, .obj o h r => .obj o (hf _ _ h) (RepF.mono hi hf r)
  | _, _, .cell h => .cell (hi _ _ h)
  | _, _, .scr h => .scr h
  | _, _, .scrF h => .scrF (hf _ _ h)
theorem Reps.mono (hi : ∀ (n : Nat) a, ι[n]? = some a → ι'[n]? = some a) (hf : ∀ a u, F a = some u → F' a = some u) : ∀ {v : List V} {d : List D}, Reps T ι F v d → Reps T ι' F' v d
  | _, _, .nil => .nil
  | _, _, .cons h r => .cons (Rep.mono hi hf h) (Reps.mono hi hf r)
theorem RepK.mono (hi : ∀ (n : Nat) a, ι[n]? = some a → ι'[n]? = some a) (hf : ∀ a u, F a = some u → F' a = some u) : ∀ {v : List (Key × V)} {d : List (D × D)}, RepK T ι F v d → RepK T ι' F' v d
  | _, _, .nil => .nil
  | _, _, .cons h r => .cons (Rep.mono hi hf h) (RepK.mono hi hf r)
theorem RepT.mono (hi : ∀ (n : Nat) a, ι[n]? = some a → ι'[n]? = some a) (hf : ∀ a u, F a = some u → F' a = some u) : ∀ {v : List (List Key × V)} {d : List (D × D)}, RepT T ι F v d → RepT T ι' F' v d
  | _, _, .nil => .nil
  | _, _, .cons h r => .cons (Rep.mono hi hf h) (RepT.mono hi hf r)
theorem RepF.mono (hi : ∀ (n : Nat) a, ι[n]? = some a → ι'[n]? = some a) (hf : ∀ a u, F a = some u → F' a = some u) : ∀ {v : List (Str × V)} {d : List (Nat × D)}, RepF T ι F v d → RepF T ι' F' v d
  | _, _, .nil => .nil
  | _, _, .cons o h r => .cons o (Rep.mono hi hf h) (RepF.mono hi hf r)
end
end

/-! ### worlds -/
/-- what is known: the store's addresses, the part of the heap that never changes, the slots, the store -/
structure Wd where
  ι : List Addr
  F : Hp
  s : Sg
  g : Gs
abbrev Wd.st (w : Wd) : PC.St := ⟨w.s, w.g⟩

/-- a list or a dict, by what it holds (at a, in the heap H) -/
def CtL (T : Tb) (ι : List Addr) (F H : Hp) (a : Addr) (d : D) : Prop := match d with
  | .lst ds => ∃ vs, H a = some (.lst vs) ∧ Reps T ι F vs ds
  | .dct kvs => (∃ es, H a = some (.dK es) ∧ RepK T ι F es kvs) ∨ ∃ es, H a = some (.dT es) ∧ RepT T ι F es kvs
  | _ => False
/-- the thing at a slot that is owned -/
def Own (w : Wd) (σ : L2.St) (a : Addr) : Prop := ∃ (i : Nat) (d : D), w.s[i]? = some (Sl.ow d) ∧ σ[i]? = some (some (V.ref a))
/-- a tuple; a table of code objects (it grows) -/
def tupT : HO → Bool
  | .tup _ => true
  | .tbl _ => true
  | _ => false
def isTup (o : Option HO) : Prop := ∃ u, o = some u ∧ tupT u = true
def nT : HO → Bool
  | .tbl _ => false
  | _ => true
theorem nT_of {o : Option HO} {u : HO} (h : o = some u) (n : ¬ isTup o) : nT u = true := by
  cases u with
  | tbl ps => exact (n ⟨_, h, rfl⟩).elim
  | _ => rfl
/-- what may be known -/
def okU : HO → Bool
  | .frz _ _ => false
  | .tbl _ => false
  | _ => true
/-- nobody's: a thing that is tracked and is none of these -/
structure Free (w : Wd) (σ : L2.St) (H : Hp) (a : Addr) : Prop where
  f : w.F a = none
  i : a ∉ w.ι
  o : ¬ Own w σ a
/-- the store's cell c stands at a -/
def ClAt (T : Tb) (ι : List Addr) (F H : Hp) (a : Addr) : Cl → Prop
  | .ref ds => ∃ vs, H a = some (.lst vs) ∧ Reps T ι F vs ds
  | .inst C fs => T.own C = true ∧ ∃ dx es, H a = some (.ins (T.clA C) dx es) ∧ RepF T ι F es fs
def dctH : HO → Bool
  | .dK _ => true
  | .dT _ => true
  | _ => false
/-- neither a table nor a code object -/
def plO : HO → Bool
  | .tbl _ => false
  | .ext _ => false
  | .frz _ (.lst _) => false
  | _ => true
/-- the tables, the script -/
structure TabS (T : Tb) (H : Hp) : Prop where
  t : LamX.Tabs T.tb H
  s : ∀ a ns, T.scr = some (a, ns) → (∃ o, H a = some (.frz o (.lst (ns.map V.int)))) ∨ ∃ (o : Obj) (its : Array Value) (n : Nat), T.K.lookup a = some o ∧ o.cls = .type "list" ∧ o.dict = none ∧ o.data = .seq its n ∧ its.size ≤ sizeLine ∧ Vals (ns.map V.int) its.toList
theorem TabS.ext {T : Tb} {H H' : Hp} (t : TabS T H) (h : ∀ a o, H a = some o → H' a = some o) : TabS T H' := ⟨t.t.ext h, fun a ns e => (t.s a ns e).imp (fun ⟨o, z⟩ => ⟨o, h _ _ z⟩) id⟩
theorem TabS.sq {T : Tb} {H : Hp} (t : TabS T H) {a : Addr} {ns : List Int} (e : T.scr = some (a, ns)) : SqL T.K H a (ns.map V.int) := (t.s a ns e).imp (fun ⟨o, z⟩ => .inr ⟨o, z⟩) id
theorem tabs_upd0 {L : List (Addr × Str)} {H : Hp} {d : Addr} {o : HO} (t : LamX.Tabs L H) (h : ∀ u, H d = some u → plO u = true) : LamX.Tabs L (upd H d o) := fun p hp => by
  obtain ⟨ps, h1, h2, h3⟩ := t p hp
  have n1 : p.1 ≠ d := fun z => by
    rw [z] at h1
    exact absurd (h _ h1) Bool.false_ne_true
  refine ⟨ps, by rw [upd_ne n1]; exact h1, h2, fun pos cv hc => ?_⟩
  obtain ⟨c, e1, e2⟩ := h3 pos cv hc
  have n2 : c ≠ d := fun z => by
    rw [z] at e2
    exact absurd (h _ e2) Bool.false_ne_true
  exact ⟨c, e1, by rw [upd_ne n2]; exact e2⟩
theorem tabs_upd {T : Tb} {H : Hp} {d : Addr} {o : HO} (t : TabS T H) (h : ∀ u, H d = some u → plO u = true) : TabS T (upd H d o) := ⟨tabs_upd0 t.t h, fun a ns e => (t.s a ns e).imp (fun ⟨ob, z⟩ => by
    have n : a ≠ d := fun q => by
      rw [q] at z
      exact absurd (h _ z) Bool.false_ne_true
    exact ⟨ob, by rw [upd_ne n]; exact z⟩) id⟩
structure Ok (T : Tb) (w : Wd) (σ : L2.St) (H : Hp) : Prop where
  len : w.ι.length = w.g.length
  nd : w.ι.Nodup
  sub : ∀ a u, w.F a = some u → H a = some u ∨ (dctH u = true ∧ ∃ o, H a = some (.frz o u))
  frz : ∀ a u, w.F a = some u → okU u = true
  cel : ∀ (n : Nat) a c, w.ι[n]? = some a → w.g[n]? = some c → w.F a = none ∧ ClAt T w.ι w.F H a c
  sl : w.s.length = σ.length
  va : ∀ (i : Nat) d, w.s[i]? = some (.va d) → ∃ v, σ[i]? = some (some v) ∧ Rep T w.ι w.F v d
  ow : ∀ (i : Nat) d, w.s[i]? = some (.ow d) → ∃ a, σ[i]? = some (some (V.ref a)) ∧ w.F a = none ∧ a ∉ w.ι ∧ CtL T w.ι w.F H a d
  ap : ∀ (i j : Nat) d e a, w.s[i]? = some (.ow d) → w.s[j]? = some (.ow e) → σ[i]? = some (some (V.ref a)) → σ[j]? = some (some (V.ref a)) → i = j
  tb : TabS T H
/-- from one world to a later one -/
structure Stp (w : Wd) (σ : L2.St) (H : Hp) (w' : Wd) (σ' : L2.St) (H' : Hp) : Prop where
  ι : ∀ (n : Nat) a, w.ι[n]? = some a → w'.ι[n]? = some a
  F : ∀ a u, w.F a = some u → w'.F a = some u
  kp : ∀ a o, H a = some o → nT o = true → a ∉ w.ι → ¬ Own w σ a → H' a = some o
  fr : ∀ a o, H a = some o → ¬ isTup (H a) → w.F a = none → a ∉ w.ι → ¬ Own w σ a → w'.F a = none ∧ a ∉ w'.ι ∧ ¬ Own w' σ' a
  tr : ∀ a, H' a = none → H a = none
  nw : ∀ a, Own w' σ' a → Own w σ a ∨ H a = none

section
variable {T : Tb} {w w1 w2 : Wd} {σ σ1 σ2 : L2.St} {H H1 H2 : Hp}
theorem Ok.rd (k : Ok T w σ H) {a : Addr} {u : HO} (h : w.F a = some u) : Rd H a u := (k.sub a u h).elim .inl fun z => .inr z.2
theorem Ok.ex (k : Ok T w σ H) {a : Addr} {u : HO} (h : w.F a = some u) (n : dctH u = false) : H a = some u := (k.sub a u h).elim id fun z => by
  rw [n] at z
  exact absurd z.1 Bool.false_ne_true
theorem Stp.refl : Stp w σ H w σ H := ⟨fun _ _ h => h, fun _ _ h => h, fun _ _ h _ _ _ => h, fun _ _ _ _ h1 h2 h3 => ⟨h1, h2, h3⟩, fun _ h => h, fun _ h => .inl h⟩
/-- what stands at a place of the store, of a slot -/
theorem Ok.cell_at (k : Ok T w σ H) {a : Addr} (h : a ∈ w.ι) : w.F a = none ∧ ∃ o, H a = some o ∧ ¬ isTup (H a) := by
  obtain ⟨n, hn⟩ := List.getElem?_of_mem h
  have hl : n < w.g.length := by
    rw [← k.len]
    exact (List.getElem?_eq_some_iff.mp hn).1
  obtain ⟨f, c⟩ := k.cel n a w.g[n] hn (by simp [hl])
  refine ⟨f, ?_⟩
  cases e : w.g[n] with
  | ref ds =>
    rw [e] at c
    obtain ⟨vs, c, _⟩ := c
    exact ⟨_, c, fun ⟨ws, z, t⟩ => by rw [c] at z; cases z; cases t⟩
  | inst C fs =>
    rw [e] at c
    obtain ⟨_, dx, es, c, _⟩ := c
    exact ⟨_, c, fun ⟨ws, z, t⟩ => by rw [c] at z; cases z; cases t⟩
theorem CtL.there {ι : List Addr} {F : Hp} {a : Addr} {d : D} (h : CtL T ι F H a d) : ∃ o, H a = some o ∧ ¬ isTup (H a) := by
  cases d with
  | lst ds =>
    obtain ⟨vs, c, _⟩ := h
    exact ⟨_, c, fun ⟨ws, z, t⟩ => by rw [c] at z; cases z; cases t⟩
  | dct kvs =>
    rcases h with ⟨es, c, _⟩ | ⟨es, c, _⟩
    · exact ⟨_, c, fun ⟨ws, z, t⟩ => by rw [c] at z; cases z; cases t⟩
    · exact ⟨_, c, fun ⟨ws, z, t⟩ => by rw [c] at z; cases z; cases t⟩
  | _ => exact h.elim
theorem Ok.own_at (k : Ok T w σ H) {a : Addr} (h : Own w σ a) : w.F a = none ∧ a ∉ w.ι ∧ ∃ o, H a = some o ∧ ¬ isTup (H a) := by
  obtain ⟨i, d, h1, h2⟩ := h
  obtain ⟨b, h3, h4, h5, h6⟩ := k.ow i d h1
  rw [h2] at h3
  cases h3
  exact ⟨h4, h5, h6.there⟩
/-- a thing of the known part is no cell, is not owned -/
theorem Ok.known (k : Ok T w σ H) {a : Addr} {u : HO} (h : w.F a = some u) : a ∉ w.ι ∧ ¬ Own w σ a := by
  refine ⟨fun z => ?_, fun z => ?_⟩
  · have e := (k.cell_at z).1
    rw [h] at e
    cases e
  · have e := (k.own_at z).1
    rw [h] at e
    cases e
theorem Stp.trans (k1 : Ok T w1 σ1 H1) (a : Stp w σ H w1 σ1 H1) (b : Stp w1 σ1 H1 w2 σ2 H2) : Stp w σ H w2 σ2 H2 := by
  have pass : ∀ c o, H c = some o → nT o = true → c ∉ w.ι → ¬ Own w σ c → c ∉ w1.ι ∧ ¬ Own w1 σ1 c := fun c o h1 hn h2 h3 => by
    have e := a.kp c o h1 hn h2 h3
    cases f : w.F c with
    | some u => exact k1.known (a.F c u f)
    | none =>
      by_cases t : isTup (H c)
      · have t1 : isTup (H1 c) := by
          rw [e, ← h1]
          exact t
        exact ⟨fun z => (k1.cell_at z).2.choose_spec.2 t1, fun z => (k1.own_at z).2.2.choose_spec.2 t1⟩
      · exact (a.fr c o h1 t f h2 h3).2
  refine ⟨fun n c h => b.ι n c (a.ι n c h), fun c u h => b.F c u (a.F c u h), fun c o h1 hn h2 h3 => ?_, fun c o h1 t f h2 h3 => ?_, fun c h => a.tr c (b.tr c h), fun c h => (b.nw c h).elim (a.nw c) fun z => .inr (a.tr c z)⟩
  · obtain ⟨p, q⟩ := pass c o h1 hn h2 h3
    exact b.kp c o (a.kp c o h1 hn h2 h3) hn p q
  · obtain ⟨f1, p, q⟩ := a.fr c o h1 t f h2 h3
    have e := a.kp c o h1 (nT_of h1 t) h2 h3
    exact b.fr c o e (by rw [e, ← h1]; exact t) f1 p q
theorem Stp.rep (a : Stp w σ H w1 σ1 H1) {v : V} {d : D} (r : Rep T w.ι w.F v d) : Rep T w1.ι w1.F v d := r.mono a.ι a.F
theorem Stp.reps (a : Stp w σ H w1 σ1 H1) {v : List V} {d : List D} (r : Reps T w.ι w.F v d) : Reps T w1.ι w1.F v d := r.mono a.ι a.F
end

/-- a value with the mark whether it is new: a new list or dict is nobody's yet -/
def RepX (T : Tb) (w : Wd) (σ : L2.St) (H : Hp) (v : V) (r : D × Bool) : Prop := match r.2 with
  | false => Rep T w.ι w.F v r.1
  | true => ∃ a, v = .ref a ∧ Free w σ H a ∧ CtL T w.ι w.F H a r.1
end Br
end

section
set_option Elab.async false
set_option linter.all false
set_option maxRecDepth 100000
set_option maxHeartbeats 1000000
/-! Br2: growing worlds; contents; what an expression's reading asks. -/
namespace Br
open PySem PySem.Spec PyProof.Rows L2
open PC (D E S Sl Cl Sg Gs Rs Re)

section
variable {T : Tb} {w w1 w2 : Wd} {σ σ1 σ2 : L2.St} {H H1 H2 : Hp} {p a : Addr} {o u : HO}
/-! ### lists of things -/
theorem Reps.length {ι : List Addr} {F : Hp} : ∀ {vs : List V} {ds : List D}, Reps T ι F vs ds → vs.length = ds.length
  | _, _, .nil => rfl
  | _, _, .cons _ r => congrArg (· + 1) r.length
theorem Reps.get {ι : List Addr} {F : Hp} : ∀ {vs : List V} {ds : List D} {i : Nat} {d : D}, Reps T ι F vs ds → ds[i]? = some d → ∃ v, vs[i]? = some v ∧ Rep T ι F v d
  | _, _, _, _, .nil, h => by simp at h
  | _, _, 0, d, .cons r _, h => by
    simp at h
    subst h
    exact ⟨_, rfl, r⟩
  | _, _, i + 1, d, .cons _ r, h => by
    obtain ⟨v, h1, h2⟩ := r.get (i := i) (d := d) (by simpa using h)
    exact ⟨v, by simpa using h1, h2⟩
theorem Reps.getV {ι : List Addr} {F : Hp} : ∀ {vs : List V} {ds : List D} {i : Nat} {v : V}, Reps T ι F vs ds → vs[i]? = some v → ∃ d, ds[i]? = some d ∧ Rep T ι F v d
  | _, _, _, _, .nil, h => by simp at h
  | _, _, 0, d, .cons r _, h => by
    simp at h
    subst h
    exact ⟨_, rfl, r⟩
  | _, _, i + 1, d, .cons _ r, h => by
    obtain ⟨v, h1, h2⟩ := r.getV (i := i) (v := d) (by simpa using h)
    exact ⟨v, by simpa using h1, h2⟩
theorem Reps.append {ι : List Addr} {F : Hp} : ∀ {vs ws : List V} {ds es : List D}, Reps T ι F vs ds → Reps T ι F ws es → Reps T ι F (vs ++ ws) (ds ++ es)
  | _, _, _, _, .nil, r => r
  | _, _, _, _, .cons h t, r => .cons h (t.append r)
theorem Reps.drop {ι : List Addr} {F : Hp} : ∀ {vs : List V} {ds : List D} (n : Nat), Reps T ι F vs ds → Reps T ι F (vs.drop n) (ds.drop n)
  | _, _, 0, r => r
  | _, _, _ + 1, .nil => .nil
  | _, _, n + 1, .cons _ t => t.drop n
theorem Reps.take {ι : List Addr} {F : Hp} : ∀ {vs : List V} {ds : List D} (n : Nat), Reps T ι F vs ds → Reps T ι F (vs.take n) (ds.take n)
  | _, _, 0, _ => .nil
  | _, _, _ + 1, .nil => .nil
  | _, _, n + 1, .cons h t => .cons h (t.take n)
theorem Reps.set {ι : List Addr} {F : Hp} {v : V} {d : D} (q : Rep T ι F v d) : ∀ {vs : List V} {ds : List D} (n : Nat), Reps T ι F vs ds → Reps T ι F (vs.set n v) (ds.set n d)
  | _, _, _, .nil => .nil
  | _, _, 0, .cons _ t => .cons q t
  | _, _, n + 1, .cons h t => .cons h (t.set q n)
theorem Reps.erase {ι : List Addr} {F : Hp} : ∀ {vs : List V} {ds : List D} (n : Nat), Reps T ι F vs ds → Reps T ι F (vs.eraseIdx n) (ds.eraseIdx n)
  | _, _, _, .nil => .nil
  | _, _, 0, .cons _ t => t
  | _, _, n + 1, .cons h t => .cons h (t.erase n)
theorem Reps.reverse {ι : List Addr} {F : Hp} : ∀ {vs : List V} {ds : List D}, Reps T ι F vs ds → Reps T ι F vs.reverse ds.reverse
  | _, _, .nil => .nil
  | _, _, .cons h t => by
    rw [List.reverse_cons, List.reverse_cons]
    exact t.reverse.append (.cons h .nil)
theorem Reps.rep {ι : List Addr} {F : Hp} {vs : List V} {ds : List D} (r : Reps T ι F vs ds) : ∀ n : Nat, Reps T ι F (List.replicate n vs).flatten (List.replicate n ds).flatten
  | 0 => .nil
  | n + 1 => by
    rw [List.replicate_succ, List.replicate_succ, List.flatten_cons, List.flatten_cons]
    exact r.append (r.rep n)

/-! ### the heap grows, things are known -/
/-- all that is tracked stays -/
structure Keep (H H' : Hp) : Prop where
  k : ∀ a o, H a = some o → H' a = some o
  t : ∀ a ps, H' a = some (.tbl ps) → H a = some (.tbl ps)
theorem Keep.refl (H : Hp) : Keep H H := ⟨fun _ _ h => h, fun _ _ h => h⟩
theorem Keep.trans {H H1 H2 : Hp} (a : Keep H H1) (b : Keep H1 H2) : Keep H H2 := ⟨fun c o h => b.k c o (a.k c o h), fun c ps h => a.t c ps (b.t c ps h)⟩
theorem Keep.new (h : H p = none) (ho : nT o = true := by rfl) : Keep H (upd H p o) := by
  refine ⟨fun b u e => ?_, fun b ps e => ?_⟩
  · rw [upd_ne (ne_of_none e h)]
    exact e
  · by_cases z : b = p
    · rw [z, upd_same] at e
      cases e
      cases ho
    · rw [upd_ne z] at e
      exact e
theorem Keep.none {H H1 : Hp} (k : Keep H H1) (a : Addr) (h : H1 a = Option.none) : H a = Option.none := by
  cases e : H a with
  | none => rfl
  | some o =>
    rw [k.k a o e] at h
    cases h
theorem Keep.rd {H H' : Hp} (k : Keep H H') {a : Addr} {u : HO} (r : Rd H a u) : Rd H' a u := by
  rcases r with r | ⟨o, r⟩
  · exact .inl (k.k _ _ r)
  · exact .inr ⟨o, k.k _ _ r⟩
theorem CtL.keep {ι : List Addr} {F : Hp} {d : D} (k : Keep H H1) (h : CtL T ι F H a d) : CtL T ι F H1 a d := by
  cases d with
  | lst ds =>
    obtain ⟨vs, c, r⟩ := h
    exact ⟨vs, k.k _ _ c, r⟩
  | dct kvs =>
    rcases h with ⟨es, c, r⟩ | ⟨es, c, r⟩
    · exact .inl ⟨es, k.k _ _ c, r⟩
    · exact .inr ⟨es, k.k _ _ c, r⟩
  | _ => exact h.elim
theorem CtL.at {ι : List Addr} {F : Hp} {d : D} (k : H1 a = H a) (h : CtL T ι F H a d) : CtL T ι F H1 a d := by
  cases d with
  | lst ds =>
    obtain ⟨vs, c, r⟩ := h
    exact ⟨vs, k.trans c, r⟩
  | dct kvs =>
    rcases h with ⟨es, c, r⟩ | ⟨es, c, r⟩
    · exact .inl ⟨es, k.trans c, r⟩
    · exact .inr ⟨es, k.trans c, r⟩
  | _ => exact h.elim
theorem CtL.mono {ι ι' : List Addr} {F F' : Hp} {d : D} (hi : ∀ (n : Nat) a, ι[n]? = some a → ι'[n]? = some a) (hf : ∀ a u, F a = some u → F' a = some u) (h : CtL T ι F H a d) : CtL T ι' F' H a d := by
  cases d with
  | lst ds =>
    obtain ⟨vs, c, r⟩ := h
    exact ⟨vs, c, r.mono hi hf⟩
  | dct kvs =>
    rcases h with ⟨es, c, r⟩ | ⟨es, c, r⟩
    · exact .inl ⟨es, c, r.mono hi hf⟩
    · exact .inr ⟨es, c, r.mono hi hf⟩
  | _ => exact h.elim
theorem ClAt.keep {ι : List Addr} {F : Hp} {c : Cl} (k : Keep H H1) (h : ClAt T ι F H a c) : ClAt T ι F H1 a c := by
  cases c with
  | ref ds =>
    obtain ⟨vs, c, r⟩ := h
    exact ⟨vs, k.k _ _ c, r⟩
  | inst C fs =>
    obtain ⟨o, dx, es, c, r⟩ := h
    exact ⟨o, dx, es, k.k _ _ c, r⟩
theorem ClAt.mono {ι ι' : List Addr} {F F' : Hp} {c : Cl} (hi : ∀ (n : Nat) a, ι[n]? = some a → ι'[n]? = some a) (hf : ∀ a u, F a = some u → F' a = some u) (h : ClAt T ι F H a c) : ClAt T ι' F' H a c := by
  cases c with
  | ref ds =>
    obtain ⟨vs, c, r⟩ := h
    exact ⟨vs, c, r.mono hi hf⟩
  | inst C fs =>
    obtain ⟨o, dx, es, c, r⟩ := h
    exact ⟨o, dx, es, c, r.mono hi hf⟩
/-- the heap has grown, the world is as it was -/
theorem Ok.grow (k : Ok T w σ H) (h : Keep H H1) : Ok T w σ H1 :=
  ⟨k.len, k.nd, fun a u e => (k.sub a u e).elim (fun z => .inl (h.k _ _ z)) fun ⟨z, o, r⟩ => .inr ⟨z, o, h.k _ _ r⟩, k.frz, fun n a c e1 e2 => ⟨(k.cel n a c e1 e2).1, (k.cel n a c e1 e2).2.keep h⟩, k.sl, k.va, fun i d e => by
    obtain ⟨a, h1, h2, h3, h4⟩ := k.ow i d e
    exact ⟨a, h1, h2, h3, h4.keep h⟩, k.ap, k.tb.ext h.k⟩
theorem Stp.grow (h : Keep H H1) : Stp w σ H w σ H1 := ⟨fun _ _ e => e, fun _ _ e => e, fun a o e _ _ _ => h.k a o e, fun _ _ _ _ h1 h2 h3 => ⟨h1, h2, h3⟩, h.none, fun _ h => .inl h⟩
/-- a thing is known from now on -/
def Wd.know (w : Wd) (p : Addr) (u : HO) : Wd := { w with F := upd w.F p u }
theorem know_mono (hf : w.F p = none) : ∀ a u', w.F a = some u' → (w.know p u).F a = some u' := fun a u' e => by
  show upd w.F p u a = _
  rw [upd_ne (ne_of_none e hf)]
  exact e
theorem Ok.know (k : Ok T w σ H) (f : Free w σ H p) (h : H p = some u) (nf : okU u = true) : Ok T (w.know p u) σ H := by
  have hm := know_mono (u := u) f.f
  refine ⟨k.len, k.nd, fun a v e => ?_, fun a v e => ?_, fun n a c e1 e2 => ?_, k.sl, fun i d e => ?_, fun i d e => ?_, k.ap, k.tb⟩
  · by_cases z : a = p
    · subst z
      have e : upd w.F a u a = some v := e
      rw [upd_same] at e
      cases e
      exact .inl h
    · have e : upd w.F p u a = some v := e
      rw [upd_ne z] at e
      exact k.sub a v e
  · by_cases z : a = p
    · subst z
      have e : upd w.F a u a = some v := e
      rw [upd_same] at e
      cases e
      exact nf
    · have e : upd w.F p u a = some v := e
      rw [upd_ne z] at e
      exact k.frz a v e
  · obtain ⟨h1, h2⟩ := k.cel n a c e1 e2
    have z : a ≠ p := fun z => f.i (z ▸ List.mem_of_getElem? e1)
    refine ⟨?_, h2.mono (fun _ _ h => h) hm⟩
    show upd w.F p u a = none
    rw [upd_ne z]
    exact h1
  · obtain ⟨v, h1, h2⟩ := k.va i d e
    exact ⟨v, h1, h2.mono (fun _ _ h => h) hm⟩
  · obtain ⟨a, h1, h2, h3, h4⟩ := k.ow i d e
    have z : a ≠ p := fun z => f.o ⟨i, d, e, z ▸ h1⟩
    refine ⟨a, h1, ?_, h3, h4.mono (fun _ _ h => h) hm⟩
    show upd w.F p u a = none
    rw [upd_ne z]
    exact h2
/-- the step goes on if what is known now was not there at the start, or is a tuple -/
theorem Stp.know (a : Stp w σ H w1 σ1 H1) (hf : w1.F p = none) (hn : H p = none ∨ isTup (H p)) : Stp w σ H (w1.know p u) σ1 H1 := by
  refine ⟨a.ι, fun b v e => know_mono hf b v (a.F b v e), a.kp, fun b o e t f i no => ?_, a.tr, a.nw⟩
  obtain ⟨h1, h2, h3⟩ := a.fr b o e t f i no
  have z : b ≠ p := by
    rintro rfl
    rcases hn with hn | hn
    · rw [hn] at e
      cases e
    · exact t hn
  refine ⟨?_, h2, h3⟩
  show upd w1.F p u b = none
  rw [upd_ne z]
  exact h1
/-- nothing stands yet at p -/
theorem Ok.free_none (k : Ok T w σ H) (h : H p = none) : Free w σ H p := by
  refine ⟨?_, fun z => ?_, fun z => ?_⟩
  · cases e : w.F p with
    | none => rfl
    | some u =>
      rcases k.rd e with r | ⟨o, r⟩ <;> rw [h] at r <;> cases r
  · obtain ⟨_, o, e, _⟩ := k.cell_at z
    rw [h] at e
    cases e
  · obtain ⟨_, _, o, e, _⟩ := k.own_at z
    rw [h] at e
    cases e
/-- a tuple that is tracked is nobody's -/
theorem Ok.free_tup (k : Ok T w σ H) {vs : List V} (h : H p = some (.tup vs)) (hf : w.F p = none) : Free w σ H p := by
  refine ⟨hf, fun z => ?_, fun z => ?_⟩
  · obtain ⟨_, o, e, t⟩ := k.cell_at z
    exact t ⟨_, h, rfl⟩
  · obtain ⟨_, _, o, e, t⟩ := k.own_at z
    exact t ⟨_, h, rfl⟩
end

/-- what is owned is as it was, and is no cell -/
def KO (w : Wd) (σ : L2.St) (H : Hp) (w' : Wd) (H' : Hp) : Prop := ∀ a, Own w σ a → H' a = H a ∧ a ∉ w'.ι
section
variable {T : Tb} {w w1 w2 : Wd} {σ σ1 σ2 : L2.St} {H H1 H2 : Hp}
theorem KO.refl (k : Ok T w σ H) : KO w σ H w H := fun a h => ⟨rfl, (k.own_at h).2.1⟩
theorem KO.trans (k : Ok T w σ H) (k2 : Ok T w2 σ2 H2) (s2 : Stp w1 σ1 H1 w2 σ2 H2) (a : KO w σ H w1 H1) (b : KO w1 σ1 H1 w2 H2) : KO w σ H w2 H2 := fun c h => by
  obtain ⟨e, i⟩ := a c h
  obtain ⟨_, _, o, ho, nt⟩ := k.own_at h
  by_cases h1 : Own w1 σ1 c
  · obtain ⟨e2, i2⟩ := b c h1
    exact ⟨e2.trans e, i2⟩
  · have hc : H1 c = some o := e.trans ho
    refine ⟨(s2.kp c o hc (nT_of ho nt) i h1).trans ho.symm, ?_⟩
    cases f : w1.F c with
    | some u => exact (k2.known (s2.F c u f)).1
    | none => exact (s2.fr c o hc (by rw [e]; exact nt) f i h1).2.1
theorem KO.grow (k : Ok T w σ H) (a : KO w σ H w1 H1) (h : Keep H1 H2) : KO w σ H w1 H2 := fun c z => by
  obtain ⟨e, i⟩ := a c z
  obtain ⟨_, _, o, ho, _⟩ := k.own_at z
  exact ⟨(h.k c o (e.trans ho)).trans ho.symm, i⟩
theorem KO.to (a : KO w σ H w1 H1) (e : w2.ι = w1.ι) : KO w σ H w2 H1 := fun c z => ⟨(a c z).1, by rw [e]; exact (a c z).2⟩
end

/-! ### contents -/
def TupAt (T : Tb) (w : Wd) (a : Addr) (vs : List V) (ds : List D) : Prop := w.F a = some (.tup vs) ∨ (KTup T.K a vs ∧ PC.kcs ds = true)
theorem TupAt.sq {T : Tb} {w : Wd} {σ : L2.St} {H : Hp} {K : PySem.W.Frag} {a : Addr} {vs : List V} {ds : List D} (hK : T.K = K) (k : Ok T w σ H) (h : TupAt T w a vs ds) : SqT K H a vs := by
  subst hK
  rcases h with h | h
  · exact .inl (.of (k.ex h rfl))
  · exact .inr h.1
/-- a value by what it holds now -/
def Cnt (T : Tb) (w : Wd) (H : Hp) (v : V) : D → Prop
  | .lst ds => ∃ a vs, v = .ref a ∧ H a = some (.lst vs) ∧ Reps T w.ι w.F vs ds
  | .tup ds => ∃ a vs, v = .ref a ∧ TupAt T w a vs ds ∧ Reps T w.ι w.F vs ds
  | .dct kvs => ∃ a, v = .ref a ∧ ((∃ es, Rd H a (.dK es) ∧ RepK T w.ι w.F es kvs) ∨ ∃ es, Rd H a (.dT es) ∧ RepT T w.ι w.F es kvs)
  | d => Rep T w.ι w.F v d
section
variable {K : PySem.W.Frag} {T : Tb} {w w1 w2 : Wd} {σ σ1 σ2 : L2.St} {H H1 H2 : Hp} {v : V} {d : D}
theorem Rep.cnt (k : Ok T w σ H) (r : Rep T w.ι w.F v d) : Cnt T w H v d := by
  cases r with
  | lst h r => exact ⟨_, _, rfl, k.ex h rfl, r⟩
  | tup h r => exact ⟨_, _, rfl, .inl h, r⟩
  | kt h c r => exact ⟨_, _, rfl, .inr ⟨h, c⟩, r⟩
  | dK h r => exact ⟨_, rfl, .inl ⟨_, k.rd h, r⟩⟩
  | dT h r => exact ⟨_, rfl, .inr ⟨_, k.rd h, r⟩⟩
  | non => exact .non
  | bl b => exact .bl b
  | int i => exact .int i
  | str x => exact .str x
  | obj o h r => exact .obj o h r
  | cell h => exact .cell h
  | scr h => exact .scr h
  | scrF h => exact .scrF h
theorem CtL.cnt {a : Addr} (h : CtL T w.ι w.F H a d) : Cnt T w H (.ref a) d := by
  cases d with
  | lst ds =>
    obtain ⟨vs, c, r⟩ := h
    exact ⟨_, _, rfl, c, r⟩
  | dct kvs =>
    rcases h with ⟨es, c, r⟩ | ⟨es, c, r⟩
    · exact ⟨_, rfl, .inl ⟨es, .inl c, r⟩⟩
    · exact ⟨_, rfl, .inr ⟨es, .inl c, r⟩⟩
  | _ => exact h.elim
/-- a name of the store: its list -/
theorem Rep.cntC (k : Ok T w σ H) (r : Rep T w.ι w.F v d) : Cnt T w H v (PC.drf w.g d) := by
  have base : Cnt T w H v d := r.cnt k
  cases d with
  | cell n =>
    cases e : w.g[n]? with
    | none =>
      have z : PC.drf w.g (.cell n) = .cell n := by simp only [PC.drf, e]
      rw [z]
      exact base
    | some c =>
      cases c with
      | ref ds =>
        have z : PC.drf w.g (.cell n) = .lst ds := by simp only [PC.drf, e]
        rw [z]
        cases r with
        | cell h =>
          obtain ⟨_, vs, c, q⟩ := k.cel n _ _ h e
          exact ⟨_, _, rfl, c, q⟩
      | inst C fs =>
        have z : PC.drf w.g (.cell n) = .cell n := by simp only [PC.drf, e]
        rw [z]
        exact base
  | _ => exact base

/-- an operand: known; new; looked at (what follows is quiet) -/
def Opd (T : Tb) (w : Wd) (σ : L2.St) (H : Hp) (q : Bool) (v : V) (d : D) : Prop :=
  Rep T w.ι w.F v d ∨ (∃ a, v = .ref a ∧ Free w σ H a ∧ CtL T w.ι w.F H a d) ∨ (q = true ∧ ∃ a, v = .ref a ∧ Own w σ a ∧ CtL T w.ι w.F H a d)
theorem TupAt.rep {a : Addr} {vs : List V} {ds : List D} (h : TupAt T w a vs ds) (r : Reps T w.ι w.F vs ds) : Rep T w.ι w.F (.ref a) (.tup ds) := by
  rcases h with h | h
  · exact .tup h r
  · exact .kt h.1 h.2 r
theorem Opd.cnt (k : Ok T w σ H) {q : Bool} (h : Opd T w σ H q v d) : Cnt T w H v (PC.drf w.g d) := by
  rcases h with r | ⟨a, rfl, _, c⟩ | ⟨_, a, rfl, _, c⟩
  · exact r.cntC k
  · cases d <;> first | exact c.elim | exact c.cnt
  · cases d <;> first | exact c.elim | exact c.cnt
/-- an operand behind the other one -/
theorem Opd.cntL {q : Bool} (h : Opd T w σ H q v d) (k1 : Ok T w1 σ1 H1) (a : Stp w σ H w1 σ1 H1) (kq : q = true → KO w σ H w1 H1) : Cnt T w1 H1 v (PC.drf w1.g d) := by
  rcases h with r | ⟨p, rfl, f, c⟩ | ⟨e, p, rfl, own, c⟩
  · exact (a.rep r).cntC k1
  · obtain ⟨o, ho, nt⟩ := c.there
    have hk := a.kp p o ho (nT_of ho nt) f.i f.o
    have c1 : CtL T w1.ι w1.F H1 p d := (c.at (hk.trans ho.symm)).mono a.ι a.F
    cases d <;> first | exact c1.elim | exact c1.cnt
  · have c1 : CtL T w1.ι w1.F H1 p d := (c.at (kq e p own).1).mono a.ι a.F
    cases d <;> first | exact c1.elim | exact c1.cnt
end

/-! ### what readings ask -/
/-- an end: what is wanted of a value, of an error -/
def Rp {α : Type} (R : Rs α) (okk : α → PC.St → Prop) (exx : Nat → List (Nat × D) → PC.St → Prop) : Prop := match R with
  | .ok a s => okk a s
  | .ex C fs s => exx C fs s
  | .no => False
theorem Rp.bind {α β : Type} {R : Rs α} {f : α → PC.St → Rs β} {okk : β → PC.St → Prop} {exx : Nat → List (Nat × D) → PC.St → Prop} (h : Rp (R.bind f) okk exx) : Rp R (fun a s => Rp (f a s) okk exx) exx := by
  cases R with
  | ok a s => exact h
  | ex C fs s => exact h
  | no => exact h
theorem Rp.mono {α : Type} {R : Rs α} {okk okk' : α → PC.St → Prop} {exx exx' : Nat → List (Nat × D) → PC.St → Prop} (h : Rp R okk exx) (h1 : ∀ a s, okk a s → okk' a s) (h2 : ∀ C fs s, exx C fs s → exx' C fs s) : Rp R okk' exx' := by
  cases R with
  | ok a s => exact h1 a s h
  | ex C fs s => exact h2 C fs s h
  | no => exact h
theorem Rp.opt {α : Type} {o : Option α} {s : PC.St} {okk : α → PC.St → Prop} {exx : Nat → List (Nat × D) → PC.St → Prop} (h : Rp (PC.opt o s) okk exx) : ∃ a, o = some a ∧ okk a s := by
  cases o with
  | none => exact h.elim
  | some a => exact ⟨a, rfl, h⟩

section
variable (T : Tb)
/-- behind an expression -/
def EP (w : Wd) (σ : L2.St) (H : Hp) (q : Bool) (r : D × Bool) (st : PC.St) (v : V) (H' : Hp) : Prop :=
  ∃ w' : Wd, w'.st = st ∧ Ok T w' σ H' ∧ Stp w σ H w' σ H' ∧ (q = true → KO w σ H w' H') ∧
    (r.2 = false → Rep T w'.ι w'.F v r.1) ∧ (r.2 = true → ∃ a, v = .ref a ∧ H a = none ∧ Free w' σ H' a ∧ CtL T w'.ι w'.F H' a r.1)
/-- behind an operand; qn: what follows is quiet -/
def LP (w : Wd) (σ : L2.St) (H : Hp) (q qn : Bool) (r : D × Bool) (st : PC.St) (v : V) (H' : Hp) : Prop :=
  ∃ w' : Wd, w'.st = st ∧ Ok T w' σ H' ∧ Stp w σ H w' σ H' ∧ (q = true → KO w σ H w' H') ∧ Opd T w' σ H' qn v r.1 ∧ (r.2 = false → qn = false → Rep T w'.ι w'.F v r.1)
/-- behind an error: its own dict at dd -/
def XP (w : Wd) (σ : L2.St) (H : Hp) (fs : List (Nat × D)) (st : PC.St) (dd : Addr) (H' : Hp) : Prop :=
  ∃ w' : Wd, w'.st = st ∧ Ok T w' σ H' ∧ Stp w σ H w' σ H' ∧ ∃ es, H' dd = some (.xd es) ∧ RepF T w'.ι w'.F es fs
/-- what is wanted of errors: W is told of them -/
def exK (W : Option WX) (w : Wd) (σ : L2.St) (H : Hp) : Nat → List (Nat × D) → PC.St → Prop := fun C fs st => match W with
  | some W => ∀ dd H', XP T w σ H fs st dd H' → W (.ref (T.clA C)) (some dd) σ H'
  | none => False
end
section
variable {K : PySem.W.Frag} {T : Tb} {w w1 : Wd} {σ : L2.St} {H H1 : Hp} {W : Option WX}
theorem XP.after {fs : List (Nat × D)} {st : PC.St} {dd : Addr} {H' : Hp} (k1 : Ok T w1 σ H1) (a : Stp w σ H w1 σ H1) (h : XP T w1 σ H1 fs st dd H') : XP T w σ H fs st dd H' := by
  obtain ⟨w', e, k, s, r⟩ := h
  exact ⟨w', e, k, Stp.trans k1 a s, r⟩
theorem exK.after (k1 : Ok T w1 σ H1) (a : Stp w σ H w1 σ H1) {C : Nat} {fs : List (Nat × D)} {st : PC.St} (h : exK T W w σ H C fs st) : exK T W w1 σ H1 C fs st := by
  cases W with
  | none => exact h
  | some W => exact fun dd H' x => h dd H' (x.after k1 a)
/-- a new thing is known from now on -/
theorem EP.rep {q : Bool} {r : D × Bool} {st : PC.St} {v : V} {H' : Hp} (h : EP T w σ H q r st v H') : ∃ w' : Wd, w'.st = st ∧ Ok T w' σ H' ∧ Stp w σ H w' σ H' ∧ (q = true → KO w σ H w' H') ∧ Rep T w'.ι w'.F v r.1 := by
  obtain ⟨w', e, k, s, kq, h1, h2⟩ := h
  cases hr : r.2 with
  | false => exact ⟨w', e, k, s, kq, h1 hr⟩
  | true =>
    obtain ⟨a, rfl, hn, f, c⟩ := h2 hr
    cases hd : r.1 with
    | lst ds =>
      rw [hd] at c
      obtain ⟨vs, c, rs⟩ := c
      refine ⟨w'.know a (.lst vs), e, k.know f c rfl, s.know f.f (.inl hn), fun z => (kq z).to rfl, ?_⟩
      exact .lst (show upd w'.F a _ a = _ from upd_same) (rs.mono (fun _ _ h => h) (know_mono f.f))
    | dct kvs =>
      rw [hd] at c
      rcases c with ⟨es, c, rs⟩ | ⟨es, c, rs⟩
      · refine ⟨w'.know a (.dK es), e, k.know f c rfl, s.know f.f (.inl hn), fun z => (kq z).to rfl, ?_⟩
        exact .dK (show upd w'.F a _ a = _ from upd_same) (rs.mono (fun _ _ h => h) (know_mono f.f))
      · refine ⟨w'.know a (.dT es), e, k.know f c rfl, s.know f.f (.inl hn), fun z => (kq z).to rfl, ?_⟩
        exact .dT (show upd w'.F a _ a = _ from upd_same) (rs.mono (fun _ _ h => h) (know_mono f.f))
    | _ =>
      rw [hd] at c
      exact c.elim
theorem EP.lp {q qn : Bool} {r : D × Bool} {st : PC.St} {v : V} {H' : Hp} (h : EP T w σ H q r st v H') : LP T w σ H q qn r st v H' := by
  obtain ⟨w', e, k, s, kq, h1, h2⟩ := h
  refine ⟨w', e, k, s, kq, ?_, fun z _ => h1 z⟩
  cases hr : r.2 with
  | false => exact .inl (h1 hr)
  | true =>
    obtain ⟨a, rfl, hn, f, c⟩ := h2 hr
    exact .inr (.inl ⟨a, rfl, f, c⟩)
end
section
variable {X : Cx}
theorem peImp {e : Expr} {t t' : TE} (h : PE X e t) (i : ∀ σ H Q, t' σ H Q → t σ H Q) : PE X e t' := ⟨fun pins s σ H Q I q => h.run pins s σ H Q I (i σ H Q q)⟩
theorem ptImp {e : Expr} {t t' : TT} (h : PT X e t) (i : ∀ σ H Q, t' σ H Q → t σ H Q) : PT X e t' := ⟨fun pins s σ H Q I q => h.run pins s σ H Q I (i σ H Q q)⟩
theorem peOr {e : Expr} {t t' : TE} (h : PE X e t) (h' : PE X e t') : PE X e (fun σ H Q => t σ H Q ∨ t' σ H Q) := ⟨fun pins s σ H Q I q => q.elim (h.run pins s σ H Q I) (h'.run pins s σ H Q I)⟩
end
/-! the readings of an expression, of an operand, of a test -/
section
variable (T : Tb) (G : PC.Gl) (cf : PC.CF) (th : Option (Gs → Re)) (W : Option WX)
def tE (c : E) : TE := fun σ H Q => ∃ w, Ok T w σ H ∧ Rp (PC.evE G cf th c w.st) (fun r st => ∀ v H', EP T w σ H (PC.quiet c) r st v H' → Q v H') (exK T W w σ H)
def tL (qn : Bool) (c : E) : TE := fun σ H Q => ∃ w, Ok T w σ H ∧ Rp (PC.lk qn c w.st (PC.evE G cf th c w.st)) (fun r st => ∀ v H', LP T w σ H (PC.quiet c) (qn && PC.looked c st) r st v H' → Q v H') (exK T W w σ H)
/-- a test's end -/
def BP (w : Wd) (σ : L2.St) (H : Hp) (q : Bool) (st : PC.St) (H' : Hp) : Prop := ∃ w' : Wd, w'.st = st ∧ Ok T w' σ H' ∧ Stp w σ H w' σ H' ∧ (q = true → KO w σ H w' H')
def tTs (c : E) : TT := fun σ H Q => ∃ w, Ok T w σ H ∧ Rp ((PC.evE G cf th c w.st).bind PC.toB) (fun b st => ∀ H', BP T w σ H (PC.quiet c) st H' → Q b H') (exK T W w σ H)
end
end Br
end

section
set_option Elab.async false
set_option linter.all false
set_option maxRecDepth 100000
set_option maxHeartbeats 1000000
/-! Br3: operators by values. -/
namespace Br
open PySem PySem.Spec PyProof.Rows L2
open PC (D E S Sl Cl Sg Gs Rs Re)

/-! ### data as the library tells it -/
mutual
def toPy : D → PyData
  | .non => .none
  | .bl b => .bool b
  | .int i => .int i
  | .str s => .str ⟨s.toArray⟩
  | .lst xs => .list (toPyL xs)
  | .tup xs => .tuple (toPyL xs)
  | _ => .none
def toPyL : List D → List PyData
  | [] => []
  | x :: xs => toPy x :: toPyL xs
end
theorem str_back (x : Str) : (⟨x.cps.toList.toArray⟩ : Str) = x := by cases x; simp
theorem shp_lst {n : Nat} {xs : List D} (h : PC.shp n (.lst xs) = true) : ∃ m, n = m + 1 ∧ PC.shpL m xs = true := by
  cases n with
  | zero => simp [PC.shp] at h
  | succ n => exact ⟨n, rfl, by simpa [PC.shp] using h⟩
theorem shp_tup {n : Nat} {xs : List D} (h : PC.shp n (.tup xs) = true) : ∃ m, n = m + 1 ∧ PC.shpL m xs = true := by
  cases n with
  | zero => simp [PC.shp] at h
  | succ n => exact ⟨n, rfl, by simpa [PC.shp] using h⟩
theorem shp_dct {n : Nat} {kvs : List (D × D)} : ¬ PC.shp n (.dct kvs) = true := by cases n <;> simp [PC.shp]
theorem shp_obj {n C : Nat} {fs : List (Nat × D)} : ¬ PC.shp n (.obj C fs) = true := by cases n <;> simp [PC.shp]
theorem shp_cell {n m : Nat} : ¬ PC.shp n (.cell m) = true := by cases n <;> simp [PC.shp]
theorem shp_exc {n C : Nat} {fs : List (Nat × D)} : ¬ PC.shp n (.exc C fs) = true := by cases n <;> simp [PC.shp]
theorem shp_scr {n : Nat} {l : List Int} : ¬ PC.shp n (.scr l) = true := by cases n <;> simp [PC.shp]
theorem str_beq (x y : List Nat) : ((⟨x.toArray⟩ : Str) == ⟨y.toArray⟩) = (x == y) := by
  rw [Bool.eq_iff_iff]
  simp
mutual
theorem eqv_py : ∀ (a b : D) (n m : Nat), PC.shp n a = true → PC.shp m b = true → PyData.eqv (toPy a) (toPy b) = PC.eqv a b
  | .non, b, n, m, _, hb => by cases b <;> first | rfl | exact absurd hb shp_dct | exact absurd hb shp_obj | exact absurd hb shp_cell | exact absurd hb shp_exc | exact absurd hb shp_scr
  | .bl x, b, n, m, _, hb => by cases b <;> first | rfl | exact absurd hb shp_dct | exact absurd hb shp_obj | exact absurd hb shp_cell | exact absurd hb shp_exc | exact absurd hb shp_scr
  | .int x, b, n, m, _, hb => by cases b <;> first | rfl | exact absurd hb shp_dct | exact absurd hb shp_obj | exact absurd hb shp_cell | exact absurd hb shp_exc | exact absurd hb shp_scr
  | .str x, b, n, m, _, hb => by cases b <;> first | rfl | exact str_beq _ _ | exact absurd hb shp_dct | exact absurd hb shp_obj | exact absurd hb shp_cell | exact absurd hb shp_exc | exact absurd hb shp_scr
  | .lst xs, .lst ys, n, m, ha, hb => by
    obtain ⟨n', _, h1⟩ := shp_lst ha
    obtain ⟨m', _, h2⟩ := shp_lst hb
    exact eqv_pyL xs ys n' m' h1 h2
  | .tup xs, .tup ys, n, m, ha, hb => by
    obtain ⟨n', _, h1⟩ := shp_tup ha
    obtain ⟨m', _, h2⟩ := shp_tup hb
    exact eqv_pyL xs ys n' m' h1 h2
  | .lst xs, .non, _, _, _, _ => rfl
  | .lst xs, .bl _, _, _, _, _ => rfl
  | .lst xs, .int _, _, _, _, _ => rfl
  | .lst xs, .str _, _, _, _, _ => rfl
  | .lst xs, .tup _, _, _, _, _ => rfl
  | .lst xs, .dct _, _, _, _, hb => absurd hb shp_dct
  | .lst xs, .obj _ _, _, _, _, hb => absurd hb shp_obj
  | .lst xs, .cell _, _, _, _, hb => absurd hb shp_cell
  | .lst xs, .exc _ _, _, _, _, hb => absurd hb shp_exc
  | .lst xs, .scr _, _, _, _, hb => absurd hb shp_scr
  | .tup xs, .non, _, _, _, _ => rfl
  | .tup xs, .bl _, _, _, _, _ => rfl
  | .tup xs, .int _, _, _, _, _ => rfl
  | .tup xs, .str _, _, _, _, _ => rfl
  | .tup xs, .lst _, _, _, _, _ => rfl
  | .tup xs, .dct _, _, _, _, hb => absurd hb shp_dct
  | .tup xs, .obj _ _, _, _, _, hb => absurd hb shp_obj
  | .tup xs, .cell _, _, _, _, hb => absurd hb shp_cell
  | .tup xs, .exc _ _, _, _, _, hb => absurd hb shp_exc
  | .tup xs, .scr _, _, _, _, hb => absurd hb shp_scr
  | .dct _, _, _, _, ha, _ => absurd ha shp_dct
  | .obj _ _, _, _, _, ha, _ => absurd ha shp_obj
  | .cell _, _, _, _, ha, _ => absurd ha shp_cell
  | .exc _ _, _, _, _, ha, _ => absurd ha shp_exc
  | .scr _, _, _, _, ha, _ => absurd ha shp_scr
theorem eqv_pyL : ∀ (a b : List D) (n m : Nat), PC.shpL n a = true → PC.shpL m b = true → PyData.eqvAll (toPyL a) (toPyL b) = PC.eqvL a b
  | [], [], _, _, _, _ => rfl
  | [], _ :: _, _, _, _, _ => rfl
  | _ :: _, [], _, _, _, _ => rfl
  | x :: xs, y :: ys, n, m, ha, hb => by
    have ha := Bool.and_eq_true_iff.mp (show (PC.shp n x && PC.shpL n xs) = true from ha)
    have hb := Bool.and_eq_true_iff.mp (show (PC.shp m y && PC.shpL m ys) = true from hb)
    show (PyData.eqv (toPy x) (toPy y) && PyData.eqvAll (toPyL xs) (toPyL ys)) = (PC.eqv x y && PC.eqvL xs ys)
    rw [eqv_py x y n m ha.1 hb.1, eqv_pyL xs ys n m ha.2 hb.2]
end
theorem shp_str {n : Nat} {s : List Nat} (h : PC.shp n (.str s) = true) : PC.okS s = true := by cases n <;> simpa [PC.shp] using h
mutual
theorem shp_py : ∀ (a : D) (n : Nat), PC.shp n a = true → (toPy a).canLay0 = true ∧ (toPy a).depth ≤ n
  | .non, n, _ => ⟨rfl, Nat.zero_le _⟩
  | .bl _, n, _ => ⟨rfl, Nat.zero_le _⟩
  | .int _, n, _ => ⟨rfl, Nat.zero_le _⟩
  | .str s, n, h => ⟨by
    have h := shp_str h
    show PyData.strOk _ = true
    unfold PyData.strOk
    simpa [PC.okS] using h, Nat.zero_le _⟩
  | .lst xs, n, h => by
    obtain ⟨m, e, h⟩ := shp_lst h
    obtain ⟨h1, h2⟩ := shp_pyL xs m h
    exact ⟨h1, by rw [e]; exact Nat.succ_le_succ h2⟩
  | .tup xs, n, h => by
    obtain ⟨m, e, h⟩ := shp_tup h
    obtain ⟨h1, h2⟩ := shp_pyL xs m h
    exact ⟨h1, by rw [e]; exact Nat.succ_le_succ h2⟩
  | .dct _, _, h => absurd h shp_dct
  | .obj _ _, _, h => absurd h shp_obj
  | .cell _, _, h => absurd h shp_cell
  | .exc _ _, _, h => absurd h shp_exc
  | .scr _, _, h => absurd h shp_scr
theorem shp_pyL : ∀ (a : List D) (n : Nat), PC.shpL n a = true → PyData.canLayAll0 (toPyL a) = true ∧ PyData.depthAll (toPyL a) ≤ n
  | [], n, _ => ⟨rfl, Nat.zero_le _⟩
  | x :: xs, n, h => by
    have h := Bool.and_eq_true_iff.mp (show (PC.shp n x && PC.shpL n xs) = true from h)
    obtain ⟨h1, h2⟩ := shp_py x n h.1
    obtain ⟨h3, h4⟩ := shp_pyL xs n h.2
    exact ⟨Bool.and_eq_true_iff.mpr ⟨h1, h3⟩, Nat.max_le.mpr ⟨h2, h4⟩⟩
end
theorem shaped_of {a : D} {n : Nat} (h : PC.shp n a = true) (hn : n ≤ 64) : SeqAt.shaped (toPy a) = true := by
  obtain ⟨h1, h2⟩ := shp_py a n h
  unfold SeqAt.shaped
  rw [h1, Bool.true_and]
  exact decide_eq_true (Nat.le_trans h2 hn)
theorem shapedL_of {a : List D} {n : Nat} (h : PC.shpL n a = true) (hn : n < 64) : SeqAt.shaped (.list (toPyL a)) = true ∧ SeqAt.shaped (.tuple (toPyL a)) = true := by
  obtain ⟨h1, h2⟩ := shp_pyL a n h
  unfold SeqAt.shaped
  simp only [PyData.canLay0, PyData.depth]
  rw [h1, Bool.true_and]
  exact ⟨decide_eq_true (by omega), decide_eq_true (by omega)⟩
theorem tf {b : Bool} {P : Prop} (h : b = true) (z : b = false) : P := by
  rw [h] at z
  cases z
section
variable {K : PySem.W.Frag} {T : Tb} {w : Wd} {σ : L2.St} {H : Hp}
mutual
theorem Rep.dp (hK : T.K = K) (k : Ok T w σ H) : ∀ {v : V} (d : D) (n : Nat), PC.shp n d = true → Rep T w.ι w.F v d → Dp K H v (toPy d)
  | _, _, _, _, .non => .non
  | _, _, _, _, .bl b => .bl b
  | _, _, _, _, .int i => .int i
  | _, _, _, _, .str x => by
    show Dp K H (.str x) (.str ⟨x.cps.toList.toArray⟩)
    rw [str_back]
    exact .str x
  | _, _, n, h, .lst hf r => by
    obtain ⟨m, _, h⟩ := shp_lst h
    exact .lst (.of (k.ex hf rfl)) (Reps.dp hK k _ m h r)
  | _, _, n, h, .tup hf r => by
    obtain ⟨m, _, h⟩ := shp_tup h
    exact .tup (.of (k.ex hf rfl)) (Reps.dp hK k _ m h r)
  | _, _, n, h, .kt hk _ r => by
    obtain ⟨m, _, h⟩ := shp_tup h
    exact .tup (.inr (hK ▸ hk)) (Reps.dp hK k _ m h r)
  | _, _, n, h, .dK _ _ => absurd h shp_dct
  | _, _, n, h, .dT _ _ => absurd h shp_dct
  | _, _, n, h, .obj _ _ _ => absurd h shp_obj
  | _, _, n, h, .cell _ => absurd h shp_cell
theorem Reps.dp (hK : T.K = K) (k : Ok T w σ H) : ∀ {v : List V} (d : List D) (n : Nat), PC.shpL n d = true → Reps T w.ι w.F v d → DpAll K H v (toPyL d)
  | _, _, _, _, .nil => .nil
  | _, _, n, h, .cons h1 h2 => by
    have h := Bool.and_eq_true_iff.mp (show (PC.shp n _ && PC.shpL n _) = true from h)
    exact .cons (Rep.dp hK k _ n h.1 h1) (Reps.dp hK k _ n h.2 h2)
end
theorem Cnt.dp (hK : T.K = K) (k : Ok T w σ H) {v : V} {d : D} {n : Nat} (h : PC.shp n d = true) (c : Cnt T w H v d) : Dp K H v (toPy d) := by
  cases d with
  | lst ds =>
    obtain ⟨a, vs, rfl, ha, r⟩ := c
    obtain ⟨m, _, h⟩ := shp_lst h
    exact .lst (.of ha) (Reps.dp hK k ds m h r)
  | tup ds =>
    obtain ⟨a, vs, rfl, ha, r⟩ := c
    obtain ⟨m, _, h⟩ := shp_tup h
    exact .tup (ha.sq hK k) (Reps.dp hK k ds m h r)
  | dct kvs => exact absurd h shp_dct
  | _ => exact Rep.dp hK k _ n h c

/-- a result: a value that is known, or a new thing -/
def RN (T : Tb) (w : Wd) (H : Hp) (rd : D × Bool) (v : V) (H' : Hp) : Prop :=
  (H' = H ∧ rd.2 = false ∧ Rep T w.ι w.F v rd.1) ∨
  ∃ p o, H p = none ∧ H' = upd H p o ∧ v = .ref p ∧ ((rd.2 = true ∧ CtL T w.ι w.F H' p rd.1) ∨ (rd.2 = false ∧ ∃ vs ds, o = .tup vs ∧ rd.1 = .tup ds ∧ Reps T w.ι w.F vs ds))
/-- an operator's result behind the operands -/
theorem RN.ep {w w1 : Wd} {σ : L2.St} {H H1 : Hp} {q : Bool} {rd : D × Bool} {v : V} {H' : Hp} (k : Ok T w σ H) (k1 : Ok T w1 σ H1) (s1 : Stp w σ H w1 σ H1) (kq : q = true → KO w σ H w1 H1) (h : RN T w1 H1 rd v H') : EP T w σ H q rd w1.st v H' := by
  rcases h with ⟨rfl, hr, r⟩ | ⟨p, o, hn, rfl, rfl, h⟩
  · exact ⟨w1, rfl, k1, s1, kq, fun _ => r, fun z => tf z hr⟩
  · have ho : nT o = true := by
      rcases h with ⟨_, c⟩ | ⟨_, vs, ds, rfl, _, _⟩
      · obtain ⟨u, hu, nt⟩ := c.there
        rw [upd_same] at hu
        cases hu
        exact nT_of upd_same nt
      · rfl
    have kp : Keep H1 (upd H1 p o) := Keep.new hn ho
    have k2 := k1.grow kp
    have s2 := s1.trans k1 (Stp.grow (w := w1) (σ := σ) kp)
    have hp := s1.tr p hn
    have fr1 := k1.free_none hn
    rcases h with ⟨hr, c⟩ | ⟨hr, vs, ds, rfl, hd, r⟩
    · exact ⟨w1, rfl, k2, s2, fun z => (kq z).grow k kp, fun z => tf hr z, fun _ => ⟨p, rfl, hp, ⟨fr1.f, fr1.i, fr1.o⟩, c⟩⟩
    · refine ⟨w1.know p (.tup vs), rfl, k2.know ⟨fr1.f, fr1.i, fr1.o⟩ upd_same rfl, s2.know fr1.f (.inl hp), fun z => ((kq z).grow k kp).to rfl, fun _ => ?_, fun z => tf z hr⟩
      rw [hd]
      exact .tup (show upd w1.F p _ p = _ from upd_same) (r.mono (fun _ _ h => h) (know_mono fr1.f))
end

section
variable {X : Cx} {T : Tb}
/-- a operator b, by contents -/
def rBin (T : Tb) (o : PC.BOp) : R2 := fun x y H Q => ∃ w σ dx dy rd, Ok T w σ H ∧ Cnt T w H x dx ∧ Cnt T w H y dy ∧ PC.binD o dx dy = some rd ∧ ∀ v H', RN T w H rd v H' → Q v H'
theorem big_eq : PC.big = sizeLine := by rw [sizeLine_eq]; rfl
theorem mkS_eq {x : List Nat} {rd : D × Bool} (h : PC.mkS x = some rd) : x.length ≤ sizeLine ∧ rd = (.str x, false) := by
  unfold PC.mkS at h
  split at h
  · exact ⟨by rw [← big_eq]; assumption, (Option.some.inj h).symm⟩
  · cases h
theorem mkL_eq {x : List D} {rd : D × Bool} (h : PC.mkL x = some rd) : x.length ≤ sizeLine ∧ rd = (.lst x, true) := by
  unfold PC.mkL at h
  split at h
  · exact ⟨by rw [← big_eq]; assumption, (Option.some.inj h).symm⟩
  · cases h
theorem mkT_eq {x : List D} {rd : D × Bool} (h : PC.mkT x = some rd) : x.length ≤ sizeLine ∧ rd = (.tup x, false) := by
  unfold PC.mkT at h
  split at h
  · exact ⟨by rw [← big_eq]; assumption, (Option.some.inj h).symm⟩
  · cases h
theorem RN.rep {w : Wd} {H : Hp} {d : D} {v : V} (r : Rep T w.ι w.F v d) : RN T w H (d, false) v H := .inl ⟨rfl, rfl, r⟩
theorem RN.lst {w : Wd} {H : Hp} {p : Addr} {vs : List V} {ds : List D} (hn : H p = none) (r : Reps T w.ι w.F vs ds) : RN T w H (.lst ds, true) (.ref p) (upd H p (.lst vs)) :=
  .inr ⟨p, _, hn, rfl, rfl, .inl ⟨rfl, vs, upd_same, r⟩⟩
theorem RN.tup {w : Wd} {H : Hp} {p : Addr} {vs : List V} {ds : List D} (hn : H p = none) (r : Reps T w.ι w.F vs ds) : RN T w H (.tup ds, false) (.ref p) (upd H p (.tup vs)) :=
  .inr ⟨p, _, hn, rfl, rfl, .inr ⟨rfl, vs, ds, rfl, rfl, r⟩⟩
theorem rep_str {ι : List Addr} {F : Hp} {x : Str} {s : List Nat} (h : x.cps.toList = s) : Rep T ι F (.str x) (.str s) := h ▸ .str x
theorem tl_app (x y : Str) : (x ++ y).cps.toList = x.cps.toList ++ y.cps.toList := by
  show (x.cps ++ y.cps).toList = _
  rw [Array.toList_append]
theorem len_str (x : Str) : x.length = x.cps.toList.length := by
  show x.cps.size = _
  rw [Array.length_toList]
theorem reps_nil {ι : List Addr} {F : Hp} {vs : List V} {ds : List D} (r : Reps T ι F vs ds) : vs = [] ↔ ds = [] := by
  cases r <;> simp
theorem op_bin (hK : T.K = X.K) (o : PC.BOp) (f : Operator) (ho : f = match o with
    | .add => .Add
    | .sub => .Sub
    | .mul => .Mult
    | .fdiv => .FloorDiv
    | .mod => .Mod
    | .pow => .Pow) : OpR X (binaryOp f) (rBin T o) := by
  intro pins s σ' H x y v u Q I rx ry h
  obtain ⟨w, σ, dx, dy, rd, k, cx, cy, e, q⟩ := h
  subst ho
  cases o with
  | add =>
    cases dx <;> cases dy <;> simp only [PC.binD] at e <;> try (cases e; done)
    · cases cx; cases cy; cases e
      exact op_add pins s σ' H _ _ v u Q I rx ry ⟨_, _, rfl, rfl, q _ _ (.rep (.int _))⟩
    · cases cx; cases cy
      obtain ⟨hz, rfl⟩ := mkS_eq e
      refine op_add_str pins s σ' H _ _ v u Q I rx ry ⟨_, _, rfl, rfl, ?_, q _ _ (.rep (rep_str (tl_app _ _)))⟩
      rw [len_str, len_str, ← List.length_append]
      exact hz
    · obtain ⟨a, vs, rfl, ha, ra⟩ := cx
      obtain ⟨b, ws, rfl, hb, rb⟩ := cy
      obtain ⟨hz, rfl⟩ := mkL_eq e
      refine op_cat pins s σ' H _ _ v u Q I rx ry ⟨_, _, _, _, rfl, rfl, ha, hb, ?_, fun p hp => q _ _ (.lst hp (ra.append rb))⟩
      rw [ra.length, rb.length, ← List.length_append]
      exact hz
    · obtain ⟨a, vs, rfl, ha, ra⟩ := cx
      obtain ⟨b, ws, rfl, hb, rb⟩ := cy
      obtain ⟨hz, rfl⟩ := mkT_eq e
      refine op_catA pins s σ' H _ _ v u Q I rx ry ⟨_, _, _, _, rfl, rfl, ha.sq hK k, hb.sq hK k, ?_, fun z => ?_, fun _ z => ?_, fun _ _ p hp => q _ _ (.tup hp (ra.append rb))⟩
      · rw [ra.length, rb.length, ← List.length_append]
        exact hz
      · rw [(reps_nil ra).mp z] at q
        exact q _ _ (.rep (hb.rep rb))
      · rw [(reps_nil rb).mp z, List.append_nil] at q
        exact q _ _ (.rep (ha.rep ra))
  | sub =>
    cases dx <;> cases dy <;> simp only [PC.binD] at e <;> try (cases e; done)
    cases cx; cases cy; cases e
    exact op_sub pins s σ' H _ _ v u Q I rx ry ⟨_, _, rfl, rfl, q _ _ (.rep (.int _))⟩
  | mul =>
    cases dx <;> cases dy <;> simp only [PC.binD] at e <;> try (cases e; done)
    · cases cx; cases cy
      split at e
      · rename_i hc
        cases e
        refine op_mul pins s σ' H _ _ v u Q I rx ry ⟨_, _, rfl, rfl, ?_, q _ _ (.rep (.int _))⟩
        simp only [PC.two64] at hc
        rcases hc with hc | hc
        · exact .inl ⟨by omega, by omega⟩
        · exact .inr ⟨by omega, by omega⟩
      · cases e
    · cases cy
      obtain ⟨a, vs, rfl, ha, ra⟩ := cx
      split at e
      · rename_i hc
        cases e
        refine op_rep pins s σ' H _ _ v u Q I rx ry ⟨_, _, _, rfl, rfl, ha, by omega, by omega, ?_, fun p hp => q _ _ (.lst hp (ra.rep _))⟩
        rw [ra.length, ← big_eq]
        exact hc.2.2
      · cases e
  | fdiv =>
    cases dx <;> cases dy <;> simp only [PC.binD] at e <;> try (cases e; done)
    cases cx; cases cy
    split at e
    · rename_i hc
      cases e
      exact op_fdiv pins s σ' H _ _ v u Q I rx ry ⟨_, _, rfl, rfl, hc, q _ _ (.rep (.int _))⟩
    · cases e
  | mod =>
    cases dx <;> cases dy <;> simp only [PC.binD] at e <;> try (cases e; done)
    cases cx; cases cy
    split at e
    · rename_i hc
      cases e
      exact op_mod pins s σ' H _ _ v u Q I rx ry ⟨_, _, rfl, rfl, hc, q _ _ (.rep (.int _))⟩
    · cases e
  | pow =>
    cases dx <;> cases dy <;> simp only [PC.binD] at e <;> try (cases e; done)
    cases cx; cases cy
    split at e
    · rename_i hc
      cases e
      refine op_pow pins s σ' H _ _ v u Q I rx ry ⟨_, _, rfl, rfl, ⟨hc.1, by omega, ?_⟩, q _ _ (.rep (.int _))⟩
      obtain ⟨_, _, h3, h4⟩ := hc
      simp only [PC.two64] at h3 h4
      omega
    · cases e
end
end Br
end

section
set_option Elab.async false
set_option linter.all false
set_option maxRecDepth 100000
set_option maxHeartbeats 1000000
/-! Br4: comparisons by values; dicts. -/
namespace Br
open PySem PySem.Spec PyProof.Rows L2
open PC (D E S Sl Cl Sg Gs Rs Re)

/-! ### keys -/
theorem keyD_key (k : Key) : PC.keyd (keyD k) = true := by cases k <;> rfl
theorem keyD_inj (a b : Key) : PC.eqv (keyD a) (keyD b) = decide (a = b) := by
  cases a with
  | inl i =>
    cases b with
    | inl j =>
      show (i == j) = _
      by_cases h : i = j
      · subst h; simp
      · rw [decide_eq_false (fun z => h (Sum.inl.inj z))]
        exact beq_eq_false_iff_ne.mpr h
    | inr y => exact (decide_eq_false (fun z => nomatch z)).symm
  | inr x =>
    cases b with
    | inl j => exact (decide_eq_false (fun z => nomatch z)).symm
    | inr y =>
      show (x.cps.toList == y.cps.toList) = _
      by_cases h : x = y
      · subst h; simp
      · rw [decide_eq_false (fun z => h (Sum.inr.inj z))]
        refine beq_eq_false_iff_ne.mpr fun z => h ?_
        cases x; cases y
        simpa using z
theorem keyDs_inj : ∀ a b : List Key, PC.eqvL (a.map keyD) (b.map keyD) = decide (a = b)
  | [], [] => rfl
  | [], _ :: _ => rfl
  | _ :: _, [] => rfl
  | x :: xs, y :: ys => by
    show (PC.eqv (keyD x) (keyD y) && PC.eqvL (xs.map keyD) (ys.map keyD)) = _
    rw [keyD_inj, keyDs_inj]
    by_cases h : x = y <;> by_cases h2 : xs = ys <;> simp [h, h2]
section
variable {T : Tb} {ι : List Addr} {F : Hp}
/-- the key that a value is -/
theorem key_of {v : V} {d : D} (r : Rep T ι F v d) (h : PC.keyd d = true) : ∃ k : Key, d = keyD k ∧ v = kV k := by
  cases r with
  | int i => exact ⟨.inl i, rfl, rfl⟩
  | str x => exact ⟨.inr x, rfl, rfl⟩
  | _ => cases h
theorem keys_of : ∀ {vs : List V} {ds : List D}, Reps T ι F vs ds → ds.all PC.keyd = true → ∃ ks : List Key, ds = ks.map keyD ∧ vs = ks.map kV
  | _, _, .nil, _ => ⟨[], rfl, rfl⟩
  | _, _, .cons r t, h => by
    rw [List.all_cons, Bool.and_eq_true] at h
    obtain ⟨k, e1, e2⟩ := key_of r h.1
    obtain ⟨ks, e3, e4⟩ := keys_of t h.2
    exact ⟨k :: ks, by rw [e1, e3]; rfl, by rw [e2, e4]; rfl⟩
theorem reps_keys : ∀ ks : List Key, Reps T ι F (ks.map kV) (ks.map keyD)
  | [] => .nil
  | .inl i :: ks => .cons (.int i) (reps_keys ks)
  | .inr x :: ks => .cons (.str x) (reps_keys ks)
theorem repK_get (k : Key) : ∀ {es : List (Key × V)} {kvs : List (D × D)}, RepK T ι F es kvs → (valV es k = none ∧ PC.dGet kvs (keyD k) = none) ∨ ∃ v d, valV es k = some v ∧ PC.dGet kvs (keyD k) = some d ∧ Rep T ι F v d
  | _, _, .nil => .inl ⟨rfl, rfl⟩
  | _, _, .cons (k := k') (v := v) (d := d) (kvs := kvs) r t => by
    have e : PC.dGet ((keyD k', d) :: kvs) (keyD k) = if decide (k' = k) then some d else PC.dGet kvs (keyD k) := by
      conv => lhs; unfold PC.dGet
      rw [keyD_inj]
    by_cases h : k' = k
    · exact .inr ⟨_, _, valV_pos h, by rw [e, decide_eq_true h]; rfl, r⟩
    · rw [valV_neg (p := (k', v)) h, e, decide_eq_false h]
      exact repK_get k t
theorem repT_get (k : List Key) : ∀ {es : List (List Key × V)} {kvs : List (D × D)}, RepT T ι F es kvs → (valV es k = none ∧ PC.dGet kvs (.tup (k.map keyD)) = none) ∨ ∃ v d, valV es k = some v ∧ PC.dGet kvs (.tup (k.map keyD)) = some d ∧ Rep T ι F v d
  | _, _, .nil => .inl ⟨rfl, rfl⟩
  | _, _, .cons (k := k') (v := v) (d := d) (kvs := kvs) r t => by
    have q : PC.eqv (.tup (k'.map keyD)) (.tup (k.map keyD)) = decide (k' = k) := keyDs_inj k' k
    have e : PC.dGet ((.tup (k'.map keyD), d) :: kvs) (.tup (k.map keyD)) = if decide (k' = k) then some d else PC.dGet kvs (.tup (k.map keyD)) := by
      conv => lhs; unfold PC.dGet
      rw [q]
    by_cases h : k' = k
    · exact .inr ⟨_, _, valV_pos h, by rw [e, decide_eq_true h]; rfl, r⟩
    · rw [valV_neg (p := (k', v)) h, e, decide_eq_false h]
      exact repT_get k t
theorem repK_any (k : Key) : ∀ {es : List (Key × V)} {kvs : List (D × D)}, RepK T ι F es kvs → (kvs.any fun p => PC.eqv p.1 (keyD k)) = es.any fun kv => decide (kv.1 = k)
  | _, _, .nil => rfl
  | _, _, .cons r t => by
    rw [List.any_cons, List.any_cons, repK_any k t, keyD_inj]
theorem repT_any (k : List Key) : ∀ {es : List (List Key × V)} {kvs : List (D × D)}, RepT T ι F es kvs → (kvs.any fun p => PC.eqv p.1 (.tup (k.map keyD))) = es.any fun kv => decide (kv.1 = k)
  | _, _, .nil => rfl
  | _, _, .cons (k := k') r t => by
    have q : PC.eqv (.tup (k'.map keyD)) (.tup (k.map keyD)) = decide (k' = k) := keyDs_inj k' k
    rw [List.any_cons, List.any_cons, repT_any k t, q]
theorem repK_map (k : Key) {v : V} {d : D} (q : Rep T ι F v d) : ∀ {es : List (Key × V)} {kvs : List (D × D)}, RepK T ι F es kvs → RepK T ι F (es.map fun kv => if kv.1 = k then (kv.1, v) else kv) (kvs.map fun p => if PC.eqv p.1 (keyD k) then (p.1, d) else p)
  | _, _, .nil => .nil
  | _, _, .cons (k := k') (v := v0) (d := d0) (es := es) (kvs := kvs) r t => by
    rw [List.map_cons, List.map_cons]
    show RepK T ι F ((if k' = k then (k', v) else (k', v0)) :: _) ((if PC.eqv (keyD k') (keyD k) = true then (keyD k', d) else (keyD k', d0)) :: _)
    rw [keyD_inj]
    by_cases h : k' = k
    · rw [if_pos h, if_pos (decide_eq_true h)]
      exact .cons q (repK_map k q t)
    · rw [if_neg h, if_neg (by simpa using h)]
      exact .cons r (repK_map k q t)
theorem repT_map (k : List Key) {v : V} {d : D} (q : Rep T ι F v d) : ∀ {es : List (List Key × V)} {kvs : List (D × D)}, RepT T ι F es kvs → RepT T ι F (es.map fun kv => if kv.1 = k then (kv.1, v) else kv) (kvs.map fun p => if PC.eqv p.1 (.tup (k.map keyD)) then (p.1, d) else p)
  | _, _, .nil => .nil
  | _, _, .cons (k := k') (v := v0) (d := d0) (es := es) (kvs := kvs) r t => by
    have z : PC.eqv (.tup (k'.map keyD)) (.tup (k.map keyD)) = decide (k' = k) := keyDs_inj k' k
    rw [List.map_cons, List.map_cons]
    show RepT T ι F ((if k' = k then (k', v) else (k', v0)) :: _) ((if PC.eqv (.tup (k'.map keyD)) (.tup (k.map keyD)) = true then (.tup (k'.map keyD), d) else (.tup (k'.map keyD), d0)) :: _)
    rw [z]
    by_cases h : k' = k
    · rw [if_pos h, if_pos (decide_eq_true h)]
      exact .cons q (repT_map k q t)
    · rw [if_neg h, if_neg (by simpa using h)]
      exact .cons r (repT_map k q t)
theorem repK_app {k : Key} {v : V} {d : D} (q : Rep T ι F v d) : ∀ {es : List (Key × V)} {kvs : List (D × D)}, RepK T ι F es kvs → RepK T ι F (es ++ [(k, v)]) (kvs ++ [(keyD k, d)])
  | _, _, .nil => .cons q .nil
  | _, _, .cons r t => .cons r (repK_app q t)
theorem repT_app {k : List Key} {v : V} {d : D} (q : Rep T ι F v d) : ∀ {es : List (List Key × V)} {kvs : List (D × D)}, RepT T ι F es kvs → RepT T ι F (es ++ [(k, v)]) (kvs ++ [(.tup (k.map keyD), d)])
  | _, _, .nil => .cons q .nil
  | _, _, .cons r t => .cons r (repT_app q t)
theorem repK_put {k : Key} {v : V} {d : D} (q : Rep T ι F v d) {es : List (Key × V)} {kvs : List (D × D)} (r : RepK T ι F es kvs) : RepK T ι F (putK es k v) (PC.dPut kvs (keyD k) d) := by
  unfold putK PC.dPut
  rw [repK_any k r]
  split
  · exact repK_map k q r
  · exact repK_app q r
theorem repT_put {k : List Key} {v : V} {d : D} (q : Rep T ι F v d) {es : List (List Key × V)} {kvs : List (D × D)} (r : RepT T ι F es kvs) : RepT T ι F (putK es k v) (PC.dPut kvs (.tup (k.map keyD)) d) := by
  unfold putK PC.dPut
  rw [repT_any k r]
  split
  · exact repT_map k q r
  · exact repT_app q r
theorem repK_len : ∀ {es : List (Key × V)} {kvs : List (D × D)}, RepK T ι F es kvs → es.length = kvs.length
  | _, _, .nil => rfl
  | _, _, .cons _ t => congrArg (· + 1) (repK_len t)
theorem repT_len : ∀ {es : List (List Key × V)} {kvs : List (D × D)}, RepT T ι F es kvs → es.length = kvs.length
  | _, _, .nil => rfl
  | _, _, .cons _ t => congrArg (· + 1) (repT_len t)
end
end Br
end

section
set_option Elab.async false
set_option linter.all false
set_option maxRecDepth 100000
set_option maxHeartbeats 1000000
/-! Br5: comparisons by values. -/
namespace Br
open PySem PySem.Spec PyProof.Rows L2
open PC (D E S Sl Cl Sg Gs Rs Re)

/-! ### dicts by how many entries -/
/-- a dict of n entries, whatever its keys -/
def DEnt (h : Heap) (a : Addr) (n : Nat) : Prop := ∃ o es ep, h.get? a = some o ∧ o.ExactDict ∧ o.data = .dict es ep ∧ es.size = n
section
variable {P : Program} {w : World} {A : Around} {Ex : Value → Shared → Prop} {s : Shared}
theorem same_ent {nm : String} {a b : Addr} {n m : Nat} {Q : Bool → Shared → Prop} (ha : (a == sysModules) = false) (hb : (b == sysModules) = false)
    (da : DEnt s.heap a n) (db : DEnt s.heap b m) (hz : n = 0 ∨ m = 0) (h : Q (n == m) s) : wpAny (model P w) A (Builtin.Dict.samePairs nm a b) Q Ex s := by
  obtain ⟨oa, xs, ep, ga, _, ea, na⟩ := da
  obtain ⟨ob, ys, ep', gb, _, eb, nb⟩ := db
  subst na nb
  unfold Builtin.Dict.samePairs Builtin.Dict.showsAll
  rw [if_neg (show ¬ (a == sysModules) = true by simp [ha]), if_neg (show ¬ (b == sysModules) = true by simp [hb])]
  refine wpAny_bind (wpAny_pure (wpAny_bind (wpAny_pure (wpAny_bind (wpAny_dictEntries ga ea ?_)))))
  dsimp only
  refine wpAny_bind (wpAny_dictEntries gb eb ?_)
  by_cases hs : xs.size = ys.size
  · have h0 : xs.size = 0 := by omega
    have ht : (xs.size == ys.size) = true := by simp [hs]
    rw [ht] at h
    rw [if_neg (by simp [hs])]
    refine wpAny_bind (wpAny_dictEpoch ga ea (wpAny_bind ?_))
    rw [Std.Legacy.Range.forIn_eq_forIn_range']
    simp only [h0, Std.Legacy.Range.size, Nat.sub_zero, Nat.zero_add, Nat.add_sub_cancel, Nat.div_one, Nat.sub_self, List.range'_zero]
    exact wpAny_pure (wpAny_pure h)
  · have ht : (xs.size == ys.size) = false := by simp [hs]
    rw [ht] at h
    rw [if_pos (by simp [hs])]
    exact wpAny_bind (wpAny_rule (wpAny_pure h))
theorem DEnt.typeIs {a : Addr} {n : Nat} (d : DEnt s.heap a n) : s.TypeIs (.ref a) "dict" := by
  obtain ⟨o, es, ep, g, ex, e, _⟩ := d
  exact ⟨o, g, ex.1⟩
theorem eq_ent {a b : Addr} {n m : Nat} {Q : Value → Shared → Prop} (ha : (a == sysModules) = false) (hb : (b == sysModules) = false)
    (da : DEnt s.heap a n) (db : DEnt s.heap b m) (hz : n = 0 ∨ m = 0) (hu : A.units < cLine) (h : Q (.bool (n == m)) s) : wpAny (model P w) A (compareOp .Eq (.ref a) (.ref b)) Q Ex s := by
  refine wpAny_richCompare_same_room (op := .Eq) da.typeIs db.typeIs PySem.F.slot_dict_eq (wpAny_call_entry PySem.F.slot_dict_eq da.typeIs PySem.F.entry_dict_eq (wpAny_bind ?_) (PySem.F.args_dict_eq_2 _ _)) hu
  unfold Builtin.Dict.dictSlotArgs
  refine wpAny_bind (wpAny_notOrdered_dict da.typeIs (show wpAny _ _ (pure (Value.ref a, Value.ref b)) _ _ s from wpAny_pure (wpAny_bind (wpAny_isInstance (T := "dict") db.typeIs PySem.F.sub_dict_dict ?_))))
  simp only [Bool.not_true, Bool.false_eq_true, if_false]
  refine wpAny_bind (wpAny_pure (wpAny_bind (wpAny_pure (wpAny_bind (same_ent ha hb da db hz (wpAny_pure ⟨_, rfl, (by intro x; cases x), by simpa using h⟩))))))
theorem ne_ent {a b : Addr} {n m : Nat} {Q : Value → Shared → Prop} (ha : (a == sysModules) = false) (hb : (b == sysModules) = false)
    (da : DEnt s.heap a n) (db : DEnt s.heap b m) (hz : n = 0 ∨ m = 0) (hu : A.units < cLine) (h : Q (.bool (!(n == m))) s) : wpAny (model P w) A (compareOp .NotEq (.ref a) (.ref b)) Q Ex s := by
  refine wpAny_richCompare_same_room (op := .NotEq) da.typeIs db.typeIs PySem.F.slot_dict_ne (wpAny_call_entry PySem.F.slot_dict_ne da.typeIs PySem.F.entry_dict_ne (wpAny_bind ?_) (PySem.F.args_dict_ne_2 _ _)) hu
  unfold Builtin.Dict.dictSlotArgs
  refine wpAny_bind (wpAny_notOrdered_dict da.typeIs (show wpAny _ _ (pure (Value.ref a, Value.ref b)) _ _ s from wpAny_pure (wpAny_bind (wpAny_isInstance (T := "dict") db.typeIs PySem.F.sub_dict_dict ?_))))
  simp only [Bool.not_true, Bool.false_eq_true, if_false]
  refine wpAny_bind (wpAny_pure (wpAny_bind (wpAny_pure (wpAny_bind (same_ent ha hb da db hz (wpAny_pure ⟨_, rfl, (by intro x; cases x), by simpa using h⟩))))))
end
section
variable {X : Cx} {T : Tb} {w : Wd} {σ σ' : L2.St} {H : Hp} {pins : List (Addr × Obj)} {s : Shared}
theorem len_entries {kvs : List (Key × V)} {h : Heap} {a : Addr} (x : ObjOk X.prog X.w H h a (.dK kvs)) : (a == sysModules) = false ∧ DEnt h a kvs.length := by
  obtain ⟨_, hd, vs, rel, o, es, ep, g, ex, e, _, p, _⟩ := x
  refine ⟨hd, o, es, ep, g, ex, e, ?_⟩
  rw [rel.length, ← p.length, Array.length_toList]
theorem len_entriesT {kvs : List (List Key × V)} {h : Heap} {a : Addr} (x : ObjOk X.prog X.w H h a (.dT kvs)) : (a == sysModules) = false ∧ DEnt h a kvs.length := by
  obtain ⟨_, hd, xs, rel, o, es, ep, g, ex, e, p, _⟩ := x
  refine ⟨hd, o, es, ep, g, ex, e, ?_⟩
  rw [Paired.length rel, ← Array.length_toList, p, List.length_map]
/-- a dict's entries, counted -/
theorem dct_ent (I : Inv X pins σ' H s) {v : V} {kvs : List (D × D)} (c : Cnt T w H v (.dct kvs)) : ∃ a, v = .ref a ∧ (a == sysModules) = false ∧ DEnt s.heap a kvs.length := by
  obtain ⟨a, rfl, ⟨es, r, q⟩ | ⟨es, r, q⟩⟩ := c
  · rw [← repK_len q]
    exact ⟨a, rfl, len_entries (rd_of I.hok r)⟩
  · rw [← repT_len q]
    exact ⟨a, rfl, len_entriesT (rd_of I.hok r)⟩
/-! ### signs -/
theorem strLt_lt : ∀ a b : List Nat, PC.strLt a b = decide (a < b)
  | [], [] => by simp [PC.strLt]
  | [], _ :: _ => by simp [PC.strLt]
  | _ :: _, [] => by simp [PC.strLt]
  | a :: r, b :: t => by
    rw [PC.strLt, strLt_lt r t]
    by_cases h : a < b
    · simp [h, List.cons_lt_cons_iff]
    · by_cases h2 : b < a
      · have h3 : ¬ a = b := by omega
        simp [h, h2, h3, List.cons_lt_cons_iff]
      · have h3 : a = b := by omega
        simp [h3, List.cons_lt_cons_iff]
/-! ### keys of a dict -/
theorem Cnt.key (k : Ok T w σ H) {v : V} {d : D} (c : Cnt T w H v d) (h : PC.keyOk d = true) : (∃ kk : Key, d = keyD kk ∧ v = kV kk) ∨ ∃ (ks : List Key) (b : Addr), d = .tup (ks.map keyD) ∧ v = .ref b ∧ TupAt T w b (ks.map kV) (ks.map keyD) := by
  cases d with
  | int i =>
    cases c
    exact .inl ⟨.inl i, rfl, rfl⟩
  | str x =>
    cases c with
    | str x => exact .inl ⟨.inr x, rfl, rfl⟩
  | tup ds =>
    obtain ⟨b, vs, rfl, hb, r⟩ := c
    have hk : ds.all PC.keyd = true := by simpa [PC.keyOk, PC.keyd, PC.keyT] using h
    obtain ⟨ks, e1, e2⟩ := keys_of r hk
    subst e1 e2
    exact .inr ⟨ks, b, rfl, rfl, hb⟩
  | _ => simp [PC.keyOk, PC.keyd, PC.keyT] at h
/-- a look into a dict -/
inductive Look (T : Tb) (w : Wd) (H : Hp) (v y : V) (o : Option D) : Prop
  | there (a : Addr) (x : Option V) : v = .ref a → DGet H a y x → (∀ d, o = some d → ∃ z, x = some z ∧ Rep T w.ι w.F z d) → (o = none → x = none) → Look T w H v y o
  | thereT (a b : Addr) (ks : List Key) (kvs : List (List Key × V)) : v = .ref a → y = .ref b → TupAt T w b (ks.map kV) (ks.map keyD) → Rd H a (.dT kvs) → (∀ d, o = some d → ∃ z, valV kvs ks = some z ∧ Rep T w.ι w.F z d) → (o = none → valV kvs ks = none) → Look T w H v y o
  | empT (a b : Addr) (ks : List Key) : v = .ref a → y = .ref b → TupAt T w b (ks.map kV) (ks.map keyD) → Rd H a (.dK []) → o = none → Look T w H v y o
  | empK (a : Addr) (kk : Key) : v = .ref a → y = kV kk → Rd H a (.dT []) → o = none → Look T w H v y o
theorem keyFor_ok {kvs : List (D × D)} {d : D} (h : PC.keyFor kvs d = true) : PC.keyOk d = true ∧ ∀ p ∈ kvs, PC.keyd p.1 = PC.keyd d := by
  obtain ⟨h1, h2⟩ := Bool.and_eq_true_iff.mp h
  exact ⟨h1, fun p hp => by simpa using List.all_eq_true.mp h2 p hp⟩
theorem Cnt.look (k : Ok T w σ H) {v y : V} {kvs : List (D × D)} {d : D} (c : Cnt T w H v (.dct kvs)) (cy : Cnt T w H y d) (h : PC.keyFor kvs d = true) : Look T w H v y (PC.dGet kvs d) := by
  obtain ⟨h1, h2⟩ := keyFor_ok h
  obtain ⟨a, rfl, ⟨es, r, q⟩ | ⟨es, r, q⟩⟩ := c
  · rcases cy.key k h1 with ⟨kk, rfl, rfl⟩ | ⟨ks, b, rfl, rfl, hb⟩
    · rcases repK_get kk q with ⟨e1, e2⟩ | ⟨z, d', e1, e2, r'⟩
      · exact .there a none rfl (.inl ⟨es, kk, r, rfl, e1.symm⟩) (fun d e => by rw [e2] at e; cases e) (fun _ => rfl)
      · exact .there a (some z) rfl (.inl ⟨es, kk, r, rfl, e1.symm⟩) (fun d e => by rw [e2] at e; cases e; exact ⟨z, rfl, r'⟩) (fun e => by rw [e2] at e; cases e)
    · cases q with
      | nil => exact .empT a b ks rfl rfl hb r rfl
      | cons r0 q0 =>
        have e := h2 _ List.mem_cons_self
        rw [keyD_key] at e
        cases e
  · rcases cy.key k h1 with ⟨kk, rfl, rfl⟩ | ⟨ks, b, rfl, rfl, hb⟩
    · cases q with
      | nil => exact .empK a kk rfl rfl r rfl
      | cons r0 q0 =>
        have e := h2 _ List.mem_cons_self
        rw [keyD_key] at e
        cases e
    · rcases repT_get ks q with ⟨e1, e2⟩ | ⟨z, d', e1, e2, r'⟩
      · exact .thereT a b ks es rfl rfl hb r (fun d e => by rw [e2] at e; cases e) (fun _ => e1)
      · exact .thereT a b ks es rfl rfl hb r (fun d e => by rw [e2] at e; cases e; exact ⟨z, e1, r'⟩) (fun e => by rw [e2] at e; cases e)
theorem DEnt.mapK {h : Heap} {a : Addr} (d : DEnt h a 0) : h.DictOf (mixKind X.prog X.w) a [] := by
  obtain ⟨o, es, ep, g, ex, e, z⟩ := d
  have e0 : es = #[] := Array.eq_empty_of_size_eq_zero z
  subst e0
  exact ⟨o, #[], ep, g, ex, e, fun _ he => by simp at he, .nil, List.nodup_nil⟩
theorem DEnt.mapT {h : Heap} {a : Addr} (d : DEnt h a 0) : h.DictOfH (tupleKind (mixKind X.prog X.w)) a [] := by
  obtain ⟨o, es, ep, g, ex, e, z⟩ := d
  have e0 : es = #[] := Array.eq_empty_of_size_eq_zero z
  subst e0
  exact ⟨o, #[], ep, g, ex, e, rfl, fun _ he => by simp at he, List.nodup_nil⟩
/-- a tuple of ints and texts is a key -/
theorem key_is (hK : T.K = X.K) (I : Inv X pins σ' H s) (k : Ok T w σ H) {b : Addr} {ks : List Key} (h : TupAt T w b (ks.map kV) (ks.map keyD)) : (tupleKind (mixKind X.prog X.w)).is s.heap ks b := by
  obtain ⟨its, r, ⟨o, h1, h2, n, h3⟩, _⟩ := I.tuple (h.sq hK k)
  exact ⟨o, its.toArray, n, h1, h2, h3, by simpa using items_are r⟩
theorem look_in (hK : T.K = X.K) (k : Ok T w σ H) {A : Around} {Ex : Value → Shared → Prop} {v y : V} {a u : Value} {o : Option D} {Q : Value → Shared → Prop} (hu : A.units + 1 < cLine) (I : Inv X pins σ' H s) (l : Look T w H v y o) (rv : RelV v a) (ry : RelV y u)
    (h : ∀ s', Inv X pins σ' H s' → Q (.bool o.isSome) s') : wpAny (model X.prog X.w) A (compareOp .In u a) Q Ex s := by
  cases l with
  | there b x hv g h1 h2 =>
    subst hv
    cases rv
    refine d_in hu I g ry fun s' I' => ?_
    have e : x.isSome = o.isSome := by
      cases o with
      | none =>
        rw [h2 rfl] <;> rfl
      | some d =>
        obtain ⟨z, ez, _⟩ := h1 d rfl
        rw [ez] <;> rfl
    rw [e]
    exact h s' I'
  | thereT b c ks kvs hv hy hc r h1 h2 =>
    subst hv hy
    cases rv
    cases (show u = Value.ref c from ry)
    obtain ⟨z, hd, xs, rel, dd⟩ := dt_rd I.hok r
    refine wpAny_in_heap (tupleKind_room_in1 hu) (key_is hK I k hc) hd dd ?_
    have q := (rel.val ks).isSome_eq
    rw [Option.isSome_map] at q
    have e : (valV kvs ks).isSome = o.isSome := by
      cases o with
      | none =>
        rw [h2 rfl] <;> rfl
      | some d =>
        obtain ⟨z, ez, _⟩ := h1 d rfl
        rw [ez] <;> rfl
    rw [← q, e]
    exact h _ (I.tok _)
  | empT b c ks hv hy hc r ho =>
    subst hv hy ho
    cases rv
    cases (show u = Value.ref c from ry)
    obtain ⟨hd, de⟩ := len_entries (rd_of I.hok r)
    exact wpAny_in_heap (tupleKind_room_in1 hu) (key_is hK I k hc) hd (DEnt.mapT (X := X) de) (h _ (I.tok _))
  | empK b kk hv hy r ho =>
    subst hv hy ho
    cases rv
    obtain ⟨hd, de⟩ := len_entriesT (rd_of I.hok r)
    exact wpAny_in_of (kV_is ry) hd (DEnt.mapK (X := X) de).mapOf (h _ (I.tok _))
theorem look_notIn (hK : T.K = X.K) (k : Ok T w σ H) {A : Around} {Ex : Value → Shared → Prop} {v y : V} {a u : Value} {o : Option D} {Q : Value → Shared → Prop} (hu : A.units + 1 < cLine) (I : Inv X pins σ' H s) (l : Look T w H v y o) (rv : RelV v a) (ry : RelV y u)
    (h : ∀ s', Inv X pins σ' H s' → Q (.bool (!o.isSome)) s') : wpAny (model X.prog X.w) A (compareOp .NotIn u a) Q Ex s := by
  cases l with
  | there b x hv g h1 h2 =>
    subst hv
    cases rv
    refine d_notIn hu I g ry fun s' I' => ?_
    have e : x.isSome = o.isSome := by
      cases o with
      | none =>
        rw [h2 rfl] <;> rfl
      | some d =>
        obtain ⟨z, ez, _⟩ := h1 d rfl
        rw [ez] <;> rfl
    rw [e]
    exact h s' I'
  | thereT b c ks kvs hv hy hc r h1 h2 =>
    subst hv hy
    cases rv
    cases (show u = Value.ref c from ry)
    obtain ⟨z, hd, xs, rel, dd⟩ := dt_rd I.hok r
    refine wpAny_notIn_heap (tupleKind_room_in1 hu) (key_is hK I k hc) hd dd ?_
    have q := (rel.val ks).isSome_eq
    rw [Option.isSome_map] at q
    have e : (valV kvs ks).isSome = o.isSome := by
      cases o with
      | none =>
        rw [h2 rfl] <;> rfl
      | some d =>
        obtain ⟨z, ez, _⟩ := h1 d rfl
        rw [ez] <;> rfl
    rw [← q, e]
    exact h _ (I.tok _)
  | empT b c ks hv hy hc r ho =>
    subst hv hy ho
    cases rv
    cases (show u = Value.ref c from ry)
    obtain ⟨hd, de⟩ := len_entries (rd_of I.hok r)
    exact wpAny_notIn_heap (tupleKind_room_in1 hu) (key_is hK I k hc) hd (DEnt.mapT (X := X) de) (h _ (I.tok _))
  | empK b kk hv hy r ho =>
    subst hv hy ho
    cases rv
    obtain ⟨hd, de⟩ := len_entriesT (rd_of I.hok r)
    exact wpAny_notIn_of (kV_is ry) hd (DEnt.mapK (X := X) de).mapOf (h _ (I.tok _))
end
/-! ### the comparing operators -/
section
variable {X : Cx}
def rCmp (T : Tb) (o : PC.COp) : R2 := fun x y H Q => ∃ w σ dx dy b, Ok T w σ H ∧ Cnt T w H x dx ∧ Cnt T w H y dy ∧ PC.cmpD o dx dy = some b ∧ Q (.bl b) H
def cOp : PC.COp → CmpOp
  | .eq => .Eq
  | .ne => .NotEq
  | .lt => .Lt
  | .le => .LtE
  | .gt => .Gt
  | .ge => .GtE
  | .is_ => .Is
  | .isn => .IsNot
  | .in_ => .In
  | .nin => .NotIn
theorem shpL_tup {n : Nat} {ys : List D} (h : PC.shpL n ys = true) : PC.shp (n + 1) (.tup ys) = true := by simpa [PC.shp] using h
theorem shpL_lst {n : Nat} {ys : List D} (h : PC.shpL n ys = true) : PC.shp (n + 1) (.lst ys) = true := by simpa [PC.shp] using h
theorem any_py {x : D} : ∀ {ys : List D}, PC.shp 60 x = true → PC.shpL 60 ys = true → ((toPyL ys).any fun z => PyData.eqv z (toPy x)) = ys.any fun y => PC.eqv y x
  | [], _, _ => rfl
  | y :: ys, hx, hy => by
    have h := Bool.and_eq_true_iff.mp (show (PC.shp 60 y && PC.shpL 60 ys) = true from hy)
    show (PyData.eqv (toPy y) (toPy x) || (toPyL ys).any fun z => PyData.eqv z (toPy x)) = (PC.eqv y x || ys.any fun y => PC.eqv y x)
    rw [eqv_py y x 60 60 h.1 hx, any_py hx h.2]
theorem eq_data {K : PySem.W.Frag} {T : Tb} (hK : T.K = K) {w : Wd} {σ : L2.St} {H : Hp} {x y : V} {a b : D} (k : Ok T w σ H) (cx : Cnt T w H x a) (cy : Cnt T w H y b) (h : (PC.shp 60 a && PC.shp 60 b) = true) :
    Dp K H x (toPy a) ∧ Dp K H y (toPy b) ∧ SeqAt.shaped (toPy a) = true ∧ SeqAt.shaped (toPy b) = true ∧ PyData.eqv (toPy a) (toPy b) = PC.eqv a b := by
  obtain ⟨h1, h2⟩ := Bool.and_eq_true_iff.mp h
  exact ⟨cx.dp hK k h1, cy.dp hK k h2, shaped_of h1 (by decide), shaped_of h2 (by decide), eqv_py a b 60 60 h1 h2⟩
/-- is a value None -/
def nonB : D → Bool
  | .non => true
  | _ => false
theorem is_b (b c : Bool) : decide (b = c) = if c then b else !b := by cases b <;> cases c <;> rfl
theorem isNone {T : Tb} {w : Wd} {H : Hp} {x : V} {a : D} (c : Cnt T w H x a) : decide (x = .non) = nonB a := by
  cases a with
  | non => cases c; rfl
  | lst ds => obtain ⟨p, vs, rfl, _⟩ := c; rfl
  | tup ds => obtain ⟨p, vs, rfl, _⟩ := c; rfl
  | dct ds => obtain ⟨p, rfl, _⟩ := c; rfl
  | exc C fs => nomatch c
  | scr ns => cases c <;> rfl
  | _ => cases c; rfl
theorem inD_tup {T : Tb} (hK : T.K = X.K) {w : Wd} {σ : L2.St} {H : Hp} {pins : List (Addr × Obj)} {σ' : L2.St} {s : Shared} {x y : V} {dx : D} {ys : List D} {v u : Value} {neg : Bool} {Q : Value → Shared → Prop} {Ex : Value → Shared → Prop}
    (hu : X.A.units + 65 < cLine) (I : Inv X pins σ' H s) (k : Ok T w σ H) (cx : Cnt T w H x dx) (cy : Cnt T w H y (.tup ys)) (rx : RelV x v) (ry : RelV y u) (h1 : PC.shp 60 dx = true) (h2 : PC.shpL 60 ys = true)
    (h : Q (.bool (ys.any fun y => PC.eqv y dx)) s) : wpAny (model X.prog X.w) X.A (compareOp .In v u) Q Ex s := by
  have hy : PC.shp 61 (.tup ys) = true := shpL_tup h2
  obtain ⟨as, r1⟩ := Dp.reads I _ _ _ (cx.dp hK k h1) rx
  obtain ⟨bs, r2⟩ := Dp.reads I _ _ _ (cy.dp hK k hy) ry
  refine SeqAt.in_tuple_reads r2 r1 (SeqAt.canLay_of_shaped (shaped_of hy (by decide))) (SeqAt.canLay_of_shaped (shaped_of h1 (by decide))) (room_in_shaped (shaped_of h1 (by decide)) hu) ?_
  rw [any_py h1 h2]
  exact h
theorem notInD_tup {T : Tb} (hK : T.K = X.K) {w : Wd} {σ : L2.St} {H : Hp} {pins : List (Addr × Obj)} {σ' : L2.St} {s : Shared} {x y : V} {dx : D} {ys : List D} {v u : Value} {neg : Bool} {Q : Value → Shared → Prop} {Ex : Value → Shared → Prop}
    (hu : X.A.units + 65 < cLine) (I : Inv X pins σ' H s) (k : Ok T w σ H) (cx : Cnt T w H x dx) (cy : Cnt T w H y (.tup ys)) (rx : RelV x v) (ry : RelV y u) (h1 : PC.shp 60 dx = true) (h2 : PC.shpL 60 ys = true)
    (h : Q (.bool (!ys.any fun y => PC.eqv y dx)) s) : wpAny (model X.prog X.w) X.A (compareOp .NotIn v u) Q Ex s := by
  have hy : PC.shp 61 (.tup ys) = true := shpL_tup h2
  obtain ⟨as, r1⟩ := Dp.reads I _ _ _ (cx.dp hK k h1) rx
  obtain ⟨bs, r2⟩ := Dp.reads I _ _ _ (cy.dp hK k hy) ry
  refine SeqAt.notIn_tuple_reads r2 r1 (SeqAt.canLay_of_shaped (shaped_of hy (by decide))) (SeqAt.canLay_of_shaped (shaped_of h1 (by decide))) (room_in_shaped (shaped_of h1 (by decide)) hu) ?_
  rw [any_py h1 h2]
  exact h
theorem op_cmp (hK : T.K = X.K) (hu : X.A.units + 65 < cLine) (o : PC.COp) : OpR X (compareOp (cOp o)) (rCmp T o) := by
  intro pins s σ' H x y v u Q I rx ry h
  obtain ⟨w, σ, dx, dy, bb, k, cx, cy, e, q⟩ := h
  have hu4 : X.A.units + 64 < cLine := by omega
  have hu1 : X.A.units + 1 < cLine := by omega
  have hu0 : X.A.units < cLine := by omega
  cases o with
  | eq =>
    have data : ∀ {a b : D}, Cnt T w H x a → Cnt T w H y b → (if (PC.shp 60 a && PC.shp 60 b) = true then some (PC.eqv a b) else none) = some bb → wpAny (model X.prog X.w) X.A (compareOp .Eq v u) (L2.EP X pins σ' Q) X.xe s := fun {a b} ca cb e => by
      split at e
      · rename_i hs
        obtain ⟨h1, h2, h3, h4, h5⟩ := eq_data hK k ca cb hs
        cases e
        exact op_eqD hu4 pins s σ' H _ _ v u Q I rx ry ⟨_, _, h1, h2, h3, h4, by rw [h5]; exact q⟩
      · cases e
    cases dx <;> cases dy <;> try (exact data cx cy e)
    rename_i xs ys
    obtain ⟨a, rfl, ha, da⟩ := dct_ent I cx
    obtain ⟨b, rfl, hb, db⟩ := dct_ent I cy
    cases rx; cases ry
    simp only [PC.cmpD] at e
    split at e
    · rename_i hc
      cases e
      refine eq_ent ha hb da db ?_ hu0 ⟨.bl _, H, I, rfl, ?_⟩
      · rw [Bool.or_eq_true_iff, List.isEmpty_iff_length_eq_zero, List.isEmpty_iff_length_eq_zero] at hc
        exact hc
      · have z : (xs.length == ys.length) = (xs.isEmpty && ys.isEmpty) := by
          cases xs <;> cases ys <;> simp_all
        rw [z]
        exact q
    · cases e
  | ne =>
    have data : ∀ {a b : D}, Cnt T w H x a → Cnt T w H y b → (if (PC.shp 60 a && PC.shp 60 b) = true then some (!PC.eqv a b) else none) = some bb → wpAny (model X.prog X.w) X.A (compareOp .NotEq v u) (L2.EP X pins σ' Q) X.xe s := fun {a b} ca cb e => by
      split at e
      · rename_i hs
        obtain ⟨h1, h2, h3, h4, h5⟩ := eq_data hK k ca cb hs
        cases e
        exact op_neD hu4 pins s σ' H _ _ v u Q I rx ry ⟨_, _, h1, h2, h3, h4, by rw [h5]; exact q⟩
      · cases e
    cases dx <;> cases dy <;> try (exact data cx cy e)
    rename_i xs ys
    obtain ⟨a, rfl, ha, da⟩ := dct_ent I cx
    obtain ⟨b, rfl, hb, db⟩ := dct_ent I cy
    cases rx; cases ry
    simp only [PC.cmpD] at e
    split at e
    · rename_i hc
      cases e
      refine ne_ent ha hb da db ?_ hu0 ⟨.bl _, H, I, rfl, ?_⟩
      · rw [Bool.or_eq_true_iff, List.isEmpty_iff_length_eq_zero, List.isEmpty_iff_length_eq_zero] at hc
        exact hc
      · have z : (xs.length == ys.length) = (xs.isEmpty && ys.isEmpty) := by
          cases xs <;> cases ys <;> simp_all
        rw [z]
        exact q
    · cases e
  | lt =>
    cases dx <;> cases dy <;> simp only [PC.cmpD] at e <;> try (cases e; done)
    · cases cx; cases cy; cases e
      exact op_lt pins s σ' H _ _ v u Q I rx ry ⟨_, _, rfl, rfl, q⟩
    · cases cx; cases cy; cases e
      exact op_lt_str pins s σ' H _ _ v u Q I rx ry ⟨_, _, rfl, rfl, by rw [← strLt_lt]; exact q⟩
  | gt =>
    cases dx <;> cases dy <;> simp only [PC.cmpD] at e <;> try (cases e; done)
    · cases cx; cases cy; cases e
      exact op_gt pins s σ' H _ _ v u Q I rx ry ⟨_, _, rfl, rfl, q⟩
    · cases cx; cases cy; cases e
      exact op_gt_str pins s σ' H _ _ v u Q I rx ry ⟨_, _, rfl, rfl, by rw [← strLt_lt]; exact q⟩
  | le =>
    cases dx <;> cases dy <;> simp only [PC.cmpD] at e <;> try (cases e; done)
    · cases cx; cases cy; cases e
      exact op_le pins s σ' H _ _ v u Q I rx ry ⟨_, _, rfl, rfl, q⟩
    · cases cx; cases cy; cases e
      exact op_le_str pins s σ' H _ _ v u Q I rx ry ⟨_, _, rfl, rfl, by rw [← strLt_lt]; exact q⟩
  | ge =>
    cases dx <;> cases dy <;> simp only [PC.cmpD] at e <;> try (cases e; done)
    cases cx; cases cy; cases e
    exact op_ge pins s σ' H _ _ v u Q I rx ry ⟨_, _, rfl, rfl, q⟩
  | is_ =>
    cases dy with
    | non =>
      cases cy
      refine op_isN pins s σ' H _ _ v u Q I rx ry ⟨rfl, ?_⟩
      rw [isNone cx]
      cases dx <;> (cases Option.some.inj e; exact q)
    | bl c =>
      cases cy
      cases c <;> cases dx <;> first | (cases e; done) | skip
      · cases cx
        cases e
        exact op_isBl pins s σ' H _ _ v u Q I rx ry ⟨_, _, rfl, rfl, by rw [is_b]; exact q⟩
      · cases cx
        cases e
        exact op_isBl pins s σ' H _ _ v u Q I rx ry ⟨_, _, rfl, rfl, by rw [is_b]; exact q⟩
    | _ => cases e
  | isn =>
    cases dy with
    | non =>
      cases cy
      refine op_notN pins s σ' H _ _ v u Q I rx ry ⟨rfl, ?_⟩
      rw [isNone cx]
      cases dx <;> (cases Option.some.inj e; exact q)
    | bl c =>
      cases cy
      cases c <;> cases dx <;> first | (cases e; done) | skip
      · cases cx
        cases e
        exact op_notBl pins s σ' H _ _ v u Q I rx ry ⟨_, _, rfl, rfl, by rw [is_b]; simpa using q⟩
      · cases cx
        cases e
        exact op_notBl pins s σ' H _ _ v u Q I rx ry ⟨_, _, rfl, rfl, by rw [is_b]; simpa using q⟩
    | _ => cases e
  | in_ =>
    replace e : PC.inD dx dy = some bb := e
    cases dy with
    | lst ys =>
      simp only [PC.inD] at e
      split at e
      · rename_i hs
        cases e
        obtain ⟨h1, h2⟩ := Bool.and_eq_true_iff.mp hs
        have hy : PC.shp 61 (.lst ys) = true := shpL_lst h2
        exact op_inD hu pins s σ' H _ _ v u Q I rx ry ⟨_, _, cx.dp hK k h1, cy.dp hK k hy, shaped_of h1 (by decide), shaped_of hy (by decide), by rw [any_py h1 h2]; exact q⟩
      · cases e
    | tup ys =>
      simp only [PC.inD] at e
      split at e
      · rename_i hs
        cases e
        obtain ⟨h1, h2⟩ := Bool.and_eq_true_iff.mp hs
        exact inD_tup (neg := false) hK hu I k cx cy rx ry h1 h2 ⟨.bl _, H, I, rfl, q⟩
      · cases e
    | str y =>
      cases cy with
      | str y =>
      cases dx <;> simp only [PC.inD] at e <;> try (cases e; done)
      rename_i t
      cases cx with
      | str t =>
      obtain ⟨⟨t⟩⟩ := t
      match t, e with
      | [c], e =>
        cases e
        refine op_in_sign pins s σ' H _ _ v u Q I rx ry ⟨c, y, rfl, rfl, ?_⟩
        have z : y.cps.toList.contains c = decide (c ∈ y.cps.toList) := by
          rw [Bool.eq_iff_iff]; simp
        rw [← z]
        exact q
      | [], e => cases e
      | _ :: _ :: _, e => cases e
    | dct kvs =>
      simp only [PC.inD] at e
      split at e
      · rename_i hs
        cases e
        exact look_in hK k hu1 I (cy.look k cx hs) ry rx fun s' I' => ⟨.bl _, H, I', rfl, q⟩
      · cases e
    | _ => cases e
  | nin =>
    replace e : (PC.inD dx dy).map (!·) = some bb := e
    cases dy with
    | lst ys =>
      simp only [PC.inD] at e
      split at e
      · rename_i hs
        cases e
        obtain ⟨h1, h2⟩ := Bool.and_eq_true_iff.mp hs
        have hy : PC.shp 61 (.lst ys) = true := shpL_lst h2
        exact op_notInD hu pins s σ' H _ _ v u Q I rx ry ⟨_, _, cx.dp hK k h1, cy.dp hK k hy, shaped_of h1 (by decide), shaped_of hy (by decide), by rw [any_py h1 h2]; exact q⟩
      · cases e
    | tup ys =>
      simp only [PC.inD] at e
      split at e
      · rename_i hs
        cases e
        obtain ⟨h1, h2⟩ := Bool.and_eq_true_iff.mp hs
        exact notInD_tup (neg := false) hK hu I k cx cy rx ry h1 h2 ⟨.bl _, H, I, rfl, q⟩
      · cases e
    | str y =>
      cases cy with
      | str y =>
      cases dx <;> simp only [PC.inD] at e <;> try (cases e; done)
      rename_i t
      cases cx with
      | str t =>
      obtain ⟨⟨t⟩⟩ := t
      match t, e with
      | [c], e =>
        cases e
        refine op_notIn_sign pins s σ' H _ _ v u Q I rx ry ⟨c, y, rfl, rfl, ?_⟩
        have z : y.cps.toList.contains c = decide (c ∈ y.cps.toList) := by
          rw [Bool.eq_iff_iff]; simp
        rw [← z]
        exact q
      | [], e => cases e
      | _ :: _ :: _, e => cases e
    | dct kvs =>
      simp only [PC.inD] at e
      split at e
      · rename_i hs
        cases e
        exact look_notIn hK k hu1 I (cy.look k cx hs) ry rx fun s' I' => ⟨.bl _, H, I', rfl, q⟩
      · cases e
    | _ => cases e
end
end Br
end

section
set_option Elab.async false
set_option linter.all false
set_option maxRecDepth 100000
set_option maxHeartbeats 1000000
/-! Br6: slots, names, operands, rows of expressions. -/
namespace Br
open PySem PySem.Spec PyProof.Rows L2
open PC (D E S Sl Cl Sg Gs Rs Re)

/-! ### slots -/
def Wd.slot (w : Wd) (i : Nat) (x : Sl) : Wd := { w with s := w.s.set i x }
theorem set_get {α : Type} {l : List α} {i j : Nat} {x y : α} (h : (l.set i x)[j]? = some y) : (j = i ∧ y = x ∧ i < l.length) ∨ (j ≠ i ∧ l[j]? = some y) := by
  by_cases e : j = i
  · subst e
    have hl : j < l.length := by
      have := (List.getElem?_eq_some_iff.mp h).1
      simpa using this
    rw [List.getElem?_set_self hl] at h
    exact .inl ⟨rfl, (Option.some.inj h).symm, hl⟩
  · rw [List.getElem?_set_ne (fun z => e z.symm)] at h
    exact .inr ⟨e, h⟩
section
variable {T : Tb} {w w1 w2 : Wd} {σ σ1 σ2 : L2.St} {H H1 H2 : Hp} {a : Addr} {d : D} {v : V}
theorem Own.slot_va {i : Nat} {o : Option V} (h : Own (w.slot i (.va d)) (σ.set i o) a) : Own w σ a := by
  obtain ⟨j, e, h1, h2⟩ := h
  rcases set_get h1 with ⟨_, h, _⟩ | ⟨hn, h⟩
  · cases h
  · refine ⟨j, e, h, ?_⟩
    rw [List.getElem?_set_ne (fun z => hn z.symm)] at h2
    exact h2
theorem Own.slot_un {i : Nat} (h : Own (w.slot i .un) σ a) : Own w σ a := by
  obtain ⟨j, e, h1, h2⟩ := h
  rcases set_get h1 with ⟨_, h, _⟩ | ⟨hn, h⟩
  · cases h
  · exact ⟨j, e, h, h2⟩
theorem Own.slot_same {i : Nat} (h : Own (w.slot i (.va d)) σ a) : Own w σ a := by
  obtain ⟨j, e, h1, h2⟩ := h
  rcases set_get h1 with ⟨_, h, _⟩ | ⟨hn, h⟩
  · cases h
  · exact ⟨j, e, h, h2⟩
theorem Own.slot_ow {i : Nat} {b : Addr} (h : Own (w.slot i (.ow d)) (σ.set i (some (.ref b))) a) : a = b ∨ Own w σ a := by
  obtain ⟨j, e, h1, h2⟩ := h
  rcases set_get h1 with ⟨rfl, h, hl⟩ | ⟨hn, h⟩
  · have hl2 : j < σ.length := by
      have := (List.getElem?_eq_some_iff.mp h2).1
      simpa using this
    rw [List.getElem?_set_self hl2] at h2
    cases h2
    exact .inl rfl
  · rw [List.getElem?_set_ne (fun z => hn z.symm)] at h2
    exact .inr ⟨j, e, h, h2⟩
theorem Ok.drop (k : Ok T w σ H) (i : Nat) : Ok T (w.slot i .un) σ H :=
  ⟨k.len, k.nd, k.sub, k.frz, k.cel, by show (w.s.set i _).length = _; rw [List.length_set]; exact k.sl, fun j e h => by
    rcases set_get h with ⟨_, h, _⟩ | ⟨_, h⟩
    · cases h
    · exact k.va j e h, fun j e h => by
    rcases set_get h with ⟨_, h, _⟩ | ⟨_, h⟩
    · cases h
    · exact k.ow j e h, fun j m e f b h1 h2 => by
    rcases set_get h1 with ⟨_, h, _⟩ | ⟨_, h1⟩
    · cases h
    · rcases set_get h2 with ⟨_, h, _⟩ | ⟨_, h2⟩
      · cases h
      · exact k.ap j m e f b h1 h2, k.tb⟩
theorem Ok.drop2 (k : Ok T w σ H) (i : Nat) : Ok T (w.slot i .un) (σ.set i none) H := by
  refine ⟨k.len, k.nd, k.sub, k.frz, k.cel, by show (w.s.set i _).length = (σ.set i _).length; rw [List.length_set, List.length_set]; exact k.sl, fun j e h => ?_, fun j e h => ?_, fun j m e f b h1 h2 q1 q2 => ?_, k.tb⟩
  · rcases set_get h with ⟨_, h, _⟩ | ⟨hn, h⟩
    · cases h
    · rw [List.getElem?_set_ne (fun z => hn z.symm)]
      exact k.va j e h
  · rcases set_get h with ⟨_, h, _⟩ | ⟨hn, h⟩
    · cases h
    · rw [List.getElem?_set_ne (fun z => hn z.symm)]
      exact k.ow j e h
  · rcases set_get h1 with ⟨_, h, _⟩ | ⟨n1, h1⟩
    · cases h
    · rcases set_get h2 with ⟨_, h, _⟩ | ⟨n2, h2⟩
      · cases h
      · rw [List.getElem?_set_ne (fun z => n1 z.symm)] at q1
        rw [List.getElem?_set_ne (fun z => n2 z.symm)] at q2
        exact k.ap j m e f b h1 h2 q1 q2
/-- a slot's own value is a value for good -/
theorem Ok.same (k : Ok T w σ H) {i : Nat} (hv : σ[i]? = some (some v)) (r : Rep T w.ι w.F v d) : Ok T (w.slot i (.va d)) σ H :=
  ⟨k.len, k.nd, k.sub, k.frz, k.cel, by show (w.s.set i _).length = _; rw [List.length_set]; exact k.sl, fun j e h => by
    rcases set_get h with ⟨rfl, h, _⟩ | ⟨_, h⟩
    · cases h
      exact ⟨v, hv, r⟩
    · exact k.va j e h, fun j e h => by
    rcases set_get h with ⟨_, h, _⟩ | ⟨_, h⟩
    · cases h
    · exact k.ow j e h, fun j m e f b h1 h2 => by
    rcases set_get h1 with ⟨_, h, _⟩ | ⟨_, h1⟩
    · cases h
    · rcases set_get h2 with ⟨_, h, _⟩ | ⟨_, h2⟩
      · cases h
      · exact k.ap j m e f b h1 h2, k.tb⟩
theorem Ok.setV (k : Ok T w σ H) (i : Nat) (r : Rep T w.ι w.F v d) : Ok T (w.slot i (.va d)) (σ.set i (some v)) H := by
  refine ⟨k.len, k.nd, k.sub, k.frz, k.cel, by show (w.s.set i _).length = (σ.set i _).length; rw [List.length_set, List.length_set]; exact k.sl, fun j e h => ?_, fun j e h => ?_, fun j m e f b h1 h2 q1 q2 => ?_, k.tb⟩
  · rcases set_get h with ⟨rfl, h, hl⟩ | ⟨hn, h⟩
    · cases h
      rw [k.sl] at hl
      rw [List.getElem?_set_self hl]
      exact ⟨v, rfl, r⟩
    · rw [List.getElem?_set_ne (fun z => hn z.symm)]
      exact k.va j e h
  · rcases set_get h with ⟨_, h, _⟩ | ⟨hn, h⟩
    · cases h
    · rw [List.getElem?_set_ne (fun z => hn z.symm)]
      exact k.ow j e h
  · rcases set_get h1 with ⟨_, h, _⟩ | ⟨n1, h1⟩
    · cases h
    · rcases set_get h2 with ⟨_, h, _⟩ | ⟨n2, h2⟩
      · cases h
      · rw [List.getElem?_set_ne (fun z => n1 z.symm)] at q1
        rw [List.getElem?_set_ne (fun z => n2 z.symm)] at q2
        exact k.ap j m e f b h1 h2 q1 q2
theorem Ok.setO (k : Ok T w σ H) (i : Nat) (f : Free w σ H a) (c : CtL T w.ι w.F H a d) : Ok T (w.slot i (.ow d)) (σ.set i (some (.ref a))) H := by
  refine ⟨k.len, k.nd, k.sub, k.frz, k.cel, by show (w.s.set i _).length = (σ.set i _).length; rw [List.length_set, List.length_set]; exact k.sl, fun j e h => ?_, fun j e h => ?_, fun j m e f' b h1 h2 q1 q2 => ?_, k.tb⟩
  · rcases set_get h with ⟨_, h, _⟩ | ⟨hn, h⟩
    · cases h
    · rw [List.getElem?_set_ne (fun z => hn z.symm)]
      exact k.va j e h
  · rcases set_get h with ⟨rfl, h, hl⟩ | ⟨hn, h⟩
    · cases h
      rw [k.sl] at hl
      rw [List.getElem?_set_self hl]
      exact ⟨a, rfl, f.f, f.i, c⟩
    · rw [List.getElem?_set_ne (fun z => hn z.symm)]
      exact k.ow j e h
  · rcases set_get h1 with ⟨e1, h, hl⟩ | ⟨n1, p1⟩
    · rcases set_get h2 with ⟨e2, _, _⟩ | ⟨n2, p2⟩
      · rw [e1, e2]
      · subst e1
        rw [k.sl] at hl
        rw [List.getElem?_set_self hl] at q1
        cases q1
        rw [List.getElem?_set_ne (fun z => n2 z.symm)] at q2
        exact absurd ⟨m, f', p2, q2⟩ f.o
    · rcases set_get h2 with ⟨e2, h, hl⟩ | ⟨n2, p2⟩
      · subst e2
        rw [k.sl] at hl
        rw [List.getElem?_set_self hl] at q2
        cases q2
        rw [List.getElem?_set_ne (fun z => n1 z.symm)] at q1
        exact absurd ⟨j, e, p1, q1⟩ f.o
      · rw [List.getElem?_set_ne (fun z => n1 z.symm)] at q1
        rw [List.getElem?_set_ne (fun z => n2 z.symm)] at q2
        exact k.ap j m e f' b p1 p2 q1 q2
/-- an owned thing that is given up is nobody's -/
theorem Ok.freed (k : Ok T w σ H) {i : Nat} (h : w.s[i]? = some (.ow d)) : ∃ a, σ[i]? = some (some (.ref a)) ∧ Own w σ a ∧ Free (w.slot i .un) σ H a ∧ CtL T w.ι w.F H a d := by
  obtain ⟨a, h1, h2, h3, h4⟩ := k.ow i d h
  refine ⟨a, h1, ⟨i, d, h, h1⟩, ⟨h2, h3, fun ⟨j, e, q1, q2⟩ => ?_⟩, h4⟩
  rcases set_get q1 with ⟨_, q, _⟩ | ⟨hn, q⟩
  · cases q
  · exact hn (k.ap j i e d a q h q2 h1)
theorem CtL.u {ι : List Addr} {F : Hp} (h : CtL T ι F H a d) : ∃ u, H a = some u ∧ okU u = true ∧ ∀ F' : Hp, (∀ b x, F b = some x → F' b = some x) → F' a = some u → Rep T ι F' (.ref a) d := by
  cases d with
  | lst ds =>
    obtain ⟨vs, c, r⟩ := h
    exact ⟨_, c, rfl, fun F' hm e => .lst e (r.mono (fun _ _ h => h) hm)⟩
  | dct kvs =>
    rcases h with ⟨es, c, r⟩ | ⟨es, c, r⟩
    · exact ⟨_, c, rfl, fun F' hm e => .dK e (r.mono (fun _ _ h => h) hm)⟩
    · exact ⟨_, c, rfl, fun F' hm e => .dT e (r.mono (fun _ _ h => h) hm)⟩
  | _ => exact h.elim
/-- a new thing is known from now on -/
theorem Ok.know' (k : Ok T w σ H) (f : Free w σ H a) (c : CtL T w.ι w.F H a d) : ∃ w', w'.st = w.st ∧ w'.ι = w.ι ∧ Ok T w' σ H ∧ (∀ b x, w.F b = some x → w'.F b = some x) ∧ (∀ b, b ≠ a → w'.F b = w.F b) ∧ Rep T w'.ι w'.F (.ref a) d ∧ ∃ u, w' = w.know a u := by
  obtain ⟨u, hu, nf, r⟩ := c.u
  refine ⟨w.know a u, rfl, rfl, k.know f hu nf, know_mono f.f, fun b hb => upd_ne hb, r _ (know_mono f.f) upd_same, u, rfl⟩
theorem Stp.slot_un {i : Nat} (a : Stp w σ H w1 σ H1) (i : Nat) : Stp w σ H (w1.slot i .un) σ H1 :=
  ⟨a.ι, a.F, a.kp, fun b o e t f h1 h2 => let ⟨q1, q2, q3⟩ := a.fr b o e t f h1 h2; ⟨q1, q2, fun z => q3 z.slot_un⟩, a.tr, fun b h => a.nw b h.slot_un⟩
theorem Stp.slot_same (a : Stp w σ H w1 σ1 H1) (i : Nat) (d : D) : Stp w σ H (w1.slot i (.va d)) σ1 H1 :=
  ⟨a.ι, a.F, a.kp, fun b o e t f h1 h2 => let ⟨q1, q2, q3⟩ := a.fr b o e t f h1 h2; ⟨q1, q2, fun z => q3 z.slot_same⟩, a.tr, fun b h => a.nw b h.slot_same⟩
theorem Stp.slot_va (a : Stp w σ H w1 σ1 H1) (i : Nat) (d : D) (o : Option V) : Stp w σ H (w1.slot i (.va d)) (σ1.set i o) H1 :=
  ⟨a.ι, a.F, a.kp, fun b o e t f h1 h2 => let ⟨q1, q2, q3⟩ := a.fr b o e t f h1 h2; ⟨q1, q2, fun z => q3 z.slot_va⟩, a.tr, fun b h => a.nw b h.slot_va⟩
/-- a name is read -/
theorem rd_ok (k : Ok T w σ H) (i : Nat) : PC.rd i w.st = .no ∨ ∃ r st v, PC.rd i w.st = .ok r st ∧ r.2 = false ∧ σ[i]? = some (some v) ∧ ∃ w', w'.st = st ∧ Ok T w' σ H ∧ Stp w σ H w' σ H ∧ w'.ι = w.ι ∧ Rep T w'.ι w'.F v r.1 := by
  unfold PC.rd
  cases e : w.st.s[i]? with
  | none => exact .inl rfl
  | some x =>
    cases x with
    | un => exact .inl rfl
    | va d =>
      obtain ⟨v, hv, r⟩ := k.va i d e
      exact .inr ⟨_, _, v, rfl, rfl, hv, w, rfl, k, .refl, rfl, r⟩
    | ow d =>
      obtain ⟨a, h1, own, fr, c⟩ := k.freed e
      have k1 := k.drop i
      obtain ⟨w2, e2, i2, k2, m2, n2, r2, u, hw2⟩ := k1.know' fr c
      have hs2 : w2.s = w.s.set i .un := congrArg PC.St.s e2
      have hg2 : w2.g = w.g := congrArg PC.St.g e2
      have k3 := k2.same h1 r2
      refine .inr ⟨_, _, .ref a, rfl, rfl, h1, w2.slot i (.va d), ?_, k3, ⟨?_, m2, fun _ _ h _ _ _ => h, fun b o hb t f hi ho => ⟨?_, ?_, ?_⟩, fun _ h => h, fun b h => ?_⟩, i2, r2⟩
      · show (⟨w2.s.set i _, w2.g⟩ : PC.St) = ⟨w.s.set i _, w.g⟩
        rw [hs2, hg2, List.set_set]
      · intro n b hb
        show w2.ι[n]? = _
        rw [i2]
        exact hb
      · show w2.F b = none
        rw [n2 b (fun z => ho (z ▸ own))]
        exact f
      · show b ∉ w2.ι
        rw [i2]
        exact hi
      · intro z
        have z2 := z.slot_same
        subst hw2
        exact ho (Own.slot_un (w := w) (i := i) z2)
      · have z2 := h.slot_same
        subst hw2
        exact .inl (Own.slot_un (w := w) (i := i) z2)
theorem pk_ok (k : Ok T w σ H) (i : Nat) : PC.pk i w.st = .no ∨ ∃ r v, PC.pk i w.st = .ok r w.st ∧ r.2 = false ∧ σ[i]? = some (some v) ∧ Opd T w σ H (true && PC.looked (.v i) w.st) v r.1 ∧ ((true && PC.looked (.v i) w.st) = false → Rep T w.ι w.F v r.1) := by
  unfold PC.pk
  cases e : w.st.s[i]? with
  | none => exact .inl rfl
  | some x =>
    cases x with
    | un => exact .inl rfl
    | va d =>
      obtain ⟨v, hv, r⟩ := k.va i d e
      exact .inr ⟨_, v, rfl, rfl, hv, .inl r, fun _ => r⟩
    | ow d =>
      obtain ⟨a, h1, h2, h3, c⟩ := k.ow i d e
      exact .inr ⟨_, .ref a, rfl, rfl, h1, .inr (.inr ⟨by simp [PC.looked, e], a, rfl, ⟨i, d, e, h1⟩, c⟩), fun z => by simp [PC.looked, e] at z⟩
end

/-! ### names as expressions, as operands -/
section
variable {X : Cx} {T : Tb} {G : PC.Gl} {cf : PC.CF} {th : Option (Gs → Re)} {W : Option WX}
theorem evE_v (i : Nat) (s : PC.St) : PC.evE G cf th (.v i) s = PC.rd i s := by
  simp only [PC.evE]
theorem pe_name {i : Nat} {x : Str} {pos : Pos} (hN : X.N[i]? = some x) (hv : Vis X.env.scope x) (hd : (x == ("__debug__" : Str)) = false) (hcd : (x == ("__classdict__" : Str)) = false) : PE X (.Name x pos) (tE T G cf th W (.v i)) := by
  refine peImp (pe_var hN hv hd hcd) fun σ H Q ⟨w, k, h⟩ => ?_
  rw [evE_v] at h
  rcases rd_ok k i with e | ⟨r, st, v, e, hr, hs, w', e', k', s', i', rp⟩
  · rw [e] at h
    exact h.elim
  · rw [e] at h
    exact ⟨v, hs, h v H ⟨w', e', k', s', fun _ => (KO.refl k).to i', fun _ => rp, fun z => tf z hr⟩⟩
theorem pe_look {i : Nat} {x : Str} {pos : Pos} (hN : X.N[i]? = some x) (hv : Vis X.env.scope x) (hd : (x == ("__debug__" : Str)) = false) (hcd : (x == ("__classdict__" : Str)) = false) : PE X (.Name x pos) (tL T G cf th W true (.v i)) := by
  refine peImp (pe_var hN hv hd hcd) fun σ H Q ⟨w, k, h⟩ => ?_
  have h : Rp (PC.pk i w.st) _ _ := h
  rcases pk_ok k i with e | ⟨r, v, e, hr, hs, op, op2⟩
  · rw [e] at h
    exact h.elim
  · rw [e] at h
    exact ⟨v, hs, h v H ⟨w, rfl, k, .refl, fun _ => .refl k, op, fun _ z => op2 z⟩⟩
theorem lk_of {q : Bool} {c : E} {s : PC.St} {r : Rs (D × Bool)} (h : q = false ∨ ∀ i, c ≠ .v i) : PC.lk q c s r = r := by
  unfold PC.lk
  split
  · rcases h with h | h
    · cases h
    · exact absurd rfl (h _)
  · rfl
theorem PE.opd {e : Expr} {c : E} {q : Bool} (h : PE X e (tE T G cf th W c)) (hc : q = false ∨ ∀ i, c ≠ .v i) : PE X e (tL T G cf th W q c) := by
  refine peImp h fun σ H Q ⟨w, k, h⟩ => ⟨w, k, ?_⟩
  rw [lk_of hc] at h
  exact h.mono (fun r st z v H' p => z v H' p.lp) (fun _ _ _ z => z)

/-! ### two operands -/
theorem evE_bin (o : PC.BOp) (a b : E) (s : PC.St) : PC.evE G cf th (.bin o a b) s = (PC.lk (PC.quiet b) a s (PC.evE G cf th a s)).bind fun x s1 => (PC.lk true b s1 (PC.evE G cf th b s1)).bind fun y s2 => PC.opt (PC.binD o (PC.drf s2.g x.1) (PC.drf s2.g y.1)) s2 := by
  simp only [PC.evE]
theorem qAnd {a b : Bool} (h : (a && b) = true) : a = true ∧ b = true := Bool.and_eq_true_iff.mp h
theorem pe_bin (hK : T.K = X.K) {o : PC.BOp} {f : Operator} {a b : Expr} {ca cb : E} {pos : Pos} (ho : f = match o with
    | .add => .Add
    | .sub => .Sub
    | .mul => .Mult
    | .fdiv => .FloorDiv
    | .mod => .Mod
    | .pow => .Pow) (ha : PE X a (tL T G cf th W (PC.quiet cb) ca)) (hb : PE X b (tL T G cf th W true cb)) : PE X (.BinOp a f b pos) (tE T G cf th W (.bin o ca cb)) := by
  refine peImp (pe_op (op_bin (T := T) hK o f ho) ha hb) fun σ H Q ⟨w, k, h⟩ => ?_
  rw [evE_bin] at h
  refine ⟨w, k, h.bind.mono (fun x s1 h1 v1 H1 ⟨w1, e1, k1, t1, q1, o1, _⟩ => ?_) (fun _ _ _ z => z)⟩
  subst e1
  refine ⟨w1, k1, h1.bind.mono (fun y s2 h2 v2 H2 ⟨w2, e2, k2, t2, q2, o2, _⟩ => ?_) (fun _ _ _ z => z.after k1 t1)⟩
  subst e2
  obtain ⟨rd, e, q⟩ := h2.opt
  exact ⟨w2, σ, _, _, rd, k2, o1.cntL k2 t2 (fun z => q2 (qAnd z).1), o2.cnt k2, e, fun v H' rn => q v H' (rn.ep k k2 (t1.trans k1 t2) fun z => (q1 (qAnd z).1).trans k k2 t2 (q2 (qAnd z).2))⟩
end
end Br
end

section
set_option Elab.async false
set_option linter.all false
set_option maxRecDepth 100000
set_option maxHeartbeats 1000000
/-! Br7: tests, rows, displays, places. -/
namespace Br
open PySem PySem.Spec PyProof.Rows L2
open PC (D E S Sl Cl Sg Gs Rs Re)

section
variable {X : Cx} {T : Tb} {G : PC.Gl} {cf : PC.CF} {th : Option (Gs → Re)} {W : Option WX} {w w1 : Wd} {σ : L2.St} {H H1 : Hp}
/-! ### bools -/
theorem bind_as {α β γ : Type} (r : Rs α) (f : α → PC.St → Rs β) (g : β → PC.St → Rs γ) : (r.bind f).bind g = r.bind fun a s => (f a s).bind g := by cases r <;> rfl
theorem toB_ok {r : D × Bool} {st : PC.St} {f : Bool → PC.St → Prop} {g : Nat → List (Nat × D) → PC.St → Prop} (h : Rp (PC.toB r st) f g) : ∃ b, r.1 = .bl b ∧ f b st := by
  unfold PC.toB at h
  split at h
  · exact ⟨_, by assumption, h⟩
  · exact h.elim
theorem EP.bool {q : Bool} {r : D × Bool} {st : PC.St} {v : V} {b : Bool} {H' : Hp} (h : EP T w σ H q r st v H') (e : r.1 = .bl b) : v = .bl b ∧ BP T w σ H q st H' := by
  obtain ⟨w', e', k, s, kq, h1, h2⟩ := h
  cases hr : r.2 with
  | true =>
    obtain ⟨a, _, _, _, c⟩ := h2 hr
    rw [e] at c
    exact c.elim
  | false =>
    have c := h1 hr
    rw [e] at c
    cases c
    exact ⟨rfl, w', e', k, s, kq⟩
theorem BP.ep {q : Bool} {st : PC.St} {b : Bool} {H' : Hp} (h : BP T w σ H q st H') : EP T w σ H q (.bl b, false) st (.bl b) H' := by
  obtain ⟨w', e', k, s, kq⟩ := h
  exact ⟨w', e', k, s, kq, fun _ => .bl b, fun z => by cases z⟩
theorem BP.refl {q : Bool} (k : Ok T w σ H) : BP T w σ H q w.st H := ⟨w, rfl, k, .refl, fun _ => .refl k⟩
/-- from a later world, an earlier one -/
theorem EP.after {q q0 : Bool} {r : D × Bool} {st : PC.St} {v : V} {H' : Hp} (k0 : Ok T w σ H) (k1 : Ok T w1 σ H1) (s1 : Stp w σ H w1 σ H1) (q1 : q0 = true → KO w σ H w1 H1 ∧ q = true) (h : EP T w1 σ H1 q r st v H') : EP T w σ H q0 r st v H' := by
  obtain ⟨w', e', k, s, kq, h1, h2⟩ := h
  exact ⟨w', e', k, s1.trans k1 s, fun z => (q1 z).1.trans k0 k s (kq (q1 z).2), h1, fun z => by
    obtain ⟨a, e, n, f, c⟩ := h2 z
    exact ⟨a, e, s1.tr a n, f, c⟩⟩
theorem BP.after {q q0 : Bool} {st : PC.St} {H' : Hp} (k0 : Ok T w σ H) (k1 : Ok T w1 σ H1) (s1 : Stp w σ H w1 σ H1) (q1 : q0 = true → KO w σ H w1 H1 ∧ q = true) (h : BP T w1 σ H1 q st H') : BP T w σ H q0 st H' := by
  obtain ⟨w', e', k, s, kq⟩ := h
  exact ⟨w', e', k, s1.trans k1 s, fun z => (q1 z).1.trans k0 k s (kq (q1 z).2)⟩
/-- the test's reading from the value's -/
theorem tt_of {c : E} {Q : Bool → Hp → Prop} (h : tTs T G cf th W c σ H Q) : tE T G cf th W c σ H fun x H1 => ∃ b, x = .bl b ∧ Q b H1 := by
  obtain ⟨w, k, h⟩ := h
  refine ⟨w, k, h.bind.mono (fun r st z v H' p => ?_) (fun _ _ _ z => z)⟩
  obtain ⟨b, e, z⟩ := toB_ok z
  obtain ⟨ev, bp⟩ := p.bool e
  exact ⟨b, ev, z H' bp⟩
theorem pt_of {e : Expr} {c : E} (h : PE X e (tE T G cf th W c)) (he : ∀ whole, isTrue e X.env whole = (do let v ← whole; standAt e.pos; holding [v] (truthy v))) : PT X e (tTs T G cf th W c) :=
  ptImp (pt_val h he) fun σ H Q q => tt_of q

/-! ### constants -/
theorem evE_c (d : D) (s : PC.St) : PC.evE G cf th (.c d) s = .ok (d, false) s := by simp only [PC.evE]
theorem pe_const {e : Expr} {v : V} {d : D} (h : PE X e (tC v)) (r : ∀ (ι : List Addr) (F : Hp), Rep T ι F v d) : PE X e (tE T G cf th W (.c d)) := by
  refine peImp h fun σ H Q ⟨w, k, q⟩ => ?_
  rw [evE_c] at q
  exact q v H ⟨w, rfl, k, .refl, fun _ => .refl k, fun _ => r _ _, fun z => by cases z⟩

/-! ### and, or, not, if else -/
theorem evE_and (a b : E) (s : PC.St) : PC.evE G cf th (.and a b) s = (PC.evE G cf th a s).bind fun x s1 => (PC.toB x s1).bind fun k s2 => if k then PC.evE G cf th b s2 else .ok (.bl false, false) s2 := by simp only [PC.evE]
theorem evE_or (a b : E) (s : PC.St) : PC.evE G cf th (.or a b) s = (PC.evE G cf th a s).bind fun x s1 => (PC.toB x s1).bind fun k s2 => if k then .ok (.bl true, false) s2 else PC.evE G cf th b s2 := by simp only [PC.evE]
theorem evE_not (a : E) (s : PC.St) : PC.evE G cf th (.not a) s = PC.notB (PC.evE G cf th a s) := by simp only [PC.evE]
theorem evE_ite (c a b : E) (s : PC.St) : PC.evE G cf th (.ite c a b) s = (PC.evE G cf th c s).bind fun x s1 => (PC.toB x s1).bind fun k s2 => if k then PC.evE G cf th a s2 else PC.evE G cf th b s2 := by simp only [PC.evE]
theorem pe_andC {ca cb : E} {a b : Expr} {rest : List Expr} {pos : Pos} (ha : PE X a (tE T G cf th W ca)) (hb : PE X (.BoolOp .And (b :: rest) pos) (tE T G cf th W cb)) : PE X (.BoolOp .And (a :: b :: rest) pos) (tE T G cf th W (.and ca cb)) := by
  refine peImp (L2.pe_and ha hb) fun σ H Q ⟨w, k, h⟩ => ?_
  rw [evE_and] at h
  refine ⟨w, k, h.bind.mono (fun r st z v H1 p => ?_) (fun _ _ _ z => z)⟩
  obtain ⟨c, e, z⟩ := toB_ok z.bind
  obtain ⟨ev, w1, e1, k1, s1, q1⟩ := p.bool e
  subst e1
  refine ⟨c, ev, ?_⟩
  cases c with
  | false => exact z _ _ (BP.ep ⟨w1, rfl, k1, s1, fun y => q1 (qAnd y).1⟩)
  | true => exact ⟨w1, k1, z.mono (fun r2 st2 y v2 H2 p2 => y v2 H2 (p2.after k k1 s1 fun y => ⟨q1 (qAnd y).1, (qAnd y).2⟩)) (fun _ _ _ y => y.after k1 s1)⟩
theorem pe_orC {ca cb : E} {a b : Expr} {rest : List Expr} {pos : Pos} (ha : PE X a (tE T G cf th W ca)) (hb : PE X (.BoolOp .Or (b :: rest) pos) (tE T G cf th W cb)) : PE X (.BoolOp .Or (a :: b :: rest) pos) (tE T G cf th W (.or ca cb)) := by
  refine peImp (L2.pe_or ha hb) fun σ H Q ⟨w, k, h⟩ => ?_
  rw [evE_or] at h
  refine ⟨w, k, h.bind.mono (fun r st z v H1 p => ?_) (fun _ _ _ z => z)⟩
  obtain ⟨c, e, z⟩ := toB_ok z.bind
  obtain ⟨ev, w1, e1, k1, s1, q1⟩ := p.bool e
  subst e1
  refine ⟨c, ev, ?_⟩
  cases c with
  | true => exact z _ _ (BP.ep ⟨w1, rfl, k1, s1, fun y => q1 (qAnd y).1⟩)
  | false => exact ⟨w1, k1, z.mono (fun r2 st2 y v2 H2 p2 => y v2 H2 (p2.after k k1 s1 fun y => ⟨q1 (qAnd y).1, (qAnd y).2⟩)) (fun _ _ _ y => y.after k1 s1)⟩
theorem pe_notC {ca : E} {a : Expr} {pos : Pos} (ha : PE X a (tE T G cf th W ca)) : PE X (.UnaryOp .Not a pos) (tE T G cf th W (.not ca)) := by
  refine peImp (L2.pe_not ha) fun σ H Q ⟨w, k, h⟩ => ?_
  rw [evE_not] at h
  unfold PC.notB at h
  refine ⟨w, k, h.bind.mono (fun r st z v H1 p => ?_) (fun _ _ _ z => z)⟩
  obtain ⟨c, e, z⟩ := toB_ok z.bind
  obtain ⟨ev, bp⟩ := p.bool e
  exact ⟨c, ev, z _ _ bp.ep⟩
/-! tests -/
theorem pw_andC {ca cb : E} {a b : Expr} {rest : List Expr} {pos : Pos} (ha : PT X a (tTs T G cf th W ca)) (hb : PW X (.BoolOp .And (b :: rest) pos) (tTs T G cf th W cb)) : PW X (.BoolOp .And (a :: b :: rest) pos) (tTs T G cf th W (.and ca cb)) := by
  have z := pw_and (pos := pos) ha hb
  refine ⟨fun Y pins s σ H Q I q => z.run Y pins s σ H Q I ?_⟩
  obtain ⟨w, k, h⟩ := q
  rw [evE_and] at h
  refine ⟨w, k, ?_⟩
  have h2 : Rp (((PC.evE G cf th ca w.st).bind PC.toB).bind fun b s2 => (if b then PC.evE G cf th cb s2 else .ok (.bl false, false) s2).bind PC.toB) (fun b st => ∀ H', BP T w σ H (PC.quiet (.and ca cb)) st H' → Q b H') (exK T W w σ H) := by
    simp only [bind_as] at h ⊢
    exact h
  refine h2.bind.mono (fun b st y H1 ⟨w1, e1, k1, s1, q1⟩ => ?_) (fun _ _ _ y => y)
  subst e1
  cases b with
  | false => exact y _ ⟨w1, rfl, k1, s1, fun y => q1 (qAnd y).1⟩
  | true => exact ⟨w1, k1, y.mono (fun b2 st2 y H2 p2 => y H2 (p2.after k k1 s1 fun y => ⟨q1 (qAnd y).1, (qAnd y).2⟩)) (fun _ _ _ y => y.after k1 s1)⟩
theorem pw_orC {ca cb : E} {a b : Expr} {rest : List Expr} {pos : Pos} (ha : PT X a (tTs T G cf th W ca)) (hb : PW X (.BoolOp .Or (b :: rest) pos) (tTs T G cf th W cb)) : PW X (.BoolOp .Or (a :: b :: rest) pos) (tTs T G cf th W (.or ca cb)) := by
  have z := pw_or (pos := pos) ha hb
  refine ⟨fun Y pins s σ H Q I q => z.run Y pins s σ H Q I ?_⟩
  obtain ⟨w, k, h⟩ := q
  rw [evE_or] at h
  refine ⟨w, k, ?_⟩
  have h2 : Rp (((PC.evE G cf th ca w.st).bind PC.toB).bind fun b s2 => (if b then .ok (.bl true, false) s2 else PC.evE G cf th cb s2).bind PC.toB) (fun b st => ∀ H', BP T w σ H (PC.quiet (.or ca cb)) st H' → Q b H') (exK T W w σ H) := by
    simp only [bind_as] at h ⊢
    exact h
  refine h2.bind.mono (fun b st y H1 ⟨w1, e1, k1, s1, q1⟩ => ?_) (fun _ _ _ y => y)
  subst e1
  cases b with
  | true => exact y _ ⟨w1, rfl, k1, s1, fun y => q1 (qAnd y).1⟩
  | false => exact ⟨w1, k1, y.mono (fun b2 st2 y H2 p2 => y H2 (p2.after k k1 s1 fun y => ⟨q1 (qAnd y).1, (qAnd y).2⟩)) (fun _ _ _ y => y.after k1 s1)⟩
theorem pt_notC {ca : E} {a : Expr} {pos : Pos} (ha : PT X a (tTs T G cf th W ca)) : PT X (.UnaryOp .Not a pos) (tTs T G cf th W (.not ca)) := by
  refine ptImp (L2.pt_not ha) fun σ H Q ⟨w, k, h⟩ => ?_
  rw [evE_not] at h
  refine ⟨w, k, ?_⟩
  unfold PC.notB at h
  have h2 : Rp (((PC.evE G cf th ca w.st).bind PC.toB).bind fun b s2 => .ok (!b) s2) (fun b st => ∀ H', BP T w σ H (PC.quiet ca) st H' → Q b H') (exK T W w σ H) := by
    simp only [bind_as] at h ⊢
    exact h
  exact h2.bind
theorem pe_iteC {cc ca cb : E} {c a b : Expr} {pos : Pos} (hc : PT X c (tTs T G cf th W cc)) (ha : PE X a (tE T G cf th W ca)) (hb : PE X b (tE T G cf th W cb)) : PE X (.IfExp c a b pos) (tE T G cf th W (.ite cc ca cb)) := by
  refine peImp (pe_ifExp hc ha hb) fun σ H Q ⟨w, k, h⟩ => ?_
  rw [evE_ite] at h
  refine ⟨w, k, ?_⟩
  have h2 : Rp (((PC.evE G cf th cc w.st).bind PC.toB).bind fun b s2 => if b then PC.evE G cf th ca s2 else PC.evE G cf th cb s2) (fun r st => ∀ v H', EP T w σ H (PC.quiet (.ite cc ca cb)) r st v H' → Q v H') (exK T W w σ H) := by
    simp only [bind_as] at h ⊢
    exact h
  refine h2.bind.mono (fun b st y H1 ⟨w1, e1, k1, s1, q1⟩ => ?_) (fun _ _ _ y => y)
  subst e1
  cases b with
  | true => exact ⟨w1, k1, y.mono (fun r2 st2 y v2 H2 p2 => y v2 H2 (p2.after k k1 s1 fun y => ⟨q1 (qAnd (qAnd y).1).1, (qAnd (qAnd y).1).2⟩)) (fun _ _ _ y => y.after k1 s1)⟩
  | false => exact ⟨w1, k1, y.mono (fun r2 st2 y v2 H2 p2 => y v2 H2 (p2.after k k1 s1 fun y => ⟨q1 (qAnd (qAnd y).1).1, (qAnd y).2⟩)) (fun _ _ _ y => y.after k1 s1)⟩
/-! ### a negative number -/
theorem evE_neg (a : E) (s : PC.St) : PC.evE G cf th (.neg a) s = (PC.evE G cf th a s).bind fun x s1 => (match x.1 with
    | .int i => .ok (.int (-i), false) s1
    | _ => .no) := by
  simp only [PC.evE]
  all_goals rfl
theorem pe_negC {ca : E} {a : Expr} {pos : Pos} (ha : PE X a (tE T G cf th W ca)) : PE X (.UnaryOp .USub a pos) (tE T G cf th W (.neg ca)) := by
  refine peImp (pe_un un_neg ha) fun σ H Q ⟨w, k, h⟩ => ?_
  rw [evE_neg] at h
  refine ⟨w, k, h.bind.mono (fun r st z v H1 ⟨w1, e1, k1, s1, q1, h1, h2⟩ => ?_) (fun _ _ _ z => z)⟩
  split at z
  · rename_i i e
    cases hr : r.2 with
    | true =>
      obtain ⟨a, _, _, _, c⟩ := h2 hr
      rw [e] at c
      exact c.elim
    | false =>
      have c := h1 hr
      rw [e] at c
      cases c
      exact ⟨i, rfl, z _ _ ⟨w1, e1, k1, s1, q1, fun _ => .int _, fun z => by cases z⟩⟩
  · exact z.elim
end
end Br
end

section
set_option Elab.async false
set_option linter.all false
set_option maxRecDepth 100000
set_option maxHeartbeats 1000000
/-! Br8: rows of expressions, displays, places, slices, comparisons. -/
namespace Br
open PySem PySem.Spec PyProof.Rows L2
open PC (D E S Sl Cl Sg Gs Rs Re)

/-! ### rows -/
/-- the new things of a row -/
def frA : List V → List (D × Bool) → List Addr
  | .ref a :: vs, (_, true) :: xs => a :: frA vs xs
  | _ :: vs, _ :: xs => frA vs xs
  | _, _ => []
inductive AL (T : Tb) (w : Wd) (σ : L2.St) (H : Hp) : List V → List (D × Bool) → Prop
  | nil : AL T w σ H [] []
  | rep {v : V} {d : D} {vs : List V} {xs : List (D × Bool)} : Rep T w.ι w.F v d → AL T w σ H vs xs → AL T w σ H (v :: vs) ((d, false) :: xs)
  | new {a : Addr} {d : D} {vs : List V} {xs : List (D × Bool)} : Free w σ H a → CtL T w.ι w.F H a d → a ∉ frA vs xs → AL T w σ H vs xs → AL T w σ H (.ref a :: vs) ((d, true) :: xs)
section
variable {T : Tb} {w w0 w1 w2 : Wd} {σ σ1 σ2 σ0 : L2.St} {H H0 H1 H2 : Hp} {a : Addr} {d : D} {v : V}
theorem frA_rep {v : V} {d : D} {vs : List V} {xs : List (D × Bool)} : frA (v :: vs) ((d, false) :: xs) = frA vs xs := by
  cases v <;> rfl
theorem Free.later (f : Free w σ H a) (c : CtL T w.ι w.F H a d) (s : Stp w σ H w1 σ1 H1) : Free w1 σ1 H1 a ∧ CtL T w1.ι w1.F H1 a d := by
  obtain ⟨o, ho, nt⟩ := c.there
  have hk := s.kp a o ho (nT_of ho nt) f.i f.o
  obtain ⟨f1, f2, f3⟩ := s.fr a o ho nt f.f f.i f.o
  exact ⟨⟨f1, f2, f3⟩, (c.at (hk.trans ho.symm)).mono s.ι s.F⟩
theorem AL.later {vs : List V} {xs : List (D × Bool)} (h : AL T w σ H vs xs) (s : Stp w σ H w1 σ1 H1) : AL T w1 σ1 H1 vs xs := by
  induction h with
  | nil => exact .nil
  | rep r _ ih => exact .rep (s.rep r) ih
  | new f c n _ ih =>
    obtain ⟨f1, c1⟩ := f.later c s
    exact .new f1 c1 n ih
theorem AL.length {vs : List V} {xs : List (D × Bool)} (h : AL T w σ H vs xs) : vs.length = xs.length := by
  induction h with
  | nil => rfl
  | rep _ _ ih => exact congrArg (· + 1) ih
  | new _ _ _ _ ih => exact congrArg (· + 1) ih
theorem AL.fr {vs : List V} {xs : List (D × Bool)} (h : AL T w σ H vs xs) : ∀ a ∈ frA vs xs, Free w σ H a ∧ ∃ d, CtL T w.ι w.F H a d := by
  induction h with
  | nil => intro a ha; cases ha
  | rep r _ ih => intro a ha; rw [frA_rep] at ha; exact ih a ha
  | new f c n _ ih =>
    intro a ha
    rcases List.mem_cons.mp ha with e | ha
    · subst e; exact ⟨f, _, c⟩
    · exact ih a ha
theorem Reps.al {vs : List V} {ds : List D} (r : Reps T w.ι w.F vs ds) : AL T w σ H vs (ds.map fun d => (d, false)) := by
  induction ds generalizing vs with
  | nil => cases r; exact .nil
  | cons d ds ih =>
    cases r with
    | cons r t => exact .rep r (ih t)
theorem frA_reps {vs : List V} {ds : List D} (h : vs.length = ds.length) : frA vs (ds.map fun d => (d, false)) = [] := by
  induction ds generalizing vs with
  | nil => cases vs <;> first | rfl | cases h
  | cons d ds ih =>
    cases vs with
    | nil => cases h
    | cons v vs =>
      rw [List.map_cons, frA_rep]
      exact ih (Nat.succ.inj h)
theorem AL.append {vs ws : List V} {xs ys : List (D × Bool)} (h : AL T w σ H vs xs) (h2 : AL T w σ H ws ys) (hd : frA vs xs = []) : AL T w σ H (vs ++ ws) (xs ++ ys) := by
  induction h with
  | nil => exact h2
  | rep r _ ih =>
    rw [frA_rep] at hd
    exact .rep r (ih hd)
  | new f c n _ ih => cases hd
theorem frA_append {vs ws : List V} {xs ys : List (D × Bool)} (h : vs.length = xs.length) : frA (vs ++ ws) (xs ++ ys) = frA vs xs ++ frA ws ys := by
  induction vs generalizing xs with
  | nil =>
    cases xs with
    | nil => rfl
    | cons x xs => cases h
  | cons v vs ih =>
    cases xs with
    | nil => cases h
    | cons x xs =>
      obtain ⟨d, b⟩ := x
      cases b with
      | false =>
        rw [List.cons_append, List.cons_append, frA_rep, frA_rep]
        exact ih (Nat.succ.inj h)
      | true =>
        cases v <;> first | exact congrArg (_ :: ·) (ih (Nat.succ.inj h)) | exact ih (Nat.succ.inj h)
/-- the new things of a row are known from now on -/
theorem AL.known (k : Ok T w σ H) {vs : List V} {xs : List (D × Bool)} (s : Stp w0 σ0 H0 w σ H) (h : AL T w σ H vs xs) (hn : ∀ a ∈ frA vs xs, H0 a = none) :
    ∃ w', w'.st = w.st ∧ Ok T w' σ H ∧ Stp w0 σ0 H0 w' σ H ∧ (∀ b x, w.F b = some x → w'.F b = some x) ∧ (∀ b, b ∉ frA vs xs → w'.F b = w.F b) ∧ w'.ι = w.ι ∧ Reps T w'.ι w'.F vs (xs.map (·.1)) := by
  induction h with
  | nil => exact ⟨w, rfl, k, s, fun _ _ h => h, fun _ _ => rfl, rfl, .nil⟩
  | rep r t ih =>
    rw [frA_rep] at hn
    obtain ⟨w', e, k', s', m, n, i, rs⟩ := ih hn
    refine ⟨w', e, k', s', m, fun b hb => n b (by rw [frA_rep] at hb; exact hb), i, .cons (r.mono (fun n a h => by rw [i]; exact h) m) rs⟩
  | @new a d vs xs f c hna t ih =>
    obtain ⟨w', e, k', s', m, n, i, rs⟩ := ih fun b hb => hn b (List.mem_cons_of_mem _ hb)
    have ef : w'.F a = w.F a := n a hna
    have f' : Free w' σ H a := by
      refine ⟨ef.trans f.f, by rw [i]; exact f.i, fun ⟨j, d', h1, h2⟩ => f.o ⟨j, d', ?_, h2⟩⟩
      have hs : w'.s = w.s := congrArg PC.St.s e
      rw [← hs]; exact h1
    have c' : CtL T w'.ι w'.F H a d := c.mono (fun n b h => by rw [i]; exact h) m
    obtain ⟨w2, e2, i2, k2, m2, n2, r2, u, hw2⟩ := k'.know' f' c'
    refine ⟨w2, e2.trans e, k2, ?_, fun b x h => m2 b x (m b x h), fun b hb => ?_, i2.trans i, .cons r2 (rs.mono (fun n b h => by rw [i2]; exact h) m2)⟩
    · subst hw2
      exact s'.know f'.f (.inl (hn a List.mem_cons_self))
    · have h1 : b ≠ a := fun z => hb (by subst z; exact List.mem_cons_self)
      have h2 : b ∉ frA vs xs := fun z => hb (List.mem_cons_of_mem _ z)
      rw [n2 b h1, n b h2]
end
/-- behind a row -/
def AP (T : Tb) (w : Wd) (σ : L2.St) (H : Hp) (q : Bool) (xs : List (D × Bool)) (st : PC.St) (vs : List V) (H' : Hp) : Prop :=
  ∃ w' : Wd, w'.st = st ∧ Ok T w' σ H' ∧ Stp w σ H w' σ H' ∧ (q = true → KO w σ H w' H') ∧ AL T w' σ H' vs xs ∧ ∀ a ∈ frA vs xs, H a = none
section
variable (T : Tb) (G : PC.Gl) (cf : PC.CF) (th : Option (Gs → Re)) (W : Option WX)
def tAs (es : List E) : TA := fun σ H Q => ∃ w, Ok T w σ H ∧ Rp (PC.evL G cf th es w.st) (fun xs st => ∀ vs H', AP T w σ H (PC.quietL es) xs st vs H' → Q vs H') (exK T W w σ H)
end
section
variable {X : Cx} {T : Tb} {G : PC.Gl} {cf : PC.CF} {th : Option (Gs → Re)} {W : Option WX} {w w1 : Wd} {σ : L2.St} {H H1 : Hp}
theorem AP.known {q : Bool} {xs : List (D × Bool)} {st : PC.St} {vs : List V} {H' : Hp} (h : AP T w σ H q xs st vs H') : ∃ w' : Wd, w'.st = st ∧ Ok T w' σ H' ∧ Stp w σ H w' σ H' ∧ (q = true → KO w σ H w' H') ∧ Reps T w'.ι w'.F vs (xs.map (·.1)) := by
  obtain ⟨w', e, k, s, kq, al, hn⟩ := h
  obtain ⟨w2, e2, k2, s2, _, _, i2, r⟩ := al.known k s hn
  exact ⟨w2, e2.trans e, k2, s2, fun z => (kq z).to i2, r⟩
theorem ptaImp {es : List Expr} {t t' : TA} (h : PA X es t) (i : ∀ σ H Q, t' σ H Q → t σ H Q) : PA X es t' := ⟨fun pos pins s σ H Q I q => h.run pos pins s σ H Q I (i σ H Q q)⟩
theorem evL_nil (s : PC.St) : PC.evL G cf th [] s = .ok [] s := by simp only [PC.evL]
theorem evL_star (a : E) (es : List E) (s : PC.St) : PC.evL G cf th (.star a :: es) s = (PC.lk (PC.quietL es) a s (PC.evE G cf th a s)).bind fun x s1 => (PC.opt (PC.seqLT x.1) s1).bind fun ys s2 => (PC.evL G cf th es s2).bind fun xs s3 => .ok (ys.map (fun y => (y, false)) ++ xs) s3 := by simp only [PC.evL]
theorem evL_cons {e : E} (h : ∀ a, e ≠ .star a) (es : List E) (s : PC.St) : PC.evL G cf th (e :: es) s = (PC.evE G cf th e s).bind fun x s1 => (PC.evL G cf th es s1).bind fun xs s2 => .ok (x :: xs) s2 := by
  cases e <;> first | exact absurd rfl (h _) | simp only [PC.evL]
theorem pa_nilC : PA X [] (tAs T G cf th W []) := by
  refine ptaImp pa_nil fun σ H Q ⟨w, k, h⟩ => ?_
  rw [evL_nil] at h
  exact h [] H ⟨w, rfl, k, .refl, fun _ => .refl k, .nil, fun a ha => by cases ha⟩
theorem pa_consC {c : E} {cs : List E} {e : Expr} {es : List Expr} (hc : ∀ a, c ≠ .star a) (he : PE X e (tE T G cf th W c)) (hes : PA X es (tAs T G cf th W cs)) (hs : starEach (e :: es) X.env = (false, eval e X.env) :: starEach es X.env) : PA X (e :: es) (tAs T G cf th W (c :: cs)) := by
  refine ptaImp (pa_cons he hes hs) fun σ H Q ⟨w, k, h⟩ => ?_
  rw [evL_cons hc] at h
  refine ⟨w, k, h.bind.mono (fun x s1 h1 v1 H1 ⟨w1, e1, k1, t1, q1, h2, h3⟩ => ?_) (fun _ _ _ z => z)⟩
  subst e1
  refine ⟨w1, k1, h1.bind.mono (fun xs s2 h4 vs H2 ⟨w2, e2, k2, t2, q2, al, hn⟩ => ?_) (fun _ _ _ z => z.after k1 t1)⟩
  subst e2
  obtain ⟨d, b⟩ := x
  refine h4 (v1 :: vs) H2 ⟨w2, rfl, k2, t1.trans k1 t2, fun z => (q1 (qAnd z).1).trans k k2 t2 (q2 (qAnd z).2), ?_, ?_⟩
  · cases b with
    | false => exact .rep (t2.rep (h2 rfl)) al
    | true =>
      obtain ⟨a, ea, na, f, c⟩ := h3 rfl
      subst ea
      obtain ⟨f2, c2⟩ := f.later c t2
      refine .new f2 c2 (fun z => ?_) al
      obtain ⟨o, ho, _⟩ := c.there
      rw [hn a z] at ho
      cases ho
  · intro a ha
    cases b with
    | false =>
      rw [frA_rep] at ha
      exact t1.tr a (hn a ha)
    | true =>
      obtain ⟨a', ea, na, f, c⟩ := h3 rfl
      subst ea
      rcases List.mem_cons.mp ha with z | ha
      · rw [z]; exact na
      · exact t1.tr a (hn a ha)
theorem drf_seq {g : Gs} {d : D} {ys : List D} (h : PC.seqLT d = some ys) : PC.drf g d = d := by
  cases d <;> first | rfl | cases h
/-- a list or tuple by what it holds -/
theorem Cnt.sq {v : V} {d : D} {ys : List D} (hK : T.K = X.K) (k : Ok T w σ H) (c : Cnt T w H v d) (h : PC.seqLT d = some ys) : ∃ p vs, v = .ref p ∧ (SqT X.K H p vs ∨ SqL X.K H p vs) ∧ Reps T w.ι w.F vs ys := by
  cases d with
  | lst ds =>
    obtain ⟨a, vs, rfl, ha, r⟩ := c
    cases h
    exact ⟨a, vs, rfl, .inr (.inl (.of ha)), r⟩
  | tup ds =>
    obtain ⟨a, vs, rfl, ha, r⟩ := c
    cases h
    exact ⟨a, vs, rfl, .inl (ha.sq hK k), r⟩
  | _ => cases h

/-! ### displays -/
theorem evE_tup (es : List E) (s : PC.St) : PC.evE G cf th (.tup es) s = (PC.evL G cf th es s).bind fun xs s1 => PC.opt (PC.mkT (xs.map (·.1))) s1 := by simp only [PC.evE]
theorem evE_lst (es : List E) (s : PC.St) : PC.evE G cf th (.lst es) s = (PC.evL G cf th es s).bind fun xs s1 => PC.opt (PC.mkL (xs.map (·.1))) s1 := by simp only [PC.evE]
theorem pe_tupC {cs : List E} {es : List Expr} {x1 : Nat} {pos : Pos} (h : PA X es (tAs T G cf th W cs)) : PE X (.Tuple es x1 pos) (tE T G cf th W (.tup cs)) := by
  refine peImp (pe_tup h) fun σ H Q ⟨w, k, h⟩ => ?_
  rw [evE_tup] at h
  refine ⟨w, k, h.bind.mono (fun xs s1 h1 vs H1 p => ?_) (fun _ _ _ z => z)⟩
  obtain ⟨rd, e, q⟩ := h1.opt
  obtain ⟨hz, rfl⟩ := mkT_eq e
  obtain ⟨w1, e1, k1, t1, q1, r⟩ := p.known
  subst e1
  exact ⟨by rw [r.length]; exact hz, fun p hp => q _ _ ((RN.tup hp r).ep k k1 t1 q1)⟩
theorem pe_lstC {cs : List E} {es : List Expr} {pos : Pos} (h : PA X es (tAs T G cf th W cs)) : PE X (.List es pos) (tE T G cf th W (.lst cs)) := by
  refine peImp (pe_lst h) fun σ H Q ⟨w, k, h⟩ => ?_
  rw [evE_lst] at h
  refine ⟨w, k, h.bind.mono (fun xs s1 h1 vs H1 p => ?_) (fun _ _ _ z => z)⟩
  obtain ⟨rd, e, q⟩ := h1.opt
  obtain ⟨hz, rfl⟩ := mkL_eq e
  obtain ⟨w1, e1, k1, t1, q1, r⟩ := p.known
  subst e1
  exact ⟨by rw [r.length]; exact hz, fun p hp => q _ _ ((RN.lst hp r).ep k k1 t1 q1)⟩
theorem pa_starC (hK : T.K = X.K) {c : E} {cs : List E} {e : Expr} {es : List Expr} {p : Pos} (he : PE X e (tL T G cf th W (PC.quietL cs) c)) (hes : PA X es (tAs T G cf th W cs)) (hs : starEach (.Starred e p :: es) X.env = (true, eval e X.env) :: starEach es X.env) :
    PA X (.Starred e p :: es) (tAs T G cf th W (.star c :: cs)) := by
  refine ptaImp (StX.pa_star he hes hs) fun σ H Q ⟨w, k, h⟩ => ?_
  rw [evL_star] at h
  refine ⟨w, k, h.bind.mono (fun x s1 h v1 H1 ⟨w1, e1, k1, t1, q1, o1, p1⟩ => ?_) (fun _ _ _ z => z)⟩
  subst e1
  obtain ⟨ys, ey, h⟩ := Rp.opt (Rp.bind h)
  have cn := o1.cnt k1
  rw [drf_seq ey] at cn
  obtain ⟨p, vs, rfl, sq, r⟩ := cn.sq hK k1 ey
  refine ⟨p, vs, rfl, sq, w1, k1, (Rp.bind h).mono (fun xs s2 h4 ws H2 ⟨w2, e2, k2, t2, q2, al, hn⟩ => ?_) (fun _ _ _ z => z.after k1 t1)⟩
  subst e2
  have r2 := t2.reps r
  refine h4 (vs ++ ws) H2 ⟨w2, rfl, k2, t1.trans k1 t2, fun z => (q1 (qAnd z).1).trans k k2 t2 (q2 (qAnd z).2), (r2.al).append al (frA_reps r2.length), ?_⟩
  intro a ha
  rw [frA_append (by rw [List.length_map]; exact r2.length), frA_reps r2.length, List.nil_append] at ha
  exact t1.tr a (hn a ha)
end
end Br
end

section
set_option Elab.async false
set_option linter.all false
set_option maxRecDepth 100000
set_option maxHeartbeats 1000000
/-! Br9: dicts in a row, sorted. -/
namespace Br
open PySem PySem.Spec PySem.Calls PyProof.Rows L2
open PC (D E S Sl Cl Sg Gs Rs Re)

/-- a result, the world may know more -/
def RG (T : Tb) (w : Wd) (σ : L2.St) (H : Hp) (rd : D × Bool) (v : V) (H' : Hp) : Prop := ∃ w1 : Wd, w1.st = w.st ∧ w1.ι = w.ι ∧ Ok T w1 σ H ∧ Stp w σ H w1 σ H ∧ RN T w1 H rd v H'
section
variable {T : Tb} {w w1 : Wd} {σ : L2.St} {H H1 : Hp}
theorem RG.of {rd : D × Bool} {v : V} {H' : Hp} (k : Ok T w σ H) (h : RN T w H rd v H') : RG T w σ H rd v H' := ⟨w, rfl, rfl, k, .refl, h⟩
theorem RG.ep {q : Bool} {rd : D × Bool} {v : V} {H' : Hp} (k : Ok T w σ H) (k1 : Ok T w1 σ H1) (s1 : Stp w σ H w1 σ H1) (kq : q = true → KO w σ H w1 H1) (h : RG T w1 σ H1 rd v H') : EP T w σ H q rd w1.st v H' := by
  obtain ⟨w2, e, i, k2, s2, r⟩ := h
  rw [← e]
  exact r.ep k k2 (s1.trans k1 s2) fun z => (kq z).to i
/-- tuples that are keys are known from now on -/
theorem know_tups : ∀ (bs : List Addr) (kss : List (List Key)) {w : Wd}, Ok T w σ H → Paired (fun b ks => H b = some (.tup (ks.map kV))) bs kss →
    ∃ w1 : Wd, w1.st = w.st ∧ w1.ι = w.ι ∧ Ok T w1 σ H ∧ Stp w σ H w1 σ H ∧ Reps T w1.ι w1.F (bs.map V.ref) (kss.map fun ks => .tup (ks.map keyD))
  | [], [], w, k, _ => ⟨w, rfl, rfl, k, .refl, .nil⟩
  | b :: bs, ks :: kss, w, k, .cons h t => by
    obtain ⟨w1, e1, i1, k1, s1, r1⟩ := know_tups bs kss k t
    cases f : w1.F b with
    | some u =>
      have hu : u = .tup (ks.map kV) := by
        rcases k1.sub b u f with z | ⟨_, o, z⟩
        · rw [h] at z
          exact (Option.some.inj z).symm
        · rw [h] at z
          cases z
      subst hu
      exact ⟨w1, e1, i1, k1, s1, .cons (.tup f (reps_keys ks)) r1⟩
    | none =>
      refine ⟨w1.know b (.tup (ks.map kV)), e1, i1, k1.know (k1.free_tup h f) h rfl, s1.know f (.inr ⟨_, h, rfl⟩), .cons (.tup (show upd w1.F b _ b = _ from upd_same) (reps_keys ks)) (r1.mono (fun _ _ h => h) (know_mono f))⟩
  | [], _ :: _, _, _, h => nomatch h
  | _ :: _, [], _, _, h => nomatch h
variable {X : Cx} {σ' : L2.St} {pins : List (Addr × Obj)} {s : Shared}
theorem keys_rel : ∀ {es : List DictEntry} {vs : List (Key × Value)}, Pairs (mixKind X.prog X.w) es vs → Vals (vs.map fun p => kV p.1) (es.map (·.key))
  | [], [], _ => .nil
  | e :: es, (k, x) :: vs, h => by
    cases h with
    | cons h1 h2 h3 => exact .cons (keyIs_rel h1) (keys_rel h3)
  | [], _ :: _, h => nomatch h
  | _ :: _, [], h => nomatch h
theorem repK_keys {ι : List Addr} {F : Hp} : ∀ {es : List (Key × V)} {kvs : List (D × D)}, RepK T ι F es kvs → kvs.map (·.1) = (es.map (·.1)).map keyD
  | _, _, .nil => rfl
  | _, _, .cons _ t => by
    rw [List.map_cons, List.map_cons, List.map_cons, repK_keys t]
theorem repT_keys {ι : List Addr} {F : Hp} : ∀ {es : List (List Key × V)} {kvs : List (D × D)}, RepT T ι F es kvs → kvs.map (·.1) = (es.map (·.1)).map fun ks => D.tup (ks.map keyD)
  | _, _, .nil => rfl
  | _, _, .cons _ t => by
    rw [List.map_cons, List.map_cons, List.map_cons, repT_keys t]
theorem kt_pair {H : Hp} : ∀ {kvs : List (List Key × V)} {xs : List (List Key × Addr × Value)}, KT H kvs xs → Paired (fun b ks => H b = some (.tup (ks.map kV))) (xs.map fun x => x.2.1) (kvs.map (·.1))
  | _, _, .nil => .nil
  | _, _, .cons h t => .cons h.2.1 (kt_pair t)
/-- a dict as it stands, its keys in a row -/
theorem dict_raw (I : Inv X pins σ' H s) (k : Ok T w σ H) {v : V} {kvs : List (D × D)} (c : Cnt T w H v (.dct kvs)) :
    ∃ (a : Addr) (o : Obj) (es : Array DictEntry) (ep : Nat), v = .ref a ∧ (a == sysModules) = false ∧ s.heap.get? a = some o ∧ o.ExactDict ∧ o.data = .dict es ep ∧ es.size = kvs.length ∧ es.size ≤ sizeLine ∧
      ∃ w1 : Wd, w1.st = w.st ∧ w1.ι = w.ι ∧ Ok T w1 σ H ∧ Stp w σ H w1 σ H ∧ ∃ vs : List V, Vals vs (es.toList.map (·.key)) ∧ Reps T w1.ι w1.F vs (kvs.map (·.1)) := by
  obtain ⟨a, rfl, ⟨es0, r, q⟩ | ⟨es0, r, q⟩⟩ := c
  · obtain ⟨z, hd, vs, rel, o, es, ep, g, ex, e, _, p, _⟩ := (show ObjOk X.prog X.w H s.heap a (.dK es0) from rd_of I.hok r)
    have hs : es.size = kvs.length := by rw [← repK_len q, rel.length, ← p.length, Array.length_toList]
    have hm : vs.map (fun p => kV p.1) = (es0.map (·.1)).map kV := by rw [rel.keys, List.map_map]; rfl
    refine ⟨a, o, es, ep, rfl, hd, g, ex, e, hs, by rw [hs, ← repK_len q]; exact z, w, rfl, rfl, k, .refl, _, keys_rel (X := X) p, ?_⟩
    rw [hm, repK_keys q]
    exact reps_keys _
  · obtain ⟨z, hd, xs, rel, o, es, ep, g, ex, e, p, _⟩ := (show ObjOk X.prog X.w H s.heap a (.dT es0) from rd_of I.hok r)
    have hs : es.size = kvs.length := by rw [← repT_len q, Paired.length rel, ← Array.length_toList, p, List.length_map]
    obtain ⟨w1, e1, i1, k1, s1, r1⟩ := know_tups (xs.map fun x => x.2.1) (es0.map (·.1)) k (kt_pair rel)
    refine ⟨a, o, es, ep, rfl, hd, g, ex, e, hs, by rw [hs, ← repT_len q]; exact z, w1, e1, i1, k1, s1, _, ?_, by rw [repT_keys q]; exact r1⟩
    have hk : es.toList.map (·.key) = (xs.map fun x => x.2.1).map Value.ref := by
      rw [p, List.map_map, List.map_map]; rfl
    rw [hk]
    exact vals_refs _
/-! ### a row off a dict -/
theorem items_raw {es : Array DictEntry} {acc : Array Value} (h : ItemsOf (fun i v => ∃ en : DictEntry, es[i]? = some en ∧ v = en.key) acc es.size) : acc.toList = es.toList.map (·.key) := by
  apply List.ext_getElem?
  intro j
  rw [List.getElem?_map, Array.getElem?_toList, Array.getElem?_toList]
  cases hj : acc[j]? with
  | none =>
    have h1 := Array.getElem?_eq_none_iff.mp hj
    rw [Array.getElem?_eq_none (by rw [h.1] at h1; exact h1)]
    rfl
  | some v =>
    obtain ⟨en, hen, hv⟩ := h.2 j v hj
    rw [hen, hv]
    rfl
section
variable {prog : Program} {ww : World} {A : Around} {Ex : Value → Shared → Prop} {r d : Addr} {n : Nat} {P : Nat → Value → Prop} {OK : Heap → Prop}
theorem code_tuple_kdl {Q : Value → Shared → Prop} (K : PySem.W.KdlSrc prog ww "dict" r d n P OK) (hT : s.TypeIs (.ref r) "dict") (hh : A.handled = none) (hok : OK s.heap) (hn : n ≤ sizeLine)
    (h : ∀ (h' : Heap) (tk : Nat) (acc : Array Value), (∀ b o, s.heap.get? b = some o → h'.get? b = some o) → ItemsOf P acc n → Q (.ref h'.objs.size) { s with heap := h'.push { cls := .type "tuple", data := .seq acc }, toks := tk }) :
    codeAny (model prog ww) A (.call (.builtin "tuple.__new__") ⟨[.type "tuple", .ref r], []⟩) (wants Q Ex) s := by
  refine codeAny_of_tree (show wpAny _ A.in1 (do checkBuiltinCall "tuple.__new__" ⟨[.type "tuple", .ref r], []⟩; again (.builtin "tuple.__new__" ⟨[.type "tuple", .ref r], []⟩)) _ _ s from ?_)
  refine wpAny_bind (wpAny_of_eq (F.newCall_tuple_1 _) (wpAny_pure ⟨plainId_quiet F.plain_tuple_new _, codeAny_builtin F.entry_tuple_new (by
    rw [Around.under_plainId F.plain_tuple_new _]
    have hsub := sub_tuple_self
    have hinit := init_tuple_lookup
    have hmh := madeHere_tuple
    have hA : A.in1.handled = none := hh
    wp_walk using wpAny_typeOf hT, PySem.W.kdu_collect (A := A.in1) K hA hok hn
    intro h' tk acc hk hacc
    show wpAny _ _ (Builtin.Tuple.tupleExact acc.toList.toArray >>= fun v => ret v) _ _ _
    unfold Builtin.Tuple.tupleExact
    refine wpAny_bind (wpAny_newObj_type (wpAny_pure ?_) (by show acc.toList.toArray.size ≤ sizeLine; simp only [Array.toArray_toList]; rw [hacc.1]; exact hn))
    have e : acc.toList.toArray = acc := by simp
    rw [e]
    exact h h' tk acc hk hacc)⟩))
theorem call_tuple_kdl {Q : Value → Shared → Prop} (K : PySem.W.KdlSrc prog ww "dict" r d n P OK) (hT : s.TypeIs (.ref r) "dict") (hh : A.handled = none) (hok : OK s.heap) (hn : n ≤ sizeLine)
    (h : ∀ (h' : Heap) (tk : Nat) (acc : Array Value), (∀ b o, s.heap.get? b = some o → h'.get? b = some o) → ItemsOf P acc n → Q (.ref h'.objs.size) { s with heap := h'.push { cls := .type "tuple", data := .seq acc }, toks := tk }) :
    wpAny (model prog ww) A (call (.type "tuple") [.ref r]) Q Ex s := by
  refine callType_codes (Q₁ := fun obj s₁ => s₁.TypeIs obj "tuple" ∧ Q obj s₁) F.called_tuple (F.typeCall_tuple_1 _) F.entry_object_init
    (code_tuple_kdl (A := A.in1) K hT hh hok hn fun h' tk acc hk hacc => ⟨⟨_, Heap.get?_push_size _ rfl, rfl⟩, h h' tk acc hk hacc⟩) fun obj s₁ h₁ => ⟨h₁.1, F.args_object_init_2 obj _, object_init_meets F.called_tuple.init.lookup F.called_tuple.made (by decide) prog ww A.in1 _ s₁ ⟨h₁.1, rfl, h₁.2⟩⟩
end
/-- tuple(d) -/
theorem tuple_dct (hc : X.calm = true) : CallR X (.type "tuple") (fun xs H Q => ∃ w σ v kvs, xs = [v] ∧ Ok T w σ H ∧ Cnt T w H v (.dct kvs) ∧ ∀ v' H', RG T w σ H (.tup (kvs.map (·.1)), false) v' H' → Q v' H') := by
  intro pins s σ' H xs us Q I r h
  obtain ⟨w, σ, v, kvs, rfl, k, c, q⟩ := h
  obtain ⟨u, rfl, rx⟩ := vals1 r
  obtain ⟨a, o, es, ep, rfl, hd, g, ex, e, hs, hz, w1, e1, i1, k1, s1, vs, rv, rr⟩ := dict_raw I k c
  cases rx
  refine call_tuple_kdl (kdl_raw hd ex e) ⟨o, g, ex.1⟩ (I.ok.hd hc) g hz fun h' tk acc hk hacc => ?_
  have hv : Vals vs acc.toList := by rw [items_raw hacc]; exact rv
  have I1 : Inv X pins σ' H { s with heap := h', toks := tk } := I.kept hk
  have hl : vs.length ≤ sizeLine := by rw [hv.length, Array.length_toList, hacc.1]; exact hz
  have hn : H h'.objs.size = none := I1.hok.fresh (Nat.le_refl _)
  exact ⟨.ref h'.objs.size, upd H h'.objs.size (.tup vs), I1.laid (t' := tk) (fun b o e => Heap.get?_push_of_some _ e) (Nat.le_refl _) (show ObjOk X.prog X.w _ _ _ (.tup vs) from ⟨hl, acc.toList, hv, by rw [Array.toArray_toList]; exact IsTup.new _ _⟩), rfl, q _ _ ⟨w1, e1, i1, k1, s1, .tup hn rr⟩⟩
/-- list(d) -/
theorem list_dct (hc : X.calm = true) : CallR X (.type "list") (fun xs H Q => ∃ w σ v kvs, xs = [v] ∧ Ok T w σ H ∧ Cnt T w H v (.dct kvs) ∧ ∀ v' H', RG T w σ H (.lst (kvs.map (·.1)), true) v' H' → Q v' H') := by
  intro pins s σ' H xs us Q I r h
  obtain ⟨w, σ, v, kvs, rfl, k, c, q⟩ := h
  obtain ⟨u, rfl, rx⟩ := vals1 r
  obtain ⟨a, o, es, ep, rfl, hd, g, ex, e, hs, hz, w1, e1, i1, k1, s1, vs, rv, rr⟩ := dict_raw I k c
  cases rx
  refine PySem.W.kdl_call (kdl_raw hd ex e) (I.ok.hd hc) g hz fun h' tk acc c' hk hS hacc => ?_
  have hv : Vals vs acc.toList := by rw [items_raw hacc]; exact rv
  have hl : vs.length ≤ sizeLine := by rw [hv.length, Array.length_toList, hacc.1]; exact hz
  have hn : H s.heap.objs.size = none := I.hok.fresh (Nat.le_refl _)
  exact ⟨.ref s.heap.objs.size, upd H s.heap.objs.size (.lst vs), I.laid (t' := tk) hk (Nat.le_refl _) (show ObjOk X.prog X.w _ _ _ (.lst vs) from ⟨hl, acc.toList, c', hv, by rw [Array.toArray_toList]; exact hS⟩), rfl, q _ _ ⟨w1, e1, i1, k1, s1, .lst hn rr⟩⟩
end
end Br
end

section
set_option Elab.async false
set_option linter.all false
set_option maxRecDepth 100000
set_option maxHeartbeats 1000000
/-! Br10: sorted. -/
namespace Br
open PySem PySem.Spec PySem.Calls PyProof.Rows L2
open PC (D E S Sl Cl Sg Gs Rs Re)

/-! ### the order -/
mutual
theorem toks_py : ∀ d : D, PySem.W.keyToks (toPy d) = PC.toksD d
  | .non => rfl
  | .bl _ => rfl
  | .int _ => rfl
  | .str _ => rfl
  | .lst xs => toksL_py xs
  | .tup xs => toksL_py xs
  | .dct _ => rfl
  | .obj _ _ => rfl
  | .cell _ => rfl
  | .exc _ _ => rfl
  | .scr _ => rfl
theorem toksL_py : ∀ xs : List D, PySem.W.keyToksAll (toPyL xs) = PC.toksL xs
  | [] => rfl
  | x :: xs => by
    show Sum.inl 1 :: (PySem.W.keyToks (toPy x) ++ PySem.W.keyToksAll (toPyL xs)) = Sum.inl 1 :: (PC.toksD x ++ PC.toksL xs)
    rw [toks_py x, toksL_py xs]
end
theorem strLt_blt : ∀ a b : List Nat, strKind.blt a b = PC.strLt a b := fun a b => by
  rw [strLt_lt]
theorem tok_lt (a b : Sum Int (List Nat)) : PyProof.Rows.itemOrd.blt a b = PC.ltTok a b := by
  cases a <;> cases b <;> first | rfl | exact strLt_blt _ _
theorem toks_lt : ∀ a b : List (Sum Int (List Nat)), PyProof.Rows.lexLt PyProof.Rows.itemOrd a b = PC.ltToks a b
  | [], [] => rfl
  | [], _ :: _ => rfl
  | _ :: _, [] => rfl
  | x :: r, y :: t => by
    show (PyProof.Rows.itemOrd.blt x y || (!PyProof.Rows.itemOrd.blt y x && PyProof.Rows.lexLt PyProof.Rows.itemOrd r t)) = (PC.ltTok x y || (!PC.ltTok y x && PC.ltToks r t))
    rw [tok_lt, tok_lt, toks_lt r t]
theorem le_py {β : Type} (k : β → D) (a b : β) : PySem.W.dataLe false (fun x => toPy (k x)) a b = PC.leD (k a) (k b) := by
  rw [PySem.W.dataLe_eq]
  show (!PyProof.Rows.lexLt PyProof.Rows.itemOrd (PySem.W.keyToks (toPy (k b))) (PySem.W.keyToks (toPy (k a)))) = _
  rw [toks_lt, toks_py, toks_py]
  rfl
mutual
theorem alike_py : ∀ a b : D, PC.alikeD a b = true → PySem.W.alike (toPy a) (toPy b) = true
  | .lst xs, .lst ys, h => alikeL_py xs ys h
  | .tup xs, .tup ys, h => alikeL_py xs ys h
  | .non, b, h => by cases b <;> first | rfl | cases h
  | .bl _, b, h => by cases b <;> first | rfl | cases h
  | .int _, b, h => by cases b <;> first | rfl | cases h
  | .str _, b, h => by cases b <;> first | rfl | cases h
  | .lst _, .non, h => nomatch h
  | .lst _, .bl _, h => nomatch h
  | .lst _, .int _, h => nomatch h
  | .lst _, .str _, h => nomatch h
  | .lst _, .tup _, h => nomatch h
  | .lst _, .dct _, h => nomatch h
  | .lst _, .obj _ _, h => nomatch h
  | .lst _, .cell _, h => nomatch h
  | .lst _, .exc _ _, h => nomatch h
  | .tup _, .non, h => nomatch h
  | .tup _, .bl _, h => nomatch h
  | .tup _, .int _, h => nomatch h
  | .tup _, .str _, h => nomatch h
  | .tup _, .lst _, h => nomatch h
  | .tup _, .dct _, h => nomatch h
  | .tup _, .obj _ _, h => nomatch h
  | .tup _, .cell _, h => nomatch h
  | .tup _, .exc _ _, h => nomatch h
  | .dct _, b, h => by cases b <;> cases h
  | .obj _ _, b, h => by cases b <;> cases h
  | .cell _, b, h => by cases b <;> cases h
  | .exc _ _, b, h => by cases b <;> cases h
theorem alikeL_py : ∀ a b : List D, PC.alikeL a b = true → PySem.W.alikeAll (toPyL a) (toPyL b) = true
  | [], _, _ => by simp only [toPyL, PySem.W.alikeAll]
  | _ :: _, [], _ => by simp only [toPyL, PySem.W.alikeAll]
  | x :: xs, y :: ys, h => by
    obtain ⟨h1, h2⟩ := Bool.and_eq_true_iff.mp (show (PC.alikeD x y && PC.alikeL xs ys) = true from h)
    show PySem.W.alikeAll (toPy x :: toPyL xs) (toPy y :: toPyL ys) = true
    rw [PySem.W.alikeAll, alike_py x y h1, alikeL_py xs ys h2]
    rfl
end
theorem shpL_mem {n : Nat} : ∀ {l : List D}, PC.shpL n l = true → ∀ d ∈ l, PC.shp n d = true
  | [], _, d, h => by cases h
  | x :: xs, h, d, hd => by
    obtain ⟨h1, h2⟩ := Bool.and_eq_true_iff.mp (show (PC.shp n x && PC.shpL n xs) = true from h)
    rcases List.mem_cons.mp hd with e | hd
    · rw [e]; exact h1
    · exact shpL_mem h2 d hd
theorem sortable_of {l : List D} (h : PC.sortable l = true) : (PySem.W.AllAlike (l.map toPy)) ∧ PySem.W.Sortable (l.map toPy) ∧ ∀ d ∈ l, PC.shp 40 d = true := by
  unfold PC.sortable at h
  rw [Bool.and_eq_true, Bool.and_eq_true, Bool.or_eq_true] at h
  obtain ⟨⟨h1, h2⟩, h3⟩ := h
  have hm := shpL_mem h3
  refine ⟨fun a ha b hb => ?_, ?_, hm⟩
  · obtain ⟨x, hx, rfl⟩ := List.mem_map.mp ha
    obtain ⟨y, hy, rfl⟩ := List.mem_map.mp hb
    exact alike_py x y (List.all_eq_true.mp (List.all_eq_true.mp h1 x hx) y hy)
  · rcases h2 with h2 | h2
    · refine .inl fun a ha => ?_
      obtain ⟨x, hx, rfl⟩ := List.mem_map.mp ha
      have z := List.all_eq_true.mp h2 x hx
      cases x <;> try (cases z; done)
      rename_i xs
      cases xs with
      | nil => cases z
      | cons y ys => exact ⟨_, _, rfl⟩
    · refine .inr fun a ha => ?_
      obtain ⟨x, hx, rfl⟩ := List.mem_map.mp ha
      have z := List.all_eq_true.mp h2 x hx
      have y := hm x hx
      cases x <;> first | (cases z; done) | exact absurd y shp_dct | exact absurd y shp_obj | exact absurd y shp_cell | exact absurd y shp_exc | exact absurd y shp_scr | (refine ⟨?_, ?_⟩ <;> intros <;> intro e <;> cases e)
section
variable {T : Tb} {w w1 : Wd} {σ σ' : L2.St} {H H1 : Hp} {X : Cx} {pins : List (Addr × Obj)} {s : Shared}
theorem each_of {ι : List Addr} {F : Hp} : ∀ {vs : List V} {us : List Value} {ds : List D}, Vals vs us → Reps T ι F vs ds → PySem.W.EachIs (fun (u : Value) (p : V × D) => RelV p.1 u ∧ Rep T ι F p.1 p.2) us (vs.zip ds)
  | _, _, _, .nil, .nil => .nil
  | _, _, _, .cons r t, .cons q u => .cons ⟨r, q⟩ (each_of t u)
theorem zip_snd {ι : List Addr} {F : Hp} : ∀ {vs : List V} {ds : List D}, Reps T ι F vs ds → (vs.zip ds).map (·.2) = ds
  | _, _, .nil => rfl
  | _, _, .cons _ t => by rw [List.zip_cons_cons, List.map_cons, zip_snd t]
theorem of_each {ι : List Addr} {F : Hp} : ∀ {us : List Value} {ps : List (V × D)}, PySem.W.EachIs (fun (u : Value) (p : V × D) => RelV p.1 u ∧ Rep T ι F p.1 p.2) us ps → Vals (ps.map (·.1)) us ∧ Reps T ι F (ps.map (·.1)) (ps.map (·.2))
  | _, _, .nil => ⟨.nil, .nil⟩
  | _, _, .cons h t => let ⟨a, b⟩ := of_each t; ⟨.cons h.1 a, .cons h.2 b⟩
theorem each_reads (hK : T.K = X.K) (I : Inv X pins σ' H s) (k : Ok T w σ H) : ∀ {vs : List V} {us : List Value} {ds : List D}, Vals vs us → Reps T w.ι w.F vs ds → (∀ d ∈ ds, PC.shp 40 d = true) →
    PySem.W.EachIs (fun (u : Value) (p : V × D) => ∃ as, Reads s.heap u (toPy p.2) as) us (vs.zip ds)
  | _, _, _, .nil, .nil, _ => .nil
  | _, _, _, .cons r t, .cons q u, h => .cons (Dp.reads I _ _ _ (q.dp hK k _ _ (h _ List.mem_cons_self)) r) (each_reads hK I k t u fun d hd => h d (List.mem_cons_of_mem _ hd))
/-- sorted of what can be collected -/
theorem sorted_coll (hK : T.K = X.K) (hu : X.A.units + 65 < cLine) {v : Value} {vs : List V} {ds out : List D} {Q : VK} (I : Inv X pins σ' H s) (k1 : Ok T w1 σ H) (r : Reps T w1.ι w1.F vs ds)
    (hcol : ∀ (R : List Value → Shared → Prop), (∀ (h' : Heap) (tk : Nat) (us : List Value), (∀ b o, s.heap.get? b = some o → h'.get? b = some o) → Vals vs us → us.length ≤ sizeLine → R us { s with heap := h', toks := tk }) → wpAny (model X.prog X.w) X.A.in1 (collect v) R X.xe s)
    (hs : PC.sortD id ds = some out) (q : ∀ v' H', RN T w1 H (.lst out, true) v' H' → Q v' H') : wpAny (model X.prog X.w) X.A (call (.builtin "sorted") [v]) (L2.EP X pins σ' Q) X.xe s := by
  unfold PC.sortD at hs
  split at hs
  · rename_i hc
    have hs := Option.some.inj hs
    rw [Bool.and_eq_true, List.map_id] at hc
    obtain ⟨hal, hso, hsh⟩ := sortable_of hc.1
    refine Calls.call_function_entry PyProof.Rows.kind_sorted PyProof.Rows.plain_sorted PyProof.Rows.entry_sorted (PyProof.Rows.args_sorted1 _) ?_
    unfold Builtin.«sorted»
    refine wpAny_bind (m := checkCount "sorted" 1 1 _) (wpAny_pure (wpAny_bind (hcol _ fun h' tk us hk rv hz => ?_)))
    have I1 : Inv X pins σ' H { s with heap := h', toks := tk } := I.kept hk
    refine wpAny_bind (wpAny_newList ?_ hz)
    have hoL : (h'.push (seqObj "list" us.toArray 0)).get? h'.objs.size = some (seqObj "list" us.toArray 0) := Heap.get?_push_size _ rfl
    show wpAny _ _ _ _ _ { s with heap := h'.push (seqObj "list" us.toArray 0), toks := tk }
    have e := each_of rv r
    have er0 := each_reads hK I1 k1 rv r hsh
    have old : ∀ b o, h'.get? b = some o → (PySem.W.sortingHeap (h'.push (seqObj "list" us.toArray 0)) h'.objs.size us).get? b = some o := fun b o hb => by
      rw [PySem.W.sortingHeap_old (Nat.ne_of_lt (Heap.lt_size hb)) (Heap.get?_push_of_some _ hb)]
    have er : PySem.W.EachIs (fun (u : Value) (p : V × D) => ∃ as, Reads (PySem.W.sortingHeap (h'.push (seqObj "list" us.toArray 0)) h'.objs.size us) u (toPy p.2) as) us (vs.zip ds) :=
      er0.mono fun u p ⟨as, hr⟩ => ⟨as, PyProof.Rows.Reads.keeps old hr⟩
    have ez : (vs.zip ds).map (fun p : V × D => toPy p.2) = ds.map toPy := by
      rw [← zip_snd r, List.map_map, zip_snd r]; rfl
    have hal' : PySem.W.AllAlike ((vs.zip ds).map fun p : V × D => toPy p.2) := by rw [ez]; exact hal
    have hso' : PySem.W.Sortable ((vs.zip ds).map fun p : V × D => toPy p.2) := by rw [ez]; exact hso
    have hL : us.length ≤ sizeLine := hz
    have hb : ∀ d, d ∈ (vs.zip ds).map (fun p : V × D => toPy p.2) → X.A.in1.in1.units + d.depth < cLine := fun d hd => by
      rw [ez] at hd
      obtain ⟨x, hx, rfl⟩ := List.mem_map.mp hd
      have := (shp_py x 40 (hsh x hx)).2
      show X.A.units + 1 + 1 + _ < _
      omega
    refine wpAny_bind (wpAny_holding (wpAny_call_entry PyProof.Rows.slot_list_sort ⟨_, hoL, rfl⟩ PyProof.Rows.entry_list_sort
      (PySem.W.list_sort_vals (κ := PySem.W.dataKind (PySem.W.sortingHeap (h'.push (seqObj "list" us.toArray 0)) h'.objs.size us) ((vs.zip ds).map fun p : V × D => toPy p.2)) hoL
        (PySem.W.SortsAt.data (s := { s with heap := PySem.W.sortingHeap (h'.push (seqObj "list" us.toArray 0)) h'.objs.size us, toks := tk }) (PySem.W.each_map (R := fun v d => ∃ as, Reads (PySem.W.sortingHeap (h'.push (seqObj "list" us.toArray 0)) h'.objs.size us) v d as) (fun p : V × D => toPy p.2) er) hal' hso' hb) hL ⟨_, rfl, ?_⟩) (PyProof.Rows.args_list_sort _)))
    have eo := PySem.W.sortVals_data false e er hal'
    obtain ⟨rv2, rr2⟩ := of_each eo
    have hle : (fun a b : V × D => PySem.W.dataLe false (fun p : V × D => toPy p.2) a b) = fun a b => PC.leD a.2 b.2 := by
      funext a b
      exact le_py (fun p : V × D => p.2) a b
    have hout : ((vs.zip ds).mergeSort (PySem.W.dataLe false fun p : V × D => toPy p.2)).map (·.2) = out := by
      rw [← hs]
      have z := List.map_mergeSort (r := PySem.W.dataLe false fun p : V × D => toPy p.2) (s := fun a b => PC.leD (id a) (id b)) (f := fun p : V × D => p.2) (l := vs.zip ds) (fun a _ b _ => congrFun (congrFun hle a) b)
      rw [z, zip_snd r]
    rw [hout] at rr2
    obtain ⟨e', he'⟩ := PyProof.Rows.sortedHeap_at (vs := us) (out := (PySem.W.sortVals (PySem.W.dataKind (PySem.W.sortingHeap (h'.push (seqObj "list" us.toArray 0)) h'.objs.size us) ((vs.zip ds).map fun p : V × D => toPy p.2)) false us us).toArray) hoL
    have hn : H h'.objs.size = none := I1.hok.fresh (Nat.le_refl _)
    have hlen : (((vs.zip ds).mergeSort (PySem.W.dataLe false fun p : V × D => toPy p.2)).map (·.1)).length ≤ sizeLine := by
      rw [List.length_map, List.length_mergeSort, List.length_zip, ← rv.length] at *
      omega
    refine wpAny_pure ⟨_, rfl, .ref h'.objs.size, upd H h'.objs.size (.lst _), I1.laid (t' := tk) (fun b u eb => ?_) (Nat.le_refl _)
      (show ObjOk X.prog X.w _ _ _ (.lst (((vs.zip ds).mergeSort (PySem.W.dataLe false fun p : V × D => toPy p.2)).map (·.1))) from ⟨hlen, _, e', rv2, he'⟩), rfl, q _ _ (.lst hn rr2)⟩
    have hb : b < h'.objs.size := Heap.lt_size eb
    rw [PyProof.Rows.sortedHeap_old (Nat.ne_of_lt hb) (by rw [size_push']; exact Nat.lt_succ_of_lt hb)]
    exact Heap.get?_push_of_some _ eb
  · cases hs
end
end Br
end

section
set_option Elab.async false
set_option linter.all false
set_option maxRecDepth 100000
set_option maxHeartbeats 1000000
/-! Br11: built-ins by values. -/
namespace Br
open PySem PySem.Spec PySem.Calls PyProof.Rows L2
open PC (D E S Sl Cl Sg Gs Rs Re)

/-- values by what they hold -/
inductive CntL (T : Tb) (w : Wd) (H : Hp) : List V → List D → Prop
  | nil : CntL T w H [] []
  | cons {v : V} {d : D} {vs : List V} {ds : List D} : Cnt T w H v d → CntL T w H vs ds → CntL T w H (v :: vs) (d :: ds)
section
variable {T : Tb} {w w1 : Wd} {σ σ' : L2.St} {H H1 : Hp} {X : Cx} {pins : List (Addr × Obj)} {s : Shared}
def biVal : PC.Bi → Value
  | .len => .builtin "len"
  | .tuple => .type "tuple"
  | .list => .type "list"
  | .dict => .type "dict"
  | .sorted => .builtin "sorted"
  | .all => .builtin "all"
  | .any => .builtin "any"
  | .abs => .builtin "abs"
  | .int => .type "int"
  | .str => .type "str"
  | .repr => .builtin "repr"
  | .bool => .type "bool"
  | .max2 => .builtin "max"
  | .min2 => .builtin "min"
  | .max => .builtin "max"
  | .min => .builtin "min"
  | .divmod => .builtin "divmod"
  | .lenset => .none
  | .sortedset => .none
def rBi (T : Tb) (b : PC.Bi) : List V → Hp → VK → Prop := fun xs H Q => ∃ w σ ds rd, Ok T w σ H ∧ CntL T w H xs ds ∧ PC.biD b ds = some rd ∧ ∀ v H', RG T w σ H rd v H' → Q v H'
theorem CntL.one {xs : List V} {d : D} (h : CntL T w H xs [d]) : ∃ v, xs = [v] ∧ Cnt T w H v d := by
  cases h with
  | cons h t => cases t; exact ⟨_, rfl, h⟩
theorem CntL.two {xs : List V} {d e : D} (h : CntL T w H xs [d, e]) : ∃ v u, xs = [v, u] ∧ Cnt T w H v d ∧ Cnt T w H u e := by
  cases h with
  | cons h t => cases t with
    | cons h2 t2 => cases t2; exact ⟨_, _, rfl, h, h2⟩
theorem CntL.any1 {xs : List V} {ds : List D} (h : CntL T w H xs ds) : xs.length = ds.length := by
  induction h with
  | nil => rfl
  | cons _ _ ih => exact congrArg (· + 1) ih
theorem big_le {n : Nat} (h : n ≤ PC.big) : n ≤ sizeLine := by rw [← big_eq]; exact h
theorem bi_len (hK : T.K = X.K) : CallR X (.builtin "len") (rBi T .len) := by
  intro pins s σ' H xs us Q I r h
  obtain ⟨w, σ, ds, rd, k, c, e, q⟩ := h
  match ds, c, e with
  | [.str x], c, e =>
    obtain ⟨v, rfl, c1⟩ := c.one
    simp only [PC.biD] at e
    split at e
    · rename_i hz
      cases e
      cases c1 with
      | str x => exact call_len pins s σ' H _ us Q I r ⟨_, _, rfl, ⟨by rw [len_str]; exact big_le hz, rfl⟩, by rw [len_str]; exact q _ _ (.of k (.rep (.int _)))⟩
    · cases e
  | [.lst x], c, e =>
    obtain ⟨v, rfl, a, vs, rfl, ha, rr⟩ := c.one
    cases e
    exact call_len pins s σ' H _ us Q I r ⟨_, _, rfl, .inl ⟨vs, .inl (.of ha), rfl⟩, by rw [rr.length]; exact q _ _ (.of k (.rep (.int _)))⟩
  | [.scr x], c, e =>
    obtain ⟨v, rfl, c1⟩ := c.one
    cases e
    cases c1 with
    | scrF hs => exact call_len pins s σ' H _ us Q I r ⟨_, _, rfl, .inl ⟨_, .inl (.of (k.ex hs rfl)), rfl⟩, by rw [List.length_map]; exact q _ _ (.of k (.rep (.int _)))⟩
    | scr hs => exact call_len pins s σ' H _ us Q I r ⟨_, _, rfl, .inl ⟨_, hK ▸ k.tb.sq hs, rfl⟩, by rw [List.length_map]; exact q _ _ (.of k (.rep (.int _)))⟩
  | [.tup x], c, e =>
    obtain ⟨v, rfl, a, vs, rfl, ha, rr⟩ := c.one
    cases e
    exact call_len pins s σ' H _ us Q I r ⟨_, _, rfl, .inr ⟨vs, ha.sq hK k, rfl⟩, by rw [rr.length]; exact q _ _ (.of k (.rep (.int _)))⟩
  | [.dct x], c, e =>
    obtain ⟨v, rfl, c1⟩ := c.one
    cases e
    obtain ⟨u, rfl, rx⟩ := vals1 r
    obtain ⟨a, rfl, ⟨es, rd, qq⟩ | ⟨es, rd, qq⟩⟩ := c1
    · cases rx
      obtain ⟨z, hd, vs, rel, dd⟩ := dk_rd I.hok rd
      have hn : vs.length = x.length := by rw [← repK_len qq]; exact rel.length.symm
      have l63 := line63
      refine call_len_dict hd dd (by rw [hn, ← repK_len qq]; omega) ?_
      rw [hn]
      exact ⟨.int _, H, I.tok _, ⟨_, rfl⟩, q _ _ (.of k (.rep (.int _)))⟩
    · cases rx
      obtain ⟨z, hd, vs, rel, dd⟩ := dt_rd I.hok rd
      have hn : vs.length = x.length := by rw [← repT_len qq]; exact (Paired.length rel).symm
      have l63 := line63
      refine call_len_dictH hd dd (by rw [hn, ← repT_len qq]; omega) ?_
      rw [hn]
      exact ⟨.int _, H, I.tok _, ⟨_, rfl⟩, q _ _ (.of k (.rep (.int _)))⟩
  | [], _, e => cases e
  | [.non], _, e => cases e
  | [.bl _], _, e => cases e
  | [.int _], _, e => cases e
  | [.obj _ _], _, e => cases e
  | [.cell _], _, e => cases e
  | [.exc _ _], _, e => cases e
  | _ :: _ :: _, _, e => simp [PC.biD] at e
theorem bi_tuple (hK : T.K = X.K) (hc : X.calm = true) : CallR X (.type "tuple") (rBi T .tuple) := by
  intro pins s σ' H xs us Q I r h
  obtain ⟨w, σ, ds, rd, k, c, e, q⟩ := h
  match ds, c, e with
  | [.lst x], c, e =>
    obtain ⟨v, rfl, a, vs, rfl, ha, rr⟩ := c.one
    cases e
    exact call_tuple_of pins s σ' H _ us Q I r ⟨_, _, rfl, .inl ⟨.inl (.of ha), fun l hl => q _ _ (.of k (.tup hl rr))⟩⟩
  | [.tup x], c, e =>
    obtain ⟨v, rfl, a, vs, rfl, ha, rr⟩ := c.one
    cases e
    exact call_tuple_of pins s σ' H _ us Q I r ⟨_, _, rfl, .inr ⟨ha.sq hK k, q _ _ (.of k (.rep (ha.rep rr)))⟩⟩
  | [.dct x], c, e =>
    obtain ⟨v, rfl, c1⟩ := c.one
    cases e
    exact tuple_dct hc pins s σ' H _ us Q I r ⟨w, σ, v, x, rfl, k, c1, q⟩
  | [], _, e => cases e
  | [.non], _, e => cases e
  | [.bl _], _, e => cases e
  | [.int _], _, e => cases e
  | [.str _], _, e => cases e
  | [.obj _ _], _, e => cases e
  | [.cell _], _, e => cases e
  | [.exc _ _], _, e => cases e
  | _ :: _ :: _, _, e => simp [PC.biD] at e
theorem bi_list (hK : T.K = X.K) (hc : X.calm = true) : CallR X (.type "list") (rBi T .list) := by
  intro pins s σ' H xs us Q I r h
  obtain ⟨w, σ, ds, rd, k, c, e, q⟩ := h
  match ds, c, e with
  | [.lst x], c, e =>
    obtain ⟨v, rfl, a, vs, rfl, ha, rr⟩ := c.one
    obtain ⟨hz, rfl⟩ := mkL_eq e
    exact call_list_of pins s σ' H _ us Q I r ⟨_, _, rfl, .inl (.inl (.of ha)), fun l hl => q _ _ (.of k (.lst hl rr))⟩
  | [.tup x], c, e =>
    obtain ⟨v, rfl, a, vs, rfl, ha, rr⟩ := c.one
    obtain ⟨hz, rfl⟩ := mkL_eq e
    exact call_list_of pins s σ' H _ us Q I r ⟨_, _, rfl, .inr (ha.sq hK k), fun l hl => q _ _ (.of k (.lst hl rr))⟩
  | [.dct x], c, e =>
    obtain ⟨v, rfl, c1⟩ := c.one
    obtain ⟨hz, rfl⟩ := mkL_eq e
    exact list_dct hc pins s σ' H _ us Q I r ⟨w, σ, v, x, rfl, k, c1, q⟩
  | [], _, e => cases e
  | [.non], _, e => cases e
  | [.bl _], _, e => cases e
  | [.int _], _, e => cases e
  | [.str _], _, e => cases e
  | [.obj _ _], _, e => cases e
  | [.cell _], _, e => cases e
  | [.exc _ _], _, e => cases e
  | _ :: _ :: _, _, e => simp [PC.biD] at e
theorem opt_bind_some {α β : Type} {o : Option α} {f : α → Option β} {b : β} (h : o.bind f = some b) : ∃ a, o = some a ∧ f a = some b := Option.bind_eq_some_iff.mp h
theorem bi_sorted (hK : T.K = X.K) (hc : X.calm = true) (hu : X.A.units + 65 < cLine) : CallR X (.builtin "sorted") (rBi T .sorted) := by
  intro pins s σ' H xs us Q I r h
  obtain ⟨w, σ, ds, rd, k, c, e, q⟩ := h
  match ds, c, e with
  | [.lst x], c, e =>
    obtain ⟨v, rfl, a, vs, rfl, ha, rr⟩ := c.one
    obtain ⟨u, rfl, rx⟩ := vals1 r
    cases rx
    obtain ⟨out, eo, e⟩ := opt_bind_some e
    obtain ⟨hz, rfl⟩ := mkL_eq e
    obtain ⟨its, rv, pl, hz2⟩ := I.list (.inl (.of ha))
    refine sorted_coll hK hu I k rr (fun R hR => ?_) eo fun v' H' rn => q _ _ (.of k rn)
    exact collect_list pl.isList (hR _ s.toks its (fun b o hb => by
      rw [Heap.get?_update_ne]
      · exact Heap.get?_push_of_some _ hb
      · exact Nat.ne_of_lt (Heap.lt_size hb)) rv (by rw [← rv.length]; exact hz2)) (by rw [← rv.length]; exact hz2)
  | [.dct x], c, e =>
    obtain ⟨v, rfl, c1⟩ := c.one
    obtain ⟨u, rfl, rx⟩ := vals1 r
    obtain ⟨out, eo, e⟩ := opt_bind_some e
    obtain ⟨hz, rfl⟩ := mkL_eq e
    obtain ⟨a, o, es, ep, rfl, hd, g, ex, e, hs, hz, w1, e1, i1, k1, s1, vs, rv, rr⟩ := dict_raw I k c1
    cases rx
    refine sorted_coll hK hu I k1 rr (fun R hR => ?_) eo fun v' H' rn => q _ _ ⟨w1, e1, i1, k1, s1, rn⟩
    exact PySem.W.kdu_collect (A := X.A.in1) (kdl_raw hd ex e) (I.ok.hd hc) g hz fun h' tk acc hk hacc => hR h' tk _ hk (by rw [items_raw hacc]; exact rv) (by rw [Array.length_toList, hacc.1]; exact hz)
  | [.tup x], _, e => cases e
  | [], _, e => cases e
  | [.non], _, e => cases e
  | [.bl _], _, e => cases e
  | [.int _], _, e => cases e
  | [.str _], _, e => cases e
  | [.obj _ _], _, e => cases e
  | [.cell _], _, e => cases e
  | [.exc _ _], _, e => cases e
  | _ :: _ :: _, _, e => simp [PC.biD] at e
theorem bools_rep {ι : List Addr} {F : Hp} : ∀ {vs : List V} {ds : List D} {bs : List Bool}, Reps T ι F vs ds → PC.bools ds = some bs → vs = bs.map V.bl
  | _, _, _, .nil, e => by cases e; rfl
  | _, _, bs, .cons (d := d) r t, e => by
    cases d <;> simp only [PC.bools] at e <;> try (cases e; done)
    obtain ⟨l, el, rfl⟩ := Option.map_eq_some_iff.mp e
    cases r
    rw [bools_rep t el]
    rfl
theorem bi_all (hc : X.calm = true) : CallR X (.builtin "all") (rBi T .all) := by
  intro pins s σ' H xs us Q I r h
  obtain ⟨w, σ, ds, rd, k, c, e, q⟩ := h
  match ds, c, e with
  | [.lst x], c, e =>
    obtain ⟨v, rfl, a, vs, rfl, ha, rr⟩ := c.one
    obtain ⟨bs, eb, rfl⟩ := Option.map_eq_some_iff.mp (show (PC.bools x).map _ = some rd from e)
    have := bools_rep rr eb
    subst this
    exact cr_all hc pins s σ' H _ us Q I r ⟨a, bs, rfl, .inl (.of ha), q _ _ (.of k (.rep (.bl _)))⟩
  | [], _, e => cases e
  | [.non], _, e => cases e
  | [.bl _], _, e => cases e
  | [.int _], _, e => cases e
  | [.str _], _, e => cases e
  | [.tup _], _, e => cases e
  | [.dct _], _, e => cases e
  | [.obj _ _], _, e => cases e
  | [.cell _], _, e => cases e
  | [.exc _ _], _, e => cases e
  | _ :: _ :: _, _, e => simp [PC.biD] at e
theorem bi_any (hc : X.calm = true) : CallR X (.builtin "any") (rBi T .any) := by
  intro pins s σ' H xs us Q I r h
  obtain ⟨w, σ, ds, rd, k, c, e, q⟩ := h
  match ds, c, e with
  | [.lst x], c, e =>
    obtain ⟨v, rfl, a, vs, rfl, ha, rr⟩ := c.one
    obtain ⟨bs, eb, rfl⟩ := Option.map_eq_some_iff.mp (show (PC.bools x).map _ = some rd from e)
    have := bools_rep rr eb
    subst this
    exact cr_any hc pins s σ' H _ us Q I r ⟨a, bs, rfl, .inl (.of ha), q _ _ (.of k (.rep (.bl _)))⟩
  | [], _, e => cases e
  | [.non], _, e => cases e
  | [.bl _], _, e => cases e
  | [.int _], _, e => cases e
  | [.str _], _, e => cases e
  | [.tup _], _, e => cases e
  | [.dct _], _, e => cases e
  | [.obj _ _], _, e => cases e
  | [.cell _], _, e => cases e
  | [.exc _ _], _, e => cases e
  | _ :: _ :: _, _, e => simp [PC.biD] at e
theorem int_abs (i : Int) : PC.biD .abs [.int i] = some (.int (if i < 0 then -i else i), false) := rfl
theorem bi_abs : CallR X (.builtin "abs") (rBi T .abs) := by
  intro pins s σ' H xs us Q I r h
  obtain ⟨w, σ, ds, rd, k, c, e, q⟩ := h
  match ds, c, e with
  | [.int i], c, e =>
    obtain ⟨v, rfl, c1⟩ := c.one
    cases c1; cases e
    exact call_abs pins s σ' H _ us Q I r ⟨i, rfl, q _ _ (.of k (.rep (.int _)))⟩
  | [], _, e => cases e
  | [.non], _, e => cases e
  | [.bl _], _, e => cases e
  | [.lst _], _, e => cases e
  | [.str _], _, e => cases e
  | [.tup _], _, e => cases e
  | [.dct _], _, e => cases e
  | [.obj _ _], _, e => cases e
  | [.cell _], _, e => cases e
  | [.exc _ _], _, e => cases e
  | _ :: _ :: _, _, e => simp [PC.biD] at e
theorem bi_divmod : CallR X (.builtin "divmod") (rBi T .divmod) := by
  intro pins s σ' H xs us Q I r h
  obtain ⟨w, σ, ds, rd, k, c, e, q⟩ := h
  unfold PC.biD at e
  split at e <;> try (cases e; done)
  all_goals first | contradiction | skip
  rename_i i j _
  split at e
  · rename_i hc
    cases e
    obtain ⟨v, u, rfl, c1, c2⟩ := c.two
    cases c1; cases c2
    exact call_divmod pins s σ' H _ us Q I r ⟨i, j, rfl, hc, fun p hp => q _ _ (.of k (.tup hp (.cons (.int _) (.cons (.int _) .nil))))⟩
  · cases e
theorem bi_max2 (hc : X.calm = true) : CallR X (.builtin "max") (rBi T .max2) := by
  intro pins s σ' H xs us Q I r h
  obtain ⟨w, σ, ds, rd, k, c, e, q⟩ := h
  unfold PC.biD at e
  split at e <;> try (cases e; done)
  all_goals first | contradiction | skip
  rename_i i j _
  cases e
  obtain ⟨v, u, rfl, c1, c2⟩ := c.two
  cases c1; cases c2
  exact call_max2 hc pins s σ' H _ us Q I r ⟨i, j, rfl, q _ _ (.of k (.rep (.int _)))⟩
theorem bi_min2 (hc : X.calm = true) : CallR X (.builtin "min") (rBi T .min2) := by
  intro pins s σ' H xs us Q I r h
  obtain ⟨w, σ, ds, rd, k, c, e, q⟩ := h
  unfold PC.biD at e
  split at e <;> try (cases e; done)
  all_goals first | contradiction | skip
  rename_i i j _
  cases e
  obtain ⟨v, u, rfl, c1, c2⟩ := c.two
  cases c1; cases c2
  exact call_min2 hc pins s σ' H _ us Q I r ⟨i, j, rfl, q _ _ (.of k (.rep (.int _)))⟩
end
end Br
end

section
set_option Elab.async false
set_option linter.all false
set_option maxRecDepth 100000
set_option maxHeartbeats 1000000
/-! BrS: shapes of expressions. -/
namespace Br
open PySem PySem.Spec PySem.Calls PyProof.Rows L2
/-- no starred one -/
def nSt : Expr → Bool
  | .Starred _ _ => false
  | _ => true
theorem star_ne {e : Expr} (h : nSt e = true) (es : List Expr) (env : Env) : starEach (e :: es) env = (false, eval e env) :: starEach es env := by
  cases e <;> first | rfl | cases h
theorem star_no {env : Env} : ∀ {es : List Expr}, es.all nSt = true → (starEach es env).any (·.1) = false
  | [], _ => rfl
  | e :: es, h => by
    rw [List.all_cons, Bool.and_eq_true] at h
    rw [star_ne h.1, List.any_cons, star_no h.2]
    rfl
theorem back_any (pos : Pos) : ∀ l : List (Bool × Sem Value), (backTo pos l).any (·.1) = l.any (·.1)
  | [] => rfl
  | x :: l => by
    show (x.1 || (backTo pos l).any (·.1)) = _
    rw [back_any pos l]
    rfl
theorem back_no {pos : Pos} {env : Env} {es : List Expr} (h : es.all nSt = true) : (backTo pos (starEach es env)).any (·.1) = false := by
  rw [back_any, star_no h]
/-- no super() -/
def pBase : Expr → Bool
  | .Call (.Name _ _) [] [] _ => false
  | _ => true
theorem base_ne {o : Expr} (h : pBase o = true) (m : Str) (env : Env) (whole : Sem Value) : attributeBase o m env whole = whole := by
  unfold attributeBase
  split
  · cases h
  · rfl
/-- a test by its value -/
def pTest : Expr → Bool
  | .UnaryOp .Not _ _ => false
  | .BoolOp _ _ _ => false
  | .IfExp _ _ _ _ => false
  | .Compare _ _ _ _ => false
  | _ => true
theorem test_ne {e : Expr} (h : pTest e = true) (env : Env) (whole : Sem Value) : isTrue e env whole = (do let v ← whole; standAt e.pos; holding [v] (truthy v)) := by
  cases e with
  | UnaryOp op x pos => cases op <;> first | rfl | cases h
  | BoolOp _ _ _ => cases h
  | IfExp _ _ _ _ => cases h
  | Compare _ _ _ _ => cases h
  | _ => rfl
def nSl : Expr → Bool
  | .Slice _ _ _ _ => false
  | _ => true
theorem plainIx_of {b : Expr} (h : nSl b = true) : PlainIx b := fun o i => by
  cases b <;> first | rfl | cases h
def nSet : Expr → Bool
  | .Set _ _ _ => false
  | _ => true
theorem fold_ne {e : Expr} (h : nSet e = true) (env : Env) (x : Value) : foldedSetIterable e env x = pure x := by
  cases e <;> first | rfl | cases h
def nCmp : Expr → Bool
  | .ListComp _ _ _ _ => false
  | .SetComp _ _ _ _ => false
  | .DictComp _ _ _ _ _ => false
  | _ => true
theorem swap_ne {e : Expr} (h : nCmp e = true) (t : Option Expr) (n : Nat) (env : Env) : swapsWith e t n env = pure false := by
  cases e <;> first | rfl | cases h
theorem few_no {pos : Pos} {env : Env} {es : List Expr} (h : es.all nSt = true) (hl : es.length < 29) : ((backTo pos (starEach es env)).all (fun x => !x.1) && (backToKw pos (keywordEach [] env)).all (fun x => x.1.isSome)
      && decide (es.length + ([] : List Keyword).length + (if ([] : List Keyword).isEmpty then 0 else 1) < 30)) = true := by
  have h1 : (backTo pos (starEach es env)).all (fun x => !x.1) = true := by
    have z := back_no (pos := pos) (env := env) h
    rw [List.all_eq_not_any_not]
    simp only [Bool.not_not]
    rw [show ((backTo pos (starEach es env)).any fun x => x.1) = false from z]
    rfl
  rw [h1]
  simp [backToKw, keywordEach]
  omega
end Br
end

section
set_option Elab.async false
set_option linter.all false
set_option maxRecDepth 100000
set_option maxHeartbeats 1000000
/-! Br12: built-ins, methods, places, slices as expressions. -/
namespace Br
open PySem PySem.Spec PySem.Calls PyProof.Rows L2
open PC (D E S Sl Cl Sg Gs Rs Re)

section
variable {X : Cx} {T : Tb} {G : PC.Gl} {cf : PC.CF} {th : Option (Gs → Re)} {W : Option WX} {w w1 : Wd} {σ : L2.St} {H H1 : Hp}
/-- an operand as the one of a call -/
theorem pa_one {c : E} {e : Expr} {q : Bool} (he : PE X e (tL T G cf th W q c)) (hs : starEach [e] X.env = (false, eval e X.env) :: starEach [] X.env) : PA X [e] (tCons (tL T G cf th W q c) tNil) := pa_cons he pa_nil hs
/-! ### places -/
theorem ixOf_eq (i : Int) (n : Nat) : PC.ixOf i n = ixN n i := by
  unfold PC.ixOf ixN
  by_cases h : 0 ≤ i
  · rw [if_pos h, if_pos h]
  · rw [if_neg h, if_neg h]
    by_cases h2 : 0 ≤ i + n
    · rw [if_pos h2, if_pos (by omega)]
    · rw [if_neg h2, if_neg (by omega)]
theorem at_rep {ι : List Addr} {F : Hp} {vs : List V} {ds : List D} {i : Int} {rd : D × Bool} (r : Reps T ι F vs ds) (h : ((PC.ixOf i ds.length).bind fun n => ds[n]?.map fun d => (d, false)) = some rd) : ∃ v, atI vs i = some v ∧ rd.2 = false ∧ Rep T ι F v rd.1 := by
  obtain ⟨n, hn, h⟩ := opt_bind_some h
  obtain ⟨d, hd, rfl⟩ := Option.map_eq_some_iff.mp h
  obtain ⟨v, hv, rv⟩ := r.get hd
  refine ⟨v, ?_, rfl, rv⟩
  unfold atI
  rw [r.length, ← ixOf_eq, hn]
  exact hv
theorem reps_ints {ι : List Addr} {F : Hp} : ∀ ns : List Int, Reps T ι F (ns.map V.int) (ns.map D.int)
  | [] => .nil
  | n :: ns => .cons (.int n) (reps_ints ns)
def rIdx (T : Tb) : R2 := fun x y H Q => ∃ w σ dx dy rd, Ok T w σ H ∧ Cnt T w H x dx ∧ Cnt T w H y dy ∧ PC.idxD dx dy = some rd ∧ ∀ v, rd.2 = false → Rep T w.ι w.F v rd.1 → Q v H
theorem look_get (hK : T.K = X.K) {A : Around} {Ex : Value → Shared → Prop} {pins : List (Addr × Obj)} {σ' : L2.St} {s : Shared} {v y : V} {a u : Value} {d : D} {Q : Value → Shared → Prop} (k : Ok T w σ H) (hu : A.units + 1 < cLine) (I : Inv X pins σ' H s) (l : Look T w H v y (some d)) (rv : RelV v a) (ry : RelV y u)
    (h : ∀ z w' s', Inv X pins σ' H s' → RelV z w' → Rep T w.ι w.F z d → Q w' s') : s.TypeIs a "dict" ∧ wpAny (model X.prog X.w) A (getItem a u) Q Ex s := by
  cases l with
  | there b x hv g h1 h2 =>
    subst hv
    cases rv
    obtain ⟨z, ez, rz⟩ := h1 d rfl
    subst ez
    exact ⟨dict_typeIs I g, d_getItem hu I g ry fun w' s' I' rw' => h z w' s' I' rw' rz⟩
  | thereT b c ks kvs hv hy hc r h1 h2 =>
    subst hv hy
    cases rv
    cases (show u = Value.ref c from ry)
    obtain ⟨z, ez, rz⟩ := h1 d rfl
    obtain ⟨_, hd, xs, rel, dd⟩ := dt_rd I.hok r
    obtain ⟨w', hw, rw'⟩ := RelO.some_of (v := z) (o := (atKey xs ks).map (·.2)) (by rw [← ez]; exact rel.val ks)
    obtain ⟨p, hp, hp2⟩ := Option.map_eq_some_iff.mp hw
    refine ⟨dd.typeIs, wpAny_getItem_heap (tupleKind_room_in1 hu) (key_is hK I k hc) dd hp ?_⟩
    rw [hp2]
    exact h z w' _ (I.tok _) rw' rz
  | empT b c ks hv hy hc r ho => cases ho
  | empK b kk hv hy r ho => cases ho
theorem ix_val (hK : T.K = X.K) (hu : X.A.units + 65 < cLine) : IxR X (rIdx T) := by
  intro value slice pins s σ' H x y v u Q I rx ry h hs
  obtain ⟨w, σ, dx, dy, rd, k, cx, cy, e, q⟩ := h
  unfold PC.idxD at e
  split at e
  · rename_i xs i
    obtain ⟨a, vs, rfl, ha, r⟩ := cx
    cases cy
    obtain ⟨z, hz, hr, rz⟩ := at_rep r e
    exact ix_list value slice pins s σ' H _ _ v u Q I rx ry ⟨a, vs, i, z, rfl, rfl, .inl (.of ha), hz, q z hr rz⟩ hs
  · rename_i xs i
    obtain ⟨a, vs, rfl, ha, r⟩ := cx
    cases cy
    obtain ⟨z, hz, hr, rz⟩ := at_rep r e
    exact ix_tup value slice pins s σ' H _ _ v u Q I rx ry ⟨a, vs, i, z, rfl, rfl, ha.sq hK k, hz, q z hr rz⟩ hs
  · rename_i xs i
    have sq : ∃ a, x = .ref a ∧ SqL X.K H a (xs.map V.int) := by
      cases cx with
      | scr he => exact ⟨_, rfl, hK ▸ k.tb.sq he⟩
      | scrF he => exact ⟨_, rfl, .inl (.of (k.ex he rfl))⟩
    obtain ⟨a, rfl, sq⟩ := sq
    cases cy
    obtain ⟨z, hz, hr, rz⟩ := at_rep (rd := rd) (i := i) (reps_ints (T := T) (ι := w.ι) (F := w.F) xs) (by
      rw [← e, List.length_map]
      congr 1
      funext n
      rw [List.getElem?_map, Option.map_map]
      rfl)
    exact ix_list value slice pins s σ' H _ _ v u Q I rx ry ⟨_, _, i, z, rfl, rfl, sq, hz, q z hr rz⟩ hs
  · rename_i xs i
    split at e
    · rename_i hz
      cases cx with
      | str x =>
      cases cy
      obtain ⟨n, hn, e⟩ := opt_bind_some e
      obtain ⟨c, hc, rfl⟩ := Option.map_eq_some_iff.mp e
      refine ix_str value slice pins s σ' H _ _ v u Q I rx ry ⟨x, i, c, rfl, rfl, by rw [len_str]; exact big_le hz, ?_, q _ rfl (rep_str rfl)⟩ hs
      unfold atI
      rw [← ixOf_eq, hn]
      exact hc
    · cases e
  · rename_i kvs k' _
    split at e
    · rename_i hk
      obtain ⟨d, hd, rfl⟩ := Option.map_eq_some_iff.mp e
      have l := cx.look k cy hk
      rw [hd] at l
      obtain ⟨ht, hg⟩ := look_get (X := X) (A := X.A) (Ex := X.xe) hK k (by omega) I l rx ry (Q := L2.EP X pins σ' Q) fun z w' s' I' rw' rz => ⟨z, H, I', rw', q z rfl rz⟩
      exact tail_any ht slot_dict_getitem.lookup hg hs
    · cases e
  · cases e
/-! ### slices -/
theorem cut_eq {α : Type} (xs : List α) (lo hi : Option Int) : PC.cutD xs lo hi = (xs.drop (HT.sIx xs.length 0 lo)).take (HT.sIx xs.length xs.length hi - HT.sIx xs.length 0 lo) := by
  have b : ∀ (i : Int) (n : Nat), PC.bnd i n = if i < 0 then (i + (n : Int)).toNat else min i.toNat n := fun i n => by
    unfold PC.bnd
    by_cases h : i < 0
    · rw [if_pos h, if_pos h]
      split <;> omega
    · rw [if_neg h, if_neg h]
      split <;> omega
  have l : ∀ (o : Option Int) (d : Nat), (o.map (PC.bnd · xs.length)).getD d = HT.sIx xs.length d o := fun o d => by
    cases o with
    | none => rfl
    | some i => exact b i _
  unfold PC.cutD
  rw [l, l]
theorem cut_reps {ι : List Addr} {F : Hp} {vs : List V} {ds : List D} (r : Reps T ι F vs ds) (lo hi : Option Int) : Reps T ι F (cutV vs lo hi) (PC.cutD ds lo hi) := by
  rw [cut_eq]
  unfold cutV
  rw [r.length]
  exact (r.drop _).take _
def rSlc (T : Tb) : V → Option Int → Option Int → Hp → VK → Prop := fun x lo hi H Q => ∃ w σ dx rd, Ok T w σ H ∧ Cnt T w H x dx ∧ PC.slcD dx lo hi = some rd ∧ ∀ v H', RN T w H rd v H' → Q v H'
theorem sl_val (hK : T.K = X.K) : SlR X (rSlc T) := by
  intro pins s σ' H x v vl vu lo hi sl Q I rx hs pl pu h
  obtain ⟨w, σ, dx, rd, k, cx, e, q⟩ := h
  unfold PC.slcD at e
  split at e
  · rename_i xs
    obtain ⟨a, vs, rfl, ha, r⟩ := cx
    cases e
    exact sl_list pins s σ' H _ v vl vu lo hi sl Q I rx hs pl pu ⟨a, vs, rfl, .inl (.of ha), fun p hp => q _ _ (.lst hp (cut_reps r lo hi))⟩
  · rename_i xs
    have sq : ∃ a, x = .ref a ∧ SqL X.K H a (xs.map V.int) := by
      cases cx with
      | scr he => exact ⟨_, rfl, hK ▸ k.tb.sq he⟩
      | scrF he => exact ⟨_, rfl, .inl (.of (k.ex he rfl))⟩
    obtain ⟨a, rfl, sq⟩ := sq
    cases e
    exact sl_list pins s σ' H _ v vl vu lo hi sl Q I rx hs pl pu ⟨_, _, rfl, sq, fun p hp => q _ _ (.lst hp (cut_reps (reps_ints xs) lo hi))⟩
  · rename_i xs
    obtain ⟨a, vs, rfl, ha, r⟩ := cx
    cases e
    refine sl_tupA pins s σ' H _ v vl vu lo hi sl Q I rx hs pl pu ⟨a, vs, rfl, ha.sq hK k, fun ⟨h1, h2⟩ => ?_, fun _ p hp => q _ _ (.tup hp (cut_reps r lo hi))⟩
    have e : PC.cutD xs lo hi = xs := by
      rw [cut_eq, ← r.length, h1, h2, List.drop_zero, Nat.sub_zero, r.length, List.take_length]
    rw [e] at q
    exact q _ _ (.rep (ha.rep r))
  · rename_i xs
    split at e
    · rename_i hz
      cases e
      cases cx with
      | str x =>
      refine sl_str pins s σ' H _ v vl vu lo hi sl Q I rx hs pl pu ⟨x, rfl, by rw [len_str]; exact big_le hz, q _ _ (.rep (rep_str ?_))⟩
      rw [cut_eq]
      unfold cutS
      simp only [len_str]
    · cases e
  · cases e
/-! ### a built-in of one operand -/
theorem callOr {f : Value} {r r' : List V → Hp → VK → Prop} (h : CallR X f r) (h' : CallR X f r') : CallR X f (fun xs H Q => r xs H Q ∨ r' xs H Q) := fun pins s σ H xs us Q I rx z => z.elim (h pins s σ H xs us Q I rx) (h' pins s σ H xs us Q I rx)
theorem callR_imp {f : Value} {r r' : List V → Hp → VK → Prop} (h : CallR X f r) (i : ∀ xs H Q, r' xs H Q → r xs H Q) : CallR X f r' := fun pins s σ H xs us Q I rx z => h pins s σ H xs us Q I rx (i xs H Q z)
/-- an instance's own answer -/
def rIn (T : Tb) (G : PC.Gl) (cf : PC.CF) (W : Option WX) (b : PC.Bi) : List V → Hp → VK → Prop := fun xs H Q => ∃ w σ v d C, xs = [v] ∧ Ok T w σ H ∧ Rep T w.ι w.F v d.1 ∧ PC.clsOf w.g d.1 = some C ∧
  Rp (PC.biV G cf b d w.st) (fun r st => ∀ v' H', EP T w σ H true r st v' H' → Q v' H') (exK T W w σ H)
theorem evE_bi1 (b : PC.Bi) (e : E) (s : PC.St) : PC.evE G cf th (.bi b [e]) s = (PC.lk true e s (PC.evE G cf th e s)).bind fun x s1 => PC.biV G cf b x s1 := by simp only [PC.evE]
theorem biV_no {b : PC.Bi} {x : D × Bool} {s : PC.St} (h : PC.clsOf s.g x.1 = none) : PC.biV G cf b x s = PC.opt (PC.biD b [PC.drf s.g x.1]) s := by
  unfold PC.biV
  rw [h]
theorem in_no {f : Value} {b : PC.Bi} (h : b ≠ .len) (h2 : b ≠ .bool) (h3 : b ≠ .str) (h4 : b ≠ .repr) : CallR X f (rIn T G cf W b) := by
  intro pins s σ' H xs us Q I rx ⟨w, σ, v, d, C, _, _, _, hc, z⟩
  unfold PC.biV at z
  rw [show PC.clsOf w.st.g d.1 = some C from hc] at z
  cases b <;> first | exact absurd rfl h | exact absurd rfl h2 | exact absurd rfl h3 | exact absurd rfl h4 | exact z.elim
/-- an instance is no new thing -/
theorem cls_rep {q : Bool} {v : V} {d : D} {C : Nat} (o : Opd T w σ H q v d) (h : PC.clsOf w.g d = some C) : Rep T w.ι w.F v d := by
  rcases o with r | ⟨a, rfl, _, c⟩ | ⟨_, a, rfl, _, c⟩
  · exact r
  · cases d <;> first | exact c.elim | (simp [PC.clsOf] at h)
  · cases d <;> first | exact c.elim | (simp [PC.clsOf] at h)
theorem bi1_of {b : PC.Bi} {c : E} {Q : VK} (h : tE T G cf th W (.bi b [c]) σ H Q) :
    tCB (fun xs H Q => rBi T b xs H Q ∨ rIn T G cf W b xs H Q) (tCons (tL T G cf th W true c) tNil) σ H Q := by
  obtain ⟨w, k, h⟩ := h
  rw [evE_bi1] at h
  refine ⟨w, k, h.bind.mono (fun d s1 h1 v1 H1 ⟨w1, e1, k1, t1, q1, o1, p1⟩ => ?_) (fun _ _ _ z => z)⟩
  subst e1
  cases hc : PC.clsOf w1.g d.1 with
  | some C =>
    have r := cls_rep o1 hc
    exact .inr ⟨w1, σ, v1, d, C, rfl, k1, r, hc, h1.mono (fun r st z v' H' p => z v' H' (p.after k k1 t1 fun y => ⟨q1 (qAnd y).1, rfl⟩)) (fun _ _ _ z => z.after k1 t1)⟩
  | none =>
    rw [biV_no hc] at h1
    obtain ⟨rd, e, q⟩ := h1.opt
    exact .inl ⟨w1, σ, _, rd, k1, .cons (o1.cnt k1) .nil, e, fun v H' rg => q v H' (rg.ep k k1 t1 fun y => q1 (qAnd y).1)⟩
theorem pe_bi1B {b : PC.Bi} {id : String} {x : Str} {c : E} {e : Expr} {p pos : Pos} (hD : CallR X (.builtin id) (rBi T b)) (hI : CallR X (.builtin id) (rIn T G cf W b)) (hg : Gl X x) (hm : X.mg x = none) (hv : bootBuiltins x = some (.builtin id)) (hn : x ≠ "__name__") (hdb : (x == ("__debug__" : Str)) = false)
    (he : PE X e (tL T G cf th W true c)) (hs : nSt e = true) : PE X (.Call (.Name x p) [e] [] pos) (tE T G cf th W (.bi b [c])) :=
  peImp (pe_callB (callOr hD hI) hg hm hv (pa_one he (star_ne hs _ _)) hn hdb (star_ne hs _ _)) fun σ H Q h => bi1_of h
theorem pe_bi1T {b : PC.Bi} {id : String} {x : Str} {c : E} {e : Expr} {p pos : Pos} (hD : CallR X (.type id) (rBi T b)) (hI : CallR X (.type id) (rIn T G cf W b)) (hg : Gl X x) (hm : X.mg x = none) (hv : bootBuiltins x = some (.type id)) (hn : x ≠ "__name__") (hdb : (x == ("__debug__" : Str)) = false)
    (he : PE X e (tL T G cf th W true c)) (hs : nSt e = true) : PE X (.Call (.Name x p) [e] [] pos) (tE T G cf th W (.bi b [c])) :=
  peImp (pe_callTy (callOr hD hI) hg hm hv (pa_one he (star_ne hs _ _)) hn hdb (star_ne hs _ _)) fun σ H Q h => bi1_of h
/-! two operands and more -/
theorem evE_biL (b : PC.Bi) {es : List E} (h : es.length ≠ 1) (s : PC.St) : PC.evE G cf th (.bi b es) s = (PC.evL G cf th es s).bind fun xs s1 => PC.opt (PC.biD b (xs.map (·.1))) s1 := by
  match es, h with
  | [], _ => simp only [PC.evE]
  | [_], h => exact absurd rfl h
  | _ :: _ :: _, _ => simp only [PC.evE]
theorem Reps.cntL (k : Ok T w σ H) : ∀ {vs : List V} {ds : List D}, Reps T w.ι w.F vs ds → CntL T w H vs ds
  | _, _, .nil => .nil
  | _, _, .cons r t => .cons (r.cnt k) (Reps.cntL k t)
theorem biL_of {b : PC.Bi} {cs : List E} {Q : VK} (hl : cs.length ≠ 1) (h : tE T G cf th W (.bi b cs) σ H Q) : tCB (rBi T b) (tAs T G cf th W cs) σ H Q := by
  obtain ⟨w, k, h⟩ := h
  rw [evE_biL b hl] at h
  refine ⟨w, k, h.bind.mono (fun xs s1 h1 vs H1 p => ?_) (fun _ _ _ z => z)⟩
  obtain ⟨rd, e, q⟩ := h1.opt
  obtain ⟨w1, e1, k1, t1, q1, r⟩ := p.known
  subst e1
  exact ⟨w1, σ, _, rd, k1, r.cntL k1, e, fun v H' rg => q v H' (rg.ep k k1 t1 q1)⟩
theorem pe_biLB {b : PC.Bi} {id : String} {x : Str} {cs : List E} {e : Expr} {es : List Expr} {p pos : Pos} (hD : CallR X (.builtin id) (rBi T b)) (hl : cs.length ≠ 1) (hg : Gl X x) (hm : X.mg x = none) (hv : bootBuiltins x = some (.builtin id)) (hn : x ≠ "__name__") (hdb : (x == ("__debug__" : Str)) = false)
    (he : PA X (e :: es) (tAs T G cf th W cs)) (hs : (e :: es).all nSt = true) : PE X (.Call (.Name x p) (e :: es) [] pos) (tE T G cf th W (.bi b cs)) :=
  peImp (pe_callB hD hg hm hv he hn hdb (star_ne (qAnd hs).1 _ _) (back_no (qAnd hs).2)) fun σ H Q h => biL_of hl h
end
end Br
end

section
set_option Elab.async false
set_option linter.all false
set_option maxRecDepth 100000
set_option maxHeartbeats 1000000
/-! Br13: places, slices, comparisons as expressions. -/
namespace Br
open PySem PySem.Spec PySem.Calls PyProof.Rows L2
open PC (D E S Sl Cl Sg Gs Rs Re)

section
variable {X : Cx} {T : Tb} {G : PC.Gl} {cf : PC.CF} {th : Option (Gs → Re)} {W : Option WX} {w w1 w2 : Wd} {σ : L2.St} {H H1 H2 : Hp}
/-- an instance's own x[i] -/
def rIxIn (T : Tb) (G : PC.Gl) (cf : PC.CF) (W : Option WX) : R2 := fun x y H Q => ∃ w σ d e C, Ok T w σ H ∧ Rep T w.ι w.F x d.1 ∧ Rep T w.ι w.F y e ∧ PC.clsOf w.g d.1 = some C ∧
  Rp (PC.idxV G cf d e w.st) (fun r st => ∀ v' H', EP T w σ H true r st v' H' → Q v' H') (exK T W w σ H)
theorem evE_idx (a i : E) (s : PC.St) : PC.evE G cf th (.idx a i) s = (PC.lk (PC.quiet i) a s (PC.evE G cf th a s)).bind fun x s1 => (PC.evE G cf th i s1).bind fun y s2 => PC.idxV G cf x y.1 s2 := by simp only [PC.evE]
theorem idxV_no {x : D × Bool} {i : D} {s : PC.St} (h : PC.clsOf s.g x.1 = none) : PC.idxV G cf x i s = PC.opt (PC.idxD (PC.drf s.g x.1) i) s := by
  unfold PC.idxV
  split
  · rename_i n e
    rw [e] at h
    rw [h]
  · rename_i hn
    have e : PC.drf s.g x.1 = x.1 := by
      unfold PC.drf
      split
      · rename_i n e
        exact absurd e (hn n)
      · rfl
    rw [e]
theorem idx_false {a i : D} {rd : D × Bool} (h : PC.idxD a i = some rd) : rd.2 = false := by
  unfold PC.idxD at h
  split at h
  · obtain ⟨n, _, h⟩ := opt_bind_some h
    obtain ⟨d, _, rfl⟩ := Option.map_eq_some_iff.mp h
    rfl
  · obtain ⟨n, _, h⟩ := opt_bind_some h
    obtain ⟨d, _, rfl⟩ := Option.map_eq_some_iff.mp h
    rfl
  · obtain ⟨n, _, h⟩ := opt_bind_some h
    obtain ⟨d, _, rfl⟩ := Option.map_eq_some_iff.mp h
    rfl
  · split at h
    · obtain ⟨n, _, h⟩ := opt_bind_some h
      obtain ⟨d, _, rfl⟩ := Option.map_eq_some_iff.mp h
      rfl
    · cases h
  · split at h
    · obtain ⟨d, _, rfl⟩ := Option.map_eq_some_iff.mp h
      rfl
    · cases h
  · cases h
theorem Opd.repL {q : Bool} {v : V} {d : D} {C : Nat} (o : Opd T w σ H q v d) (s : Stp w σ H w1 σ H1) (h : PC.clsOf w1.g d = some C) : Rep T w1.ι w1.F v d := by
  rcases o with r | ⟨a, rfl, _, c⟩ | ⟨_, a, rfl, _, c⟩
  · exact s.rep r
  · cases d <;> first | exact c.elim | (simp [PC.clsOf] at h)
  · cases d <;> first | exact c.elim | (simp [PC.clsOf] at h)
theorem pe_idxC (hK : T.K = X.K) (hu : X.A.units + 65 < cLine) (hI : IxR X (rIxIn T G cf W)) {a b : Expr} {ca cb : E} {pos : Pos} (ha : PE X a (tL T G cf th W (PC.quiet cb) ca)) (hb : PE X b (tE T G cf th W cb)) (hs : nSl b = true) : PE X (.Subscript a b pos) (tE T G cf th W (.idx ca cb)) := by
  refine peImp (pe_ix ((ix_val hK hu).or hI) ha hb (plainIx_of hs)) fun σ H Q ⟨w, k, h⟩ => ?_
  rw [evE_idx] at h
  refine ⟨w, k, h.bind.mono (fun x s1 h1 v1 H1 ⟨w1, e1, k1, t1, q1, o1, p1⟩ => ?_) (fun _ _ _ z => z)⟩
  subst e1
  refine ⟨w1, k1, h1.bind.mono (fun y s2 h2 v2 H2 p2 => ?_) (fun _ _ _ z => z.after k1 t1)⟩
  obtain ⟨w2, e2, k2, t2, q2, r2⟩ := p2.rep
  subst e2
  have q12 : PC.quiet (.idx ca cb) = true → KO w σ H w2 H2 := fun z => (q1 (qAnd z).1).trans k k2 t2 (q2 (qAnd z).2)
  cases hc : PC.clsOf w2.g x.1 with
  | some C => exact .inr ⟨w2, σ, x, y.1, C, k2, o1.repL t2 hc, r2, hc, h2.mono (fun r st z v' H' p => z v' H' (p.after k k2 (t1.trans k1 t2) fun z => ⟨q12 z, rfl⟩)) (fun _ _ _ z => (z.after k1 t1).after k2 t2)⟩
  | none =>
    rw [idxV_no hc] at h2
    obtain ⟨rd, e, q⟩ := h2.opt
    refine .inl ⟨w2, σ, _, _, rd, k2, o1.cntL k2 t2 (fun z => q2 (qAnd z).1), r2.cnt k2, e, fun v hf rv => q v H2 ⟨w2, rfl, k2, t1.trans k1 t2, q12, fun _ => rv, fun z => tf z hf⟩⟩
/-! ### slices -/
def tP (T : Tb) (G : PC.Gl) (cf : PC.CF) (th : Option (Gs → Re)) (W : Option WX) (c : E) : TO := fun σ H Q => ∃ w, Ok T w σ H ∧ Rp ((PC.evE G cf th c w.st).bind fun r s => PC.opt (PC.prt c r.1) s) (fun o st => ∀ H', BP T w σ H (PC.quiet c) st H' → Q o H') (exK T W w σ H)
theorem poImp {e : Option Expr} {t t' : TO} (h : PO X e t) (i : ∀ σ H Q, t' σ H Q → t σ H Q) : PO X e t' := ⟨fun pins s σ H Q I q => h.run pins s σ H Q I (i σ H Q q)⟩
theorem po_noneC : PO X none (tP T G cf th W (.c .non)) := by
  refine poImp po_none fun σ H Q ⟨w, k, h⟩ => ?_
  rw [evE_c] at h
  exact h H (BP.refl k)
theorem po_someC {e : Expr} {c : E} (h : PE X e (tE T G cf th W c)) (hc : c ≠ .c .non) : PO X (some e) (tP T G cf th W c) := by
  refine poImp (po_some h) fun σ H Q ⟨w, k, h⟩ => ⟨w, k, h.bind.mono (fun r st z v H1 p => ?_) (fun _ _ _ z => z)⟩
  obtain ⟨o, e, q⟩ := z.opt
  unfold PC.prt at e
  split at e
  · exact absurd rfl hc
  · split at e
    · rename_i i ei
      cases e
      obtain ⟨w', e', k', s', kq, rr⟩ := p.rep
      rw [ei] at rr
      cases rr
      exact ⟨i, rfl, q H1 ⟨w', e', k', s', kq⟩⟩
    · cases e
theorem evE_slc (a lo hi : E) (s : PC.St) : PC.evE G cf th (.slc a lo hi) s = (PC.lk (PC.quiet lo && PC.quiet hi) a s (PC.evE G cf th a s)).bind fun x s1 => ((PC.evE G cf th lo s1).bind fun l s2 => PC.opt (PC.prt lo l.1) s2).bind fun p s3 => ((PC.evE G cf th hi s3).bind fun h s4 => PC.opt (PC.prt hi h.1) s4).bind fun q s5 =>
    PC.opt (PC.slcD (PC.drf s5.g x.1) p q) s5 := by simp only [PC.evE, bind_as]
theorem pe_slcC (hK : T.K = X.K) {a : Expr} {lo hi : Option Expr} {ca cl ch : E} {p2 pos : Pos} (ha : PE X a (tL T G cf th W (PC.quiet cl && PC.quiet ch) ca)) (hl : PO X lo (tP T G cf th W cl)) (hh : PO X hi (tP T G cf th W ch)) :
    PE X (.Subscript a (.Slice lo hi none p2) pos) (tE T G cf th W (.slc ca cl ch)) := by
  refine peImp (pe_slice (sl_val hK) ha hl hh) fun σ H Q ⟨w, k, h⟩ => ?_
  rw [evE_slc] at h
  refine ⟨w, k, h.bind.mono (fun x s1 h1 v1 H1 ⟨w1, e1, k1, t1, q1, o1, p1⟩ => ?_) (fun _ _ _ z => z)⟩
  subst e1
  refine ⟨w1, k1, h1.bind.mono (fun p s2 h2 H2 ⟨w2, e2, k2, t2, q2⟩ => ?_) (fun _ _ _ z => z.after k1 t1)⟩
  subst e2
  refine ⟨w2, k2, h2.bind.mono (fun q s3 h3 H3 ⟨w3, e3, k3, t3, q3⟩ => ?_) (fun _ _ _ z => (z.after k1 t1).after k2 t2)⟩
  subst e3
  obtain ⟨rd, e, q⟩ := h3.opt
  have t23 := t2.trans k2 t3
  have q23 : (PC.quiet cl && PC.quiet ch) = true → KO w1 σ H1 w3 H3 := fun z => (q2 (qAnd z).1).trans k1 k3 t3 (q3 (qAnd z).2)
  exact ⟨w3, σ, _, rd, k3, o1.cntL k3 t23 (fun z => q23 (qAnd z).1), e, fun v H' rn => q v H' (rn.ep k k3 (t1.trans k1 t23) fun z => (q1 (qAnd (qAnd z).1).1).trans k k3 t23 (q23 (by
    have z1 := qAnd z
    have z2 := qAnd z1.1
    rw [z2.2, z1.2]
    rfl)))⟩
/-! ### comparisons -/
/-- an instance's own answer to a comparison -/
def rCmpIn (T : Tb) (G : PC.Gl) (cf : PC.CF) (W : Option WX) (o : PC.COp) : R2 := fun x y H Q => ∃ w σ d e, Ok T w σ H ∧ Rep T w.ι w.F x d.1 ∧ Rep T w.ι w.F y e.1 ∧ PC.inC o w.g d.1 e.1 = true ∧
  Rp (PC.cmpV G cf o d e w.st) (fun r st => ∀ v' H', EP T w σ H true r st v' H' → Q v' H') (exK T W w σ H)
theorem evE_cmp (o : PC.COp) (a b : E) (s : PC.St) : PC.evE G cf th (.cmp o a b) s = (PC.lk (PC.quiet b) a s (PC.evE G cf th a s)).bind fun x s1 => (PC.lk true b s1 (PC.evE G cf th b s1)).bind fun y s2 => if PC.inC o s2.g x.1 y.1 && (PC.looked a s1 || PC.looked b s2 || x.2 || y.2) then .no else PC.cmpV G cf o x y s2 := by simp only [PC.evE]
theorem cell_shp {m n : Nat} : PC.shp n (.cell m) = false := by cases n <;> rfl
theorem drf_cmp {o : PC.COp} {g : Gs} {a b : D} {k : Bool} (h : PC.cmpD o a b = some k) : PC.cmpD o (PC.drf g a) (PC.drf g b) = some k := by
  have ha : (∀ n, a ≠ .cell n) → PC.drf g a = a := fun h => by
    cases a <;> first | rfl | exact absurd rfl (h _)
  have hb : (∀ n, b ≠ .cell n) → PC.drf g b = b := fun h => by
    cases b <;> first | rfl | exact absurd rfl (h _)
  have nb : ∀ n, b ≠ .cell n := fun n e => by
    subst e
    cases o <;> cases a <;> simp [PC.cmpD, PC.inD, cell_shp] at h
  rw [hb nb]
  by_cases hc : ∃ n, a = .cell n
  · obtain ⟨n, rfl⟩ := hc
    have nn : (∃ xs, PC.drf g (.cell n) = .lst xs) ∨ PC.drf g (.cell n) = .cell n := by
      unfold PC.drf
      simp only
      split
      · exact .inl ⟨_, rfl⟩
      · exact .inr rfl
    rcases nn with ⟨xs, e⟩ | e
    · rw [e]
      cases o <;> cases b <;> simp [PC.cmpD, PC.inD, cell_shp, PC.keyFor, PC.keyOk, PC.keyd, PC.keyT] at h ⊢ <;> try exact h
      all_goals (rename_i c; cases c <;> simp at h)
    · rw [e]; exact h
  · rw [ha fun n e => hc ⟨n, e⟩]
    exact h
theorem cmpV_no {o : PC.COp} {x y : D × Bool} {s : PC.St} (h : PC.inC o s.g x.1 y.1 = false) : PC.cmpV G cf o x y s = (PC.opt (PC.cmpD o x.1 y.1) s).bind fun k s1 => .ok (.bl k, false) s1 := by
  obtain ⟨x, b1⟩ := x
  obtain ⟨y, b2⟩ := y
  cases o <;> cases x <;> first | rfl | (cases y <;> first | rfl | (simp [PC.inC, PC.clsOf] at h; done) | skip)
  all_goals simp_all [PC.inC, PC.clsOf, PC.cmpV, PC.cmpD, PC.plainC, cell_shp]
  all_goals rfl
theorem cmp_of {o : PC.COp} {ca cb : E} {Q : VK} (h : tE T G cf th W (.cmp o ca cb) σ H Q) :
    tOp (fun x y H Q => rCmp T o x y H Q ∨ rCmpIn T G cf W o x y H Q) (tL T G cf th W (PC.quiet cb) ca) (tL T G cf th W true cb) σ H Q := by
  obtain ⟨w, k, h⟩ := h
  rw [evE_cmp] at h
  refine ⟨w, k, h.bind.mono (fun x s1 h1 v1 H1 ⟨w1, e1, k1, t1, q1, o1, p1⟩ => ?_) (fun _ _ _ z => z)⟩
  subst e1
  refine ⟨w1, k1, h1.bind.mono (fun y s2 h2 v2 H2 ⟨w2, e2, k2, t2, q2, o2, p2⟩ => ?_) (fun _ _ _ z => z.after k1 t1)⟩
  subst e2
  have q12 : PC.quiet (.cmp o ca cb) = true → KO w σ H w2 H2 := fun z => (q1 (qAnd z).1).trans k k2 t2 (q2 (qAnd z).2)
  cases hc : PC.inC o w2.g x.1 y.1 with
  | false =>
    rw [hc, Bool.false_and, if_neg (by simp), cmpV_no hc] at h2
    obtain ⟨kk, e, q⟩ := h2.bind.opt
    exact .inl ⟨w2, σ, _, _, kk, k2, o1.cntL k2 t2 (fun z => q2 (qAnd z).1), o2.cnt k2, drf_cmp e, q _ _ ⟨w2, rfl, k2, t1.trans k1 t2, q12, fun _ => .bl _, fun z => by cases z⟩⟩
  | true =>
    rw [hc, Bool.true_and] at h2
    split at h2
    · exact h2.elim
    · rename_i hl
      simp only [Bool.or_eq_true, not_or, Bool.not_eq_true] at hl
      obtain ⟨⟨⟨l1, l2⟩, l3⟩, l4⟩ := hl
      have r3 : Rep T w1.ι w1.F v1 x.1 := p1 l3 (by rw [show PC.looked ca w1.st = false from l1, Bool.and_false])
      have r4 : Rep T w2.ι w2.F v2 y.1 := p2 l4 (by rw [show PC.looked cb w2.st = false from l2, Bool.and_false])
      exact .inr ⟨w2, σ, x, y, k2, t2.rep r3, r4, hc, h2.mono (fun r st z v' H' p => z v' H' (p.after k k2 (t1.trans k1 t2) fun z => ⟨q12 z, rfl⟩)) (fun _ _ _ z => (z.after k1 t1).after k2 t2)⟩
end
end Br
end

section
set_option Elab.async false
set_option linter.all false
set_option maxRecDepth 100000
set_option maxHeartbeats 1000000
/-! Br14: comparisons, isinstance. -/
namespace Br
open PySem PySem.Spec PySem.Calls PyProof.Rows L2
open PC (D E S Sl Cl Sg Gs Rs Re)

section
variable {X : Cx} {T : Tb} {G : PC.Gl} {cf : PC.CF} {th : Option (Gs → Re)} {W : Option WX} {w w1 w2 : Wd} {σ : L2.St} {H H1 H2 : Hp}
theorem pe_cmpC (hK : T.K = X.K) (hu : X.A.units + 65 < cLine) {o : PC.COp} (hI : OpR X (compareOp (cOp o)) (rCmpIn T G cf W o)) {a b : Expr} {ca cb : E} {pos : Pos} (ha : PE X a (tL T G cf th W (PC.quiet cb) ca)) (hb : PE X b (tL T G cf th W true cb))
    (hm : behindInMarks (cOp o) b = false) : PE X (.Compare a [cOp o] [b] pos) (tE T G cf th W (.cmp o ca cb)) :=
  peImp (pe_cmpR ((op_cmp hK hu o).or hI) ha hb hm) fun σ H Q h => cmp_of h
theorem pt_cmpC (hK : T.K = X.K) (hu : X.A.units + 65 < cLine) {o : PC.COp} (hI : OpR X (compareOp (cOp o)) (rCmpIn T G cf W o)) {a b : Expr} {ca cb : E} {pos : Pos} (ha : PE X a (tL T G cf th W (PC.quiet cb) ca)) (hb : PE X b (tL T G cf th W true cb))
    (hm : behindInMarks (cOp o) b = false) : PT X (.Compare a [cOp o] [b] pos) (tTs T G cf th W (.cmp o ca cb)) :=
  ptImp (pt_cmpR ((op_cmp hK hu o).or hI) ha hb hm) fun σ H Q h => cmp_of (tt_of h)
theorem evE_chn (o p : PC.COp) (a b c : E) (s : PC.St) : PC.evE G cf th (.chn o p a b c) s = (PC.evE G cf th a s).bind fun x s1 => (PC.evE G cf th b s1).bind fun y s2 => (PC.opt (PC.cmpD o x.1 y.1) s2).bind fun k s3 =>
      if k then (PC.evE G cf th c s3).bind fun z s4 => (PC.opt (PC.cmpD p y.1 z.1) s4).bind fun j s5 => .ok (.bl j, false) s5 else .ok (.bl false, false) s3 := by simp only [PC.evE]
theorem chn_of {o p : PC.COp} {ca cb cc : E} {Q : VK} (h : tE T G cf th W (.chn o p ca cb cc) σ H Q) : tChain (rCmp T o) (rCmp T p) (tE T G cf th W ca) (tE T G cf th W cb) (tE T G cf th W cc) σ H Q := by
  obtain ⟨w, k, h⟩ := h
  rw [evE_chn] at h
  refine ⟨w, k, h.bind.mono (fun x s1 h1 v1 H1 p1 => ?_) (fun _ _ _ z => z)⟩
  obtain ⟨w1, e1, k1, t1, q1, r1⟩ := p1.rep
  subst e1
  refine ⟨w1, k1, h1.bind.mono (fun y s2 h2 v2 H2 p2 => ?_) (fun _ _ _ z => z.after k1 t1)⟩
  obtain ⟨w2, e2, k2, t2, q2, r2⟩ := p2.rep
  subst e2
  obtain ⟨kk, e, h3⟩ := h2.bind.opt
  have q12 : (PC.quiet ca && PC.quiet cb) = true → KO w σ H w2 H2 := fun z => (q1 (qAnd z).1).trans k k2 t2 (q2 (qAnd z).2)
  refine ⟨w2, σ, _, _, kk, k2, (t2.rep r1).cntC k2, r2.cntC k2, drf_cmp e, kk, rfl, ?_⟩
  cases kk with
  | false => exact h3 _ _ ⟨w2, rfl, k2, t1.trans k1 t2, fun z => q12 (qAnd z).1, fun _ => .bl _, fun z => by cases z⟩
  | true =>
    have h3 : Rp ((PC.evE G cf th cc w2.st).bind _) _ _ := h3
    refine ⟨w2, k2, h3.bind.mono (fun z s4 h4 v3 H3 p3 => ?_) (fun _ _ _ z => (z.after k1 t1).after k2 t2)⟩
    obtain ⟨w3, e3, k3, t3, q3, r3⟩ := p3.rep
    subst e3
    obtain ⟨jj, e', q⟩ := h4.bind.opt
    exact ⟨w3, σ, _, _, jj, k3, (t3.rep r2).cntC k3, r3.cntC k3, drf_cmp e', q _ _ ⟨w3, rfl, k3, (t1.trans k1 t2).trans k2 t3, fun z => (q12 (qAnd z).1).trans k k3 t3 (q3 (qAnd z).2), fun _ => .bl _, fun z => by cases z⟩⟩
theorem pe_chnC (hK : T.K = X.K) (hu : X.A.units + 65 < cLine) {o p : PC.COp} {a b c : Expr} {ca cb cc : E} {pos : Pos} (ha : PE X a (tE T G cf th W ca)) (hb : PE X b (tE T G cf th W cb)) (hc : PE X c (tE T G cf th W cc))
    (hm : lastMarks [cOp o, cOp p] [b, c] = false) : PE X (.Compare a [cOp o, cOp p] [b, c] pos) (tE T G cf th W (.chn o p ca cb cc)) :=
  peImp (pe_chain (op_cmp hK hu o) (op_cmp hK hu p) ha hb hc hm) fun σ H Q h => chn_of h
theorem pt_chnC (hK : T.K = X.K) (hu : X.A.units + 65 < cLine) {o p : PC.COp} {a b c : Expr} {ca cb cc : E} {pos : Pos} (ha : PE X a (tE T G cf th W ca)) (hb : PE X b (tE T G cf th W cb)) (hc : PE X c (tE T G cf th W cc))
    (hm : lastMarks [cOp o, cOp p] [b, c] = false) : PT X (.Compare a [cOp o, cOp p] [b, c] pos) (tTs T G cf th W (.chn o p ca cb cc)) :=
  ptImp (pt_chain (op_cmp hK hu o) (op_cmp hK hu p) ha hb hc hm) fun σ H Q h => chn_of (tt_of h)
/-! ### isinstance -/
/-- what the own classes are -/
structure IsF (T : Tb) : Prop where
  cls : ∀ C, T.own C = true → Cls T.K (T.clA C)
  cl : ∀ C, T.own C = true → PySem.W.findIn T.K (.ref (T.clA C)) "__class__" = some (some (.builtin "object.__class__"))
  gs : PySem.W.specialIn T.K (.builtin "object.__class__") "__get__" = some (some (.builtin "getset_descriptor.__get__"))
  tk : PySem.W.takesIn T.K (.builtin "object.__class__") = some true
  mro : ∀ C, T.own C = true → PySem.W.mroIn T.K (T.clA C) (.type "object") = some true
  bo : ∀ C n, T.own C = true → n ∈ ["NoneType", "bool", "int", "str", "list", "tuple", "dict"] → PySem.W.kitOne T.K (.type n) (.ref (T.clA C)) = some false
  ob : ∀ C n, T.own C = true → n ∈ ["bool", "int", "str", "list", "tuple"] → PySem.W.kitOne T.K (.ref (T.clA C)) (.type n) = some false
  oo : ∀ C D, T.own C = true → T.own D = true → PySem.W.kitOne T.K (.ref (T.clA C)) (.ref (T.clA D)) = some (C == D)
def tyName : D → String
  | .non => "NoneType"
  | .bl _ => "bool"
  | .int _ => "int"
  | .str _ => "str"
  | .lst _ => "list"
  | .scr _ => "list"
  | .dct _ => "dict"
  | _ => "tuple"
def tyN : PC.Ty → String
  | .int => "int"
  | .bool => "bool"
  | .str => "str"
  | .tup => "tuple"
  | .lst => "list"
  | .cls _ => ""
/-- a class as a value -/
def tyVal (T : Tb) : PC.Ty → Value
  | .cls C => .ref (T.clA C)
  | t => .type (tyN t)
def tyV' (T : Tb) : PC.Ty → V
  | .cls C => .ref (T.clA C)
  | t => .ty (tyN t)
def tyOwn (T : Tb) : PC.Ty → Bool
  | .cls C => T.own C
  | _ => true
theorem cls_v (t : PC.Ty) : ClsV (tyV' T t) (tyVal T t) := by
  cases t <;> first | exact .own _ | exact .ty _
theorem kit_b {K : PySem.W.Frag} (d : D) (t : PC.Ty) (hd : ∀ n, d ≠ .cell n) (ho : ∀ C fs, d ≠ .obj C fs) (he : ∀ C fs, d ≠ .exc C fs) (ht : ∀ C, t ≠ .cls C) (g : Gs) : PySem.W.kitOne K (.type (tyName d)) (.type (tyN t)) = some (PC.tyIs G g d t) := by
  refine kit_ty ?_
  cases d <;> first | exact absurd rfl (hd _) | exact absurd rfl (ho _ _) | exact absurd rfl (he _ _) | skip
  all_goals cases t <;> first | exact absurd rfl (ht _) | (show kitB _ _ = _; simp only [tyName, tyN, PC.tyIs]; decide +kernel)
/-- a value's type: a locked dict too -/
def TyZ (K : PySem.W.Frag) (H : Hp) (x : V) (t : Value) : Prop := TyX K H x t ∨ ∃ a o kvs, x = .ref a ∧ H a = some (.frz o (.dT kvs)) ∧ t = .type "dict"
theorem kit_z {pins : List (Addr × Obj)} {s : Shared} {x : V} {u t : Value} (I : Inv X pins σ H s) (rx : RelV x u) (ty : TyZ X.K H x t) : ∃ P : Heap → Prop, PySem.W.KitX X.K u t P ∧ P s.heap ∧ u ≠ .builtin "__main__.__loader__#opaque" := by
  rcases ty with ty | ⟨a, ob, kvs, rfl, ea, rfl⟩
  · exact kit_of I rx ty
  · cases (show u = Value.ref a from rx)
    obtain ⟨_, _, _, xs, _, o, es, ep, h1, h2, _⟩ := (show ObjOk X.prog X.w H s.heap a (.frz ob (.dT kvs)) from I.hok a _ ea)
    exact ⟨_, PySem.W.kitx_dict, ⟨o, h1, h2.1⟩, fun z => nomatch z⟩
def rIsiZ (K : PySem.W.Frag) : List V → Hp → VK → Prop := fun xs H Q => ∃ (x c : V) (t u : Value) (b : Bool), xs = [x, c] ∧ ClsV c u ∧ TyZ K H x t ∧ PySem.W.kitOne K t u = some b ∧ Q (.bl b) H
def rIsiZT (K : PySem.W.Frag) : List V → Hp → VK → Prop := fun xs H Q => ∃ (x : V) (tp : Addr) (cs : List V) (t : Value) (us : List Value) (b : Bool), xs = [x, .ref tp] ∧ H tp = some (.tup cs) ∧ Paired ClsV cs us ∧ TyZ K H x t ∧ PySem.W.kitAny K t us = some b ∧ Q (.bl b) H
theorem call_isiZ : CallR X (.builtin "isinstance") (rIsiZ X.K) := by
  intro pins s σ H xs us Q I r h
  obtain ⟨x, c, t, u, b, rfl, k, ty, e, q⟩ := h
  obtain ⟨u1, u2, rfl, r1, r2⟩ := vals2 r
  have e2 := k.eq r2
  subst e2
  obtain ⟨P, Z, p, hx⟩ := kit_z I r1 ty
  exact PySem.W.kia_one Z I.kIn p e hx fun tk => ⟨.bl b, H, I.tok tk, rfl, q⟩
theorem call_isiZT : CallR X (.builtin "isinstance") (rIsiZT X.K) := by
  intro pins s σ H xs us Q I r h
  obtain ⟨x, tp, cs, t, ws, b, rfl, hT, k, ty, e, q⟩ := h
  obtain ⟨u1, u2, rfl, r1, r2⟩ := vals2 r
  cases (show u2 = Value.ref tp from r2)
  obtain ⟨P, Z, p, hx⟩ := kit_z I r1 ty
  obtain ⟨_, its, rv, o, h1, h2, n, h3⟩ := (show ObjOk X.prog X.w H s.heap tp (.tup cs) from I.hok tp _ hT)
  have e3 := ClsV.all k rv
  subst e3
  obtain ⟨oc, od, dt, sl⟩ := o
  simp only at h2 h3
  subst h2 h3
  exact PySem.W.kia_tup Z I.kIn p h1 e hx fun tk => ⟨.bl b, H, I.tok tk, rfl, q⟩
/-- what a value's class is, what isinstance says -/
theorem isi_one (F : IsF T) (k : Ok T w σ H) {v : V} {d : D} (r : Rep T w.ι w.F v d) : ∃ tv, TyZ T.K H v tv ∧ ∀ t, tyOwn T t = true → PySem.W.kitOne T.K tv (tyVal T t) = some (PC.tyIs G w.g (PC.drf w.g d) t) := by
  have own : ∀ {d : D} {C : Nat}, T.own C = true → ∀ t, tyOwn T t = true → (PC.tyIs G w.g d t = (match t with
      | .cls D => C == D
      | _ => false)) → PySem.W.kitOne T.K (.ref (T.clA C)) (tyVal T t) = some (PC.tyIs G w.g d t) := fun {d} {C} hC t ht e => by
    rw [e]
    cases t <;> first | exact F.oo C _ hC ht | exact F.ob C _ hC (by decide)
  have blt : ∀ {d : D}, (∀ n, d ≠ .cell n) → (∀ C fs, d ≠ .obj C fs) → (∀ C fs, d ≠ .exc C fs) → ∀ t, tyOwn T t = true → PySem.W.kitOne T.K (.type (tyName d)) (tyVal T t) = some (PC.tyIs G w.g d t) := fun {d} h1 h2 h3 t ht => by
    cases t with
    | cls C =>
      have e : PC.tyIs G w.g d (.cls C) = false := by
        cases d <;> first | rfl | exact absurd rfl (h1 _) | exact absurd rfl (h2 _ _) | exact absurd rfl (h3 _ _)
      rw [e]
      refine F.bo C _ ht ?_
      cases d <;> simp [tyName]
    | _ => exact kit_b d _ h1 h2 h3 (fun _ z => by cases z) w.g
  cases r with
  | non => exact ⟨_, .inl (.base .non), blt (d := .non) (fun _ z => by cases z) (fun _ _ z => by cases z) (fun _ _ z => by cases z)⟩
  | bl b => exact ⟨_, .inl (.base (.bl b)), blt (d := .bl b) (fun _ z => by cases z) (fun _ _ z => by cases z) (fun _ _ z => by cases z)⟩
  | int b => exact ⟨_, .inl (.base (.int b)), blt (d := .int b) (fun _ z => by cases z) (fun _ _ z => by cases z) (fun _ _ z => by cases z)⟩
  | str b => exact ⟨_, .inl (.base (.str b)), blt (d := .str _) (fun _ z => by cases z) (fun _ _ z => by cases z) (fun _ _ z => by cases z)⟩
  | lst h r => exact ⟨_, .inl (.base (.lst (k.ex h rfl))), blt (d := .lst _) (fun _ z => by cases z) (fun _ _ z => by cases z) (fun _ _ z => by cases z)⟩
  | tup h r => exact ⟨_, .inl (.base (.tup (k.ex h rfl))), blt (d := .tup _) (fun _ z => by cases z) (fun _ _ z => by cases z) (fun _ _ z => by cases z)⟩
  | kt h c r =>
    obtain ⟨o, its, n, lk, cl, _⟩ := h
    exact ⟨_, .inl (.kTuple lk cl), blt (d := .tup _) (fun _ z => by cases z) (fun _ _ z => by cases z) (fun _ _ z => by cases z)⟩
  | dK h r =>
    refine ⟨.type "dict", ?_, blt (d := .dct _) (fun _ z => by cases z) (fun _ _ z => by cases z) (fun _ _ z => by cases z)⟩
    rcases k.rd h with e | ⟨o, e⟩
    · exact .inl (.base (.dK e))
    · exact .inl (.fDict e)
  | dT h r =>
    refine ⟨.type "dict", ?_, blt (d := .dct _) (fun _ z => by cases z) (fun _ _ z => by cases z) (fun _ _ z => by cases z)⟩
    rcases k.rd h with e | ⟨o, e⟩
    · exact .inl (.base (.dT e))
    · exact .inr ⟨_, o, _, rfl, e, rfl⟩
  | scrF h => exact ⟨_, .inl (.base (.lst (k.ex h rfl))), blt (d := .scr _) (fun _ z => by cases z) (fun _ _ z => by cases z) (fun _ _ z => by cases z)⟩
  | scr h =>
    refine ⟨.type "list", ?_, blt (d := .scr _) (fun _ z => by cases z) (fun _ _ z => by cases z) (fun _ _ z => by cases z)⟩
    rcases k.tb.s _ _ h with ⟨o, e⟩ | ⟨o, its, n, e, c, _⟩
    · exact .inl (.base (.frz e))
    · exact .inl (.kList e c)
  | obj o h r => exact ⟨_, .inl (.base (.ins (k.ex h rfl) (F.cls _ o) (F.cl _ o) F.gs F.tk (F.mro _ o))), fun t ht => own (d := .obj _ _) o t ht (by cases t <;> rfl)⟩
  | @cell n a h =>
    have hl : n < w.g.length := by rw [← k.len]; exact (List.getElem?_eq_some_iff.mp h).1
    have eg : w.g[n]? = some w.g[n] := List.getElem?_eq_getElem hl
    obtain ⟨_, c⟩ := k.cel n a _ h eg
    cases e : w.g[n] with
    | ref xs =>
      rw [e] at c eg
      obtain ⟨vs, c, _⟩ := c
      have z : PC.drf w.g (.cell n) = .lst xs := by simp only [PC.drf, eg]
      rw [z]
      exact ⟨_, .inl (.base (.lst c)), blt (d := .lst xs) (fun _ z => by cases z) (fun _ _ z => by cases z) (fun _ _ z => by cases z)⟩
    | inst C fs =>
      rw [e] at c eg
      obtain ⟨o, dx, es, c, _⟩ := c
      have z : PC.drf w.g (.cell n) = .cell n := by simp only [PC.drf, eg]
      rw [z]
      exact ⟨_, .inl (.base (.ins c (F.cls _ o) (F.cl _ o) F.gs F.tk (F.mro _ o))), fun t ht => own (d := .cell n) o t ht (by cases t <;> simp [PC.tyIs, eg])⟩
theorem evE_isi (a : E) (ts : List PC.Ty) (s : PC.St) : PC.evE G cf th (.isi a ts) s = (PC.evE G cf th a s).bind fun x s1 => .ok (.bl (ts.any fun t => PC.tyIs G s1.g (PC.drf s1.g x.1) t), false) s1 := by simp only [PC.evE]
theorem pe_isi1 (hK : T.K = X.K) (F : IsF T) {a ty : Expr} {x : Str} {ca : E} {t : PC.Ty} {p pos : Pos} (hg : Gl X x) (hm : X.mg x = none) (hv : bootBuiltins x = some (.builtin "isinstance")) (hn : x ≠ "__name__") (hdb : (x == ("__debug__" : Str)) = false)
    (ha : PE X a (tE T G cf th W ca)) (hs : nSt a = true) (hty : PE X ty (tC (tyV' T t))) (hs2 : nSt ty = true) (ho : tyOwn T t = true) : PE X (.Call (.Name x p) [a, ty] [] pos) (tE T G cf th W (.isi ca [t])) := by
  refine peImp (pe_callB call_isiZ hg hm hv (pa_cons ha (pa_cons hty pa_nil (star_ne hs2 _ _)) (star_ne hs _ _)) hn hdb (star_ne hs _ _) (back_no (by rw [List.all_cons, hs2]; rfl))) fun σ H Q ⟨w, k, h⟩ => ?_
  rw [evE_isi] at h
  refine ⟨w, k, h.bind.mono (fun x s1 h1 v1 H1 p1 => ?_) (fun _ _ _ z => z)⟩
  obtain ⟨w1, e1, k1, t1, q1, r1⟩ := p1.rep
  subst e1
  obtain ⟨tv, ty, hk⟩ := isi_one (G := G) F k1 r1
  refine ⟨v1, tyV' T t, tv, tyVal T t, _, rfl, cls_v t, hK ▸ ty, hK ▸ hk t ho, ?_⟩
  have e : (List.any [t] fun t => PC.tyIs G w1.st.g (PC.drf w1.st.g x.1) t) = PC.tyIs G w1.g (PC.drf w1.g x.1) t := by simp
  rw [e] at h1
  exact h1 _ _ ⟨w1, rfl, k1, t1, q1, fun _ => .bl _, fun z => by cases z⟩
/-- a row of classes -/
inductive TyL (X : Cx) (T : Tb) : List Expr → List PC.Ty → Prop
  | nil : TyL X T [] []
  | cons {e : Expr} {t : PC.Ty} {es : List Expr} {ts : List PC.Ty} : PE X e (tC (tyV' T t)) → nSt e = true → tyOwn T t = true → TyL X T es ts → TyL X T (e :: es) (t :: ts)
theorem TyL.pa {es : List Expr} {ts : List PC.Ty} (h : TyL X T es ts) : PA X es (fun _ H Q => Q (ts.map (tyV' T)) H) := by
  induction h with
  | nil => exact pa_nil
  | cons he hs _ _ ih => exact ptaImp (pa_cons he ih (star_ne hs _ _)) fun σ H Q h => h
theorem cls_all : ∀ ts : List PC.Ty, Paired ClsV (ts.map (tyV' T)) (ts.map (tyVal T))
  | [] => .nil
  | t :: ts => .cons (cls_v t) (cls_all ts)
theorem kit_all {tv : Value} {g : Gs} {d : D} (hk : ∀ t, tyOwn T t = true → PySem.W.kitOne T.K tv (tyVal T t) = some (PC.tyIs G g d t)) : ∀ {es : List Expr} {ts : List PC.Ty}, TyL X T es ts → PySem.W.kitAny T.K tv (ts.map (tyVal T)) = some (ts.any fun t => PC.tyIs G g d t)
  | _, _, .nil => rfl
  | _, _, .cons (t := t) (ts := ts) _ _ ho r => by
    refine kitAny_cons (hk t ho) (fun e => ?_) fun e => ?_
    · rw [List.any_cons, e, Bool.false_or]
      exact kit_all hk r
    · rw [List.any_cons, e, Bool.true_or]
theorem pe_isiT (hK : T.K = X.K) (F : IsF T) {a : Expr} {es : List Expr} {x : Str} {ca : E} {ts : List PC.Ty} {p p2 pos : Pos} {n : Nat} (hg : Gl X x) (hm : X.mg x = none) (hv : bootBuiltins x = some (.builtin "isinstance")) (hn : x ≠ "__name__") (hdb : (x == ("__debug__" : Str)) = false)
    (ha : PE X a (tE T G cf th W ca)) (hs : nSt a = true) (hty : TyL X T es ts) (hz : ts.length ≤ 1000) : PE X (.Call (.Name x p) [a, .Tuple es n p2] [] pos) (tE T G cf th W (.isi ca ts)) := by
  refine peImp (pe_callB call_isiZT hg hm hv (pa_cons ha (pa_cons (pe_tup hty.pa) pa_nil (star_ne rfl _ _)) (star_ne hs _ _)) hn hdb (star_ne hs _ _) (back_no rfl)) fun σ H Q ⟨w, k, h⟩ => ?_
  rw [evE_isi] at h
  refine ⟨w, k, h.bind.mono (fun x s1 h1 v1 H1 p1 => ?_) (fun _ _ _ z => z)⟩
  obtain ⟨w1, e1, k1, t1, q1, r1⟩ := p1.rep
  subst e1
  refine ⟨by rw [List.length_map]; exact Nat.le_of_lt (small1000 hz), fun tp hp => ?_⟩
  have kp : Keep H1 (upd H1 tp (.tup (ts.map (tyV' T)))) := Keep.new hp
  have k2 := k1.grow kp
  obtain ⟨tv, ty, hk⟩ := isi_one (G := G) F k2 r1
  refine ⟨v1, tp, _, tv, _, _, rfl, upd_same, cls_all ts, hK ▸ ty, hK ▸ kit_all hk hty, ?_⟩
  exact h1 _ _ ⟨w1, rfl, k2, t1.trans k1 (Stp.grow kp), fun z => (q1 z).grow k kp, fun _ => .bl _, fun z => by cases z⟩
end
end Br
end

section
set_option Elab.async false
set_option linter.all false
set_option maxRecDepth 100000
set_option maxHeartbeats 1000000
/-! Br15: worlds at a call. -/
namespace Br
open PySem PySem.Spec PySem.Calls PyProof.Rows L2
open PC (D E S Sl Cl Sg Gs Rs Re)

/-! ### fewer cells -/
theorem take_get {α : Type} {l : List α} {n i : Nat} (h : i < n) : (l.take n)[i]? = l[i]? := by
  rw [List.getElem?_take]
  rw [if_pos h]
section
variable {T : Tb} {ι : List Addr} {F : Hp}
mutual
theorem Rep.cut {n : Nat} : ∀ {v : V} {d : D}, Rep T ι F v d → PC.below n d = true → Rep T (ι.take n) F v d
  | _, _, .non, _ => .non
  | _, _, .bl b, _ => .bl b
  | _, _, .int i, _ => .int i
  | _, _, .str x, _ => .str x
  | _, _, .scr h, _ => .scr h
  | _, _, .scrF h, _ => .scrF h
  | _, _, .lst h r, e => .lst h (Reps.cut r (by simpa [PC.below] using e))
  | _, _, .tup h r, e => .tup h (Reps.cut r (by simpa [PC.below] using e))
  | _, _, .kt h c r, e => .kt h c (Reps.cut r (by simpa [PC.below] using e))
  | _, _, .dK h r, e => .dK h (RepK.cut r (by simpa [PC.below] using e))
  | _, _, .dT h r, e => .dT h (RepT.cut r (by simpa [PC.below] using e))
  | _, _, .obj o h r, e => .obj o h (RepF.cut r (by simpa [PC.below] using e))
  | _, _, .cell (n := k) h, e => .cell (by
      have e : k < n := by simpa [PC.below] using e
      rw [take_get e]
      exact h)
theorem Reps.cut {n : Nat} : ∀ {v : List V} {d : List D}, Reps T ι F v d → PC.belowL n d = true → Reps T (ι.take n) F v d
  | _, _, .nil, _ => .nil
  | _, _, .cons h r, e => by
    have e := qAnd (show (PC.below n _ && PC.belowL n _) = true from e)
    exact .cons (Rep.cut h e.1) (Reps.cut r e.2)
theorem RepK.cut {n : Nat} : ∀ {v : List (Key × V)} {d : List (D × D)}, RepK T ι F v d → PC.belowK n d = true → RepK T (ι.take n) F v d
  | _, _, .nil, _ => .nil
  | _, _, .cons h r, e => by
    have e := qAnd (show ((PC.below n _ && PC.below n _) && PC.belowK n _) = true from e)
    exact .cons (Rep.cut h (qAnd e.1).2) (RepK.cut r e.2)
theorem RepT.cut {n : Nat} : ∀ {v : List (List Key × V)} {d : List (D × D)}, RepT T ι F v d → PC.belowK n d = true → RepT T (ι.take n) F v d
  | _, _, .nil, _ => .nil
  | _, _, .cons h r, e => by
    have e := qAnd (show ((PC.below n _ && PC.below n _) && PC.belowK n _) = true from e)
    exact .cons (Rep.cut h (qAnd e.1).2) (RepT.cut r e.2)
theorem RepF.cut {n : Nat} : ∀ {v : List (Str × V)} {d : List (Nat × D)}, RepF T ι F v d → PC.belowF n d = true → RepF T (ι.take n) F v d
  | _, _, .nil, _ => .nil
  | _, _, .cons o h r, e => by
    have e := qAnd (show (PC.below n _ && PC.belowF n _) = true from e)
    exact .cons o (Rep.cut h e.1) (RepF.cut r e.2)
end
theorem CtL.cut {n : Nat} {H : Hp} {a : Addr} {d : D} (h : CtL T ι F H a d) (e : PC.below n d = true) : CtL T (ι.take n) F H a d := by
  cases d with
  | lst ds =>
    obtain ⟨vs, c, r⟩ := h
    exact ⟨vs, c, r.cut (by simpa [PC.below] using e)⟩
  | dct kvs =>
    rcases h with ⟨es, c, r⟩ | ⟨es, c, r⟩
    · exact .inl ⟨es, c, r.cut (by simpa [PC.below] using e)⟩
    · exact .inr ⟨es, c, r.cut (by simpa [PC.below] using e)⟩
  | _ => exact h.elim
theorem ClAt.cut {n : Nat} {H : Hp} {a : Addr} {c : Cl} (h : ClAt T ι F H a c) (e : PC.clB n c = true) : ClAt T (ι.take n) F H a c := by
  cases c with
  | ref ds =>
    obtain ⟨vs, c, r⟩ := h
    exact ⟨vs, c, r.cut (by simpa [PC.clB] using e)⟩
  | inst C fs =>
    obtain ⟨o, dx, es, c, r⟩ := h
    exact ⟨o, dx, es, c, r.cut (by simpa [PC.clB] using e)⟩
end
/-! ### a world without slots -/
def Wd.bare (w : Wd) : Wd := { w with s := [] }
section
variable {T : Tb} {w w0 w1 w2 w3 : Wd} {σ σ0 : L2.St} {H H0 H1 H2 H3 : Hp}
theorem no_own {a : Addr} {w : Wd} {σ : L2.St} (h : w.s = []) : ¬ Own w σ a := fun ⟨i, d, e, _⟩ => by
  rw [h] at e
  simp at e
theorem Ok.bare (k : Ok T w σ H) : Ok T w.bare [] H :=
  ⟨k.len, k.nd, k.sub, k.frz, k.cel, rfl, fun i d h => by simp [Wd.bare] at h, fun i d h => by simp [Wd.bare] at h, fun i j d e a h => by simp [Wd.bare] at h, k.tb⟩
/-- the caller's world again: m cells are left -/
structure Bk (T : Tb) (w w3 : Wd) (m : Nat) : Prop where
  hm : w.g.length ≤ m ∧ m ≤ w3.g.length
  all : m = w3.g.length ∨ (w3.g.take m).all (PC.clB m) = true
def Wd.under (w w3 : Wd) (m : Nat) : Wd := ⟨w3.ι.take m, w3.F, w.s, w3.g.take m⟩
theorem Bk.ok {m : Nat} (b : Bk T w w3 m) (k : Ok T w σ H) (k3 : Ok T w3 [] H3) (hi : ∀ (n : Nat) a, w.ι[n]? = some a → w3.ι[n]? = some a) (hf : ∀ a u, w.F a = some u → w3.F a = some u)
    (ho : ∀ a, Own w σ a → H3 a = H a ∧ a ∉ w3.ι ∧ w3.F a = none) : Ok T (w.under w3 m) σ H3 := by
  have i2 : ∀ (n : Nat) a, w.ι[n]? = some a → (w3.ι.take m)[n]? = some a := fun n a h => by
    have hn : n < w.g.length := by rw [← k.len]; exact (List.getElem?_eq_some_iff.mp h).1
    rw [take_get (Nat.lt_of_lt_of_le hn b.hm.1)]
    exact hi n a h
  refine ⟨?_, k3.nd.sublist (List.take_sublist _ _), k3.sub, k3.frz, fun n a c h1 h2 => ?_, k.sl, fun i d h => ?_, fun i d h => ?_, k.ap, k3.tb⟩
  · show (w3.ι.take m).length = (w3.g.take m).length
    rw [List.length_take, List.length_take, k3.len]
  · have hn : n < m := by
      have z : n < (w3.ι.take m).length := (List.getElem?_eq_some_iff.mp h1).1
      rw [List.length_take] at z
      omega
    have h1' : w3.ι[n]? = some a := by
      rw [← take_get hn]
      exact h1
    have h2' : w3.g[n]? = some c := by
      rw [← take_get hn]
      exact h2
    obtain ⟨f, ca⟩ := k3.cel n a c h1' h2'
    refine ⟨f, ?_⟩
    rcases b.all with e | e
    · have : w3.ι.take m = w3.ι := by rw [e, ← k3.len, List.take_length]
      show ClAt T (w3.ι.take m) w3.F H3 a c
      rw [this]
      exact ca
    · exact ca.cut (List.all_eq_true.mp e c (List.mem_of_getElem? h2))
  · obtain ⟨v, h1, r⟩ := k.va i d h
    exact ⟨v, h1, r.mono i2 hf⟩
  · obtain ⟨a, h1, h2, h3, h4⟩ := k.ow i d h
    obtain ⟨e1, e2, e3⟩ := ho a ⟨i, d, h, h1⟩
    exact ⟨a, h1, e3, fun z => e2 (List.mem_of_mem_take z), (h4.at e1).mono i2 hf⟩
/-! ### arguments -/
/-- a list becomes a cell -/
def Wd.cell (w : Wd) (a : Addr) (c : Cl) : Wd := { w with ι := w.ι ++ [a], g := w.g ++ [c] }
theorem app_get {α : Type} {l : List α} {x y : α} {i : Nat} (h : (l ++ [x])[i]? = some y) : l[i]? = some y ∨ (i = l.length ∧ y = x) := by
  rw [List.getElem?_append] at h
  split at h
  · exact .inl h
  · right
    have e : i - l.length = 0 := by
      have := (List.getElem?_eq_some_iff.mp h).1
      simp at this
      omega
    rw [e] at h
    simp at h
    exact ⟨by omega, h.symm⟩
theorem get_app {α : Type} {l : List α} {x y : α} {i : Nat} (h : l[i]? = some y) : (l ++ [x])[i]? = some y := by
  rw [List.getElem?_append, if_pos (List.getElem?_eq_some_iff.mp h).1]
  exact h
theorem Ok.cell (k : Ok T w σ H) {a : Addr} {c : Cl} (hf : w.F a = none) (hi : a ∉ w.ι) (ho : ¬ Own w σ a) (hc : ClAt T w.ι w.F H a c) : Ok T (w.cell a c) σ H := by
  have i2 : ∀ (n : Nat) b, w.ι[n]? = some b → (w.cell a c).ι[n]? = some b := fun n b h => get_app h
  refine ⟨?_, ?_, k.sub, k.frz, fun n b e h1 h2 => ?_, k.sl, fun i d h => ?_, fun i d h => ?_, k.ap, k.tb⟩
  · show (w.ι ++ [a]).length = (w.g ++ [c]).length
    rw [List.length_append, List.length_append, k.len]
    rfl
  · show (w.ι ++ [a]).Nodup
    rw [List.nodup_append]
    exact ⟨k.nd, by simp, fun x hx y hy e => by
      simp at hy
      exact hi (by rw [← hy, ← e]; exact hx)⟩
  · rcases app_get h1 with p1 | ⟨e1, rfl⟩
    · rcases app_get h2 with p2 | ⟨e2, rfl⟩
      · obtain ⟨f, ca⟩ := k.cel n b e p1 p2
        exact ⟨f, ca.mono i2 fun _ _ h => h⟩
      · have := (List.getElem?_eq_some_iff.mp p1).1
        rw [k.len] at this
        omega
    · have e2 : e = c := by
        rcases app_get h2 with p2 | ⟨_, e2⟩
        · have := (List.getElem?_eq_some_iff.mp p2).1
          rw [k.len] at e1
          omega
        · exact e2
      subst e2
      exact ⟨hf, hc.mono i2 fun _ _ h => h⟩
  · obtain ⟨v, h1, r⟩ := k.va i d h
    exact ⟨v, h1, r.mono i2 fun _ _ h => h⟩
  · obtain ⟨b, h1, h2, h3, h4⟩ := k.ow i d h
    refine ⟨b, h1, h2, fun z => ?_, h4.mono i2 fun _ _ h => h⟩
    rcases List.mem_append.mp z with z | z
    · exact h3 z
    · simp at z
      exact ho (z ▸ ⟨i, d, h, h1⟩)
/-- arguments at the callee -/
structure Ag (T : Tb) (w : Wd) (σ : L2.St) (H : Hp) (vs : List V) (xs : List (D × Bool)) (ds : List D) (g : Gs) (w2 : Wd) : Prop where
  s : w2.s = w.s
  g : w2.g = g
  ok : Ok T w2 σ H
  ι : ∀ (n : Nat) a, w.ι[n]? = some a → w2.ι[n]? = some a
  F : ∀ a u, w.F a = some u → w2.F a = some u
  ni : ∀ a, a ∈ w2.ι → a ∈ w.ι ∨ a ∈ frA vs xs
  nf : ∀ a, a ∉ frA vs xs → w2.F a = w.F a
  rs : Reps T w2.ι w2.F vs ds
theorem args_ok : ∀ {vs : List V} {xs : List (D × Bool)} (bs : List Bool) {w : Wd}, Ok T w σ H → AL T w σ H vs xs → ∃ w2, Ag T w σ H vs xs (PC.args bs xs w.g).1 (PC.args bs xs w.g).2 w2
  | _, _, bs, w, k, .nil => ⟨w, rfl, by cases bs with
    | nil => rfl
    | cons b bs => cases b <;> rfl, k, fun _ _ h => h, fun _ _ h => h, fun _ h => .inl h, fun _ _ => rfl, by cases bs with
    | nil => exact .nil
    | cons b bs => cases b <;> exact .nil⟩
  | _, _, bs, w, k, .rep (v := v) (d := d) (vs := vs) (xs := xs) r t => by
    have e : ∃ bs', PC.args bs ((d, false) :: xs) w.g = (d :: (PC.args bs' xs w.g).1, (PC.args bs' xs w.g).2) := by
      cases bs with
      | nil => exact ⟨[], by simp only [PC.args]⟩
      | cons b bs => exact ⟨bs, by cases b <;> cases d <;> simp only [PC.args]⟩
    obtain ⟨bs', e⟩ := e
    obtain ⟨w2, a⟩ := args_ok bs' k t
    refine ⟨w2, a.s, by rw [e]; exact a.g, a.ok, a.ι, a.F, fun b hb => ?_, fun b hb => ?_, ?_⟩
    · rw [frA_rep]; exact a.ni b hb
    · rw [frA_rep] at hb; exact a.nf b hb
    · rw [e]
      exact .cons (r.mono a.ι a.F) a.rs
  | _, _, bs, w, k, .new (a := p) (d := d) (vs := vs) (xs := xs) f c hn t => by
    have know : ∀ bs', PC.args bs ((d, true) :: xs) w.g = (d :: (PC.args bs' xs w.g).1, (PC.args bs' xs w.g).2) → ∃ w2, Ag T w σ H (.ref p :: vs) ((d, true) :: xs) (PC.args bs ((d, true) :: xs) w.g).1 (PC.args bs ((d, true) :: xs) w.g).2 w2 := fun bs' e => by
      obtain ⟨u, hu, nf, rr⟩ := c.u
      have k1 := k.know f hu nf
      have al1 : AL T (w.know p u) σ H vs xs := by
        clear e
        have hm := know_mono (u := u) f.f
        induction t with
        | nil => exact .nil
        | rep r _ ih => exact .rep (r.mono (fun _ _ h => h) hm) (ih (by rw [frA_rep] at hn; exact hn))
        | @new q d' vs' xs' f' c' hn' _ ih =>
          refine .new ⟨?_, f'.i, f'.o⟩ (c'.mono (fun _ _ h => h) hm) hn' (ih fun z => hn (List.mem_cons_of_mem _ z))
          show upd w.F p u q = none
          rw [upd_ne fun z => hn (by subst z; exact List.mem_cons_self)]
          exact f'.f
      obtain ⟨w2, a⟩ := args_ok bs' k1 al1
      refine ⟨w2, a.s, by rw [e]; exact a.g, a.ok, a.ι, fun b x h => a.F b x (know_mono f.f b x h), fun b hb => ?_, fun b hb => ?_, ?_⟩
      · rcases a.ni b hb with z | z
        · exact .inl z
        · exact .inr (List.mem_cons_of_mem _ z)
      · have h1 : b ≠ p := fun z => hb (by subst z; exact List.mem_cons_self)
        rw [a.nf b fun z => hb (List.mem_cons_of_mem _ z)]
        exact upd_ne h1
      · rw [e]
        exact .cons (rr _ (fun b x h => a.F b x (know_mono f.f b x h)) (a.F _ _ upd_same) |>.mono a.ι fun _ _ h => h) a.rs
    cases bs with
    | nil => exact know [] (by simp only [PC.args])
    | cons b bs =>
      cases b with
      | false => exact know bs (by cases d <;> simp only [PC.args])
      | true =>
        cases d with
        | lst ds =>
          obtain ⟨us, hu, ru⟩ := c
          have k1 : Ok T (w.cell p (.ref ds)) σ H := k.cell f.f f.i f.o ⟨us, hu, ru⟩
          have al1 : AL T (w.cell p (.ref ds)) σ H vs xs := by
            have hm : ∀ (n : Nat) b, w.ι[n]? = some b → (w.cell p (.ref ds)).ι[n]? = some b := fun n b h => get_app h
            clear know
            induction t with
            | nil => exact .nil
            | rep r _ ih => exact .rep (r.mono hm fun _ _ h => h) (ih (by rw [frA_rep] at hn; exact hn))
            | @new q d' vs' xs' f' c' hn' _ ih =>
              refine .new ⟨f'.f, fun z => ?_, f'.o⟩ (c'.mono hm fun _ _ h => h) hn' (ih fun z => hn (List.mem_cons_of_mem _ z))
              rcases List.mem_append.mp z with z | z
              · exact f'.i z
              · simp at z
                exact hn (by rw [← z]; exact List.mem_cons_self)
          obtain ⟨w2, a⟩ := args_ok bs k1 al1
          have e : PC.args (true :: bs) ((.lst ds, true) :: xs) w.g = (.cell w.g.length :: (PC.args bs xs (w.g ++ [.ref ds])).1, (PC.args bs xs (w.g ++ [.ref ds])).2) := by simp only [PC.args]
          refine ⟨w2, a.s, by rw [e]; exact a.g, a.ok, fun n b h => a.ι n b (get_app h), a.F, fun b hb => ?_, fun b hb => ?_, ?_⟩
          · rcases a.ni b hb with z | z
            · rcases List.mem_append.mp z with z | z
              · exact .inl z
              · simp at z
                exact .inr (by rw [z]; exact List.mem_cons_self)
            · exact .inr (List.mem_cons_of_mem _ z)
          · exact a.nf b fun z => hb (List.mem_cons_of_mem _ z)
          · rw [e]
            refine .cons (.cell (a.ι _ _ ?_)) a.rs
            show (w.ι ++ [p])[w.g.length]? = some p
            rw [← k.len]
            simp
        | dct kvs => exact know bs (by simp only [PC.args])
        | _ => exact c.elim
end
end Br
end

section
set_option Elab.async false
set_option linter.all false
set_option maxRecDepth 100000
set_option maxHeartbeats 1000000
/-! Br16: calls. -/
namespace Br
open PySem PySem.Spec PySem.Calls PyProof.Rows L2
open PC (D E S Sl Cl Sg Gs Rs Re)

section
variable {T : Tb} {w w0 w1 w2 w3 : Wd} {σ σ0 : L2.St} {H H0 H1 H2 H3 : Hp}
/-- behind a body -/
def RP (T : Tb) (w : Wd) (H : Hp) (d : D) (fr : Bool) (g : Gs) (v : V) (H' : Hp) : Prop :=
  ∃ w' : Wd, w'.s = [] ∧ w'.g = g ∧ Ok T w' [] H' ∧ Stp w [] H w' [] H' ∧ (fr = false → Rep T w'.ι w'.F v d) ∧ (fr = true → ∃ a, v = .ref a ∧ H a = none ∧ w'.F a = none ∧ a ∉ w'.ι ∧ CtL T w'.ι w'.F H' a d)
/-- a body's start -/
def st0 (fd : PC.Fd) (ds : List D) (g : Gs) : PC.St := ⟨ds.map .va ++ List.replicate (fd.ns - ds.length) .un, g⟩
/-- what a def promises: by its body -/
def spB (T : Tb) (G : PC.Gl) (cf : PC.CF) (fd : PC.Fd) : Sp := fun vs H Q _ => ∃ (w : Wd) (ds : List D), w.s = [] ∧ Ok T w [] H ∧ Reps T w.ι w.F vs ds ∧ ds.length = fd.ps ∧
  match PC.evSs G cf none fd.body (st0 fd ds w.g) with
  | .ok (.rt d fr) s => ∀ v H', RP T w H d fr s.g v H' → Q v H'
  | .ok .nx s => ∀ H', RP T w H .non false s.g .non H' → Q .non H'
  | _ => False
theorem pre_len {ι ι' : List Addr} (h : ∀ (n : Nat) a, ι[n]? = some a → ι'[n]? = some a) : ι.length ≤ ι'.length := by
  cases e : ι.length with
  | zero => exact Nat.zero_le _
  | succ n =>
    have hn : n < ι.length := by omega
    have := h n ι[n] (List.getElem?_eq_getElem hn)
    have := (List.getElem?_eq_some_iff.mp this).1
    omega
theorem fin_ok {n : Nat} {d : D} {fr : Bool} {g : Gs} (hn : n ≤ g.length) : ∃ m, PC.fin n d fr g = .ok d fr (g.take m) ∧ n ≤ m ∧ m ≤ g.length ∧ (m = g.length ∨ (PC.below m d = true ∧ (g.take m).all (PC.clB m) = true)) := by
  unfold PC.fin
  split
  · exact ⟨g.length, by rw [List.take_length], hn, Nat.le_refl _, .inl rfl⟩
  · split
    · rename_i h
      exact ⟨n, rfl, Nat.le_refl _, hn, .inr (qAnd h)⟩
    · exact ⟨g.length, by rw [List.take_length], hn, Nat.le_refl _, .inl rfl⟩
/-- what an expression's end asks of the world w' -/
def EPw (T : Tb) (w : Wd) (σ : L2.St) (H : Hp) (q : Bool) (r : D × Bool) (st : PC.St) (v : V) (H' : Hp) (w' : Wd) : Prop :=
  w'.st = st ∧ Ok T w' σ H' ∧ Stp w σ H w' σ H' ∧ (q = true → KO w σ H w' H') ∧
    (r.2 = false → Rep T w'.ι w'.F v r.1) ∧ (r.2 = true → ∃ a, v = .ref a ∧ H a = none ∧ Free w' σ H' a ∧ CtL T w'.ι w'.F H' a r.1)
/-- the caller's things behind the call -/
structure Bak (w1 : Wd) (σ : L2.St) (H1 : Hp) (w' : Wd) (H' : Hp) : Prop where
  ι : ∀ (n : Nat) a, w1.ι[n]? = some a → w'.ι[n]? = some a
  F : ∀ a u, w1.F a = some u → w'.F a = some u
  own : ∀ a, Own w1 σ a → H' a = H1 a ∧ a ∉ w'.ι ∧ w'.F a = none
/-- behind the call: the caller's world -/
theorem back_of {vs : List V} {xs : List (D × Bool)} {ds : List D} {g2 g3 : Gs} {q : Bool} {d : D} {fr : Bool} {m : Nat} {v : V} {H' : Hp} (k : Ok T w σ H) (k1 : Ok T w1 σ H1) (s1 : Stp w σ H w1 σ H1) (q1 : q = true → KO w σ H w1 H1) (al : AL T w1 σ H1 vs xs) (hn : ∀ a ∈ frA vs xs, H a = none)
    (ag : Ag T w1 σ H1 vs xs ds g2 w2) (rp : RP T w2.bare H1 d fr g3 v H') (h1 : w1.g.length ≤ m) (h2 : m ≤ g3.length) (hm : m = g3.length ∨ (PC.below m d = true ∧ (g3.take m).all (PC.clB m) = true)) : ∃ w', EPw T w σ H q (d, fr) ⟨w1.s, g3.take m⟩ v H' w' ∧ Bak w1 σ H1 w' H' := by
  obtain ⟨w3, e3, eg, k3, s3, r1, r2⟩ := rp
  subst eg
  have hi : ∀ (n : Nat) a, w1.ι[n]? = some a → w3.ι[n]? = some a := fun n a h => s3.ι n a (ag.ι n a h)
  have hf : ∀ a u, w1.F a = some u → w3.F a = some u := fun a u h => s3.F a u (ag.F a u h)
  have nob : ∀ a, ¬ Own w2.bare [] a := fun a => no_own rfl
  -- what is there, nobody's in the callee: it stays
  have stay : ∀ a o, H1 a = some o → nT o = true → a ∉ w1.ι → a ∉ frA vs xs → H' a = some o := fun a o h ht hι hfr => s3.kp a o h ht (fun z => (ag.ni a z).elim hι hfr) (nob a)
  have free : ∀ a o, H1 a = some o → ¬ isTup (H1 a) → w1.F a = none → a ∉ w1.ι → a ∉ frA vs xs → w3.F a = none ∧ a ∉ w3.ι := fun a o h ht hF hι hfr => by
    obtain ⟨z1, z2, _⟩ := s3.fr a o h ht ((ag.nf a hfr).trans hF) (fun z => (ag.ni a z).elim hι hfr) (nob a)
    exact ⟨z1, z2⟩
  have own : ∀ a, Own w1 σ a → H' a = H1 a ∧ a ∉ w3.ι ∧ w3.F a = none := fun a ha => by
    obtain ⟨f, i, o, ho, nt⟩ := k1.own_at ha
    have hfr : a ∉ frA vs xs := fun z => (al.fr a z).1.o ha
    obtain ⟨z1, z2⟩ := free a o ho nt f i hfr
    exact ⟨(stay a o ho (nT_of ho nt) i hfr).trans ho.symm, z2, z1⟩
  have bk : Bk T w1 w3 m := ⟨⟨h1, h2⟩, hm.imp id fun z => z.2⟩
  have kk := bk.ok k1 k3 hi hf own
  have ri : ∀ (n : Nat) a, w1.ι[n]? = some a → (w1.under w3 m).ι[n]? = some a := fun n a h => by
    have hl : n < w1.g.length := by rw [← k1.len]; exact (List.getElem?_eq_some_iff.mp h).1
    show (w3.ι.take m)[n]? = some a
    rw [take_get (Nat.lt_of_lt_of_le hl h1)]
    exact hi n a h
  have pass : ∀ c o, H c = some o → nT o = true → c ∉ w.ι → ¬ Own w σ c → H1 c = some o ∧ c ∉ w1.ι ∧ ¬ Own w1 σ c ∧ c ∉ frA vs xs := fun c o z1 zt z2 z3 => by
    have e := s1.kp c o z1 zt z2 z3
    have hfr : c ∉ frA vs xs := fun z => by rw [hn c z] at z1; cases z1
    cases f : w.F c with
    | some u =>
      obtain ⟨y1, y2⟩ := k1.known (s1.F c u f)
      exact ⟨e, y1, y2, hfr⟩
    | none =>
      by_cases t : isTup (H c)
      · have t1 : isTup (H1 c) := by
          rw [e, ← z1]
          exact t
        exact ⟨e, fun z => (k1.cell_at z).2.choose_spec.2 t1, fun z => (k1.own_at z).2.2.choose_spec.2 t1, hfr⟩
      · obtain ⟨_, y1, y2⟩ := s1.fr c o z1 t f z2 z3
        exact ⟨e, y1, y2, hfr⟩
  have st : Stp w σ H (w1.under w3 m) σ H' := by
    refine ⟨fun n a h => ri n a (s1.ι n a h), fun a u h => hf a u (s1.F a u h), fun a o z1 zt z2 z3 => ?_, fun a o z1 t f z2 z3 => ?_, fun a h => s1.tr a (s3.tr a h), fun a h => s1.nw a h⟩
    · obtain ⟨y1, y2, _, y4⟩ := pass a o z1 zt z2 z3
      exact stay a o y1 zt y2 y4
    · obtain ⟨y1, y2, y3, y4⟩ := pass a o z1 (nT_of z1 t) z2 z3
      have f1 := (s1.fr a o z1 t f z2 z3).1
      obtain ⟨x1, x2⟩ := free a o y1 (by rw [y1, ← z1]; exact t) f1 y2 y4
      exact ⟨x1, fun z => x2 (List.mem_of_mem_take z), y3⟩
  have ko : q = true → KO w σ H (w1.under w3 m) H' := fun z a ha => by
    obtain ⟨e1, i1⟩ := q1 z a ha
    obtain ⟨_, _, o, ho, nt⟩ := k.own_at ha
    have hfr : a ∉ frA vs xs := fun y => by rw [hn a y] at ho; cases ho
    have h1a : H1 a = some o := e1.trans ho
    refine ⟨(stay a o h1a (nT_of ho nt) i1 hfr).trans ho.symm, fun y => ?_⟩
    have y := List.mem_of_mem_take y
    cases f : w1.F a with
    | some u => exact (k3.known (hf a u f)).1 y
    | none => exact (free a o h1a (by rw [e1]; exact nt) f i1 hfr).2 y
  have cutR : ∀ {v : V} {d : D}, (m = w3.g.length ∨ PC.below m d = true) → Rep T w3.ι w3.F v d → Rep T (w3.ι.take m) w3.F v d := fun {v d} h r => by
    rcases h with h | h
    · rw [h, ← k3.len, List.take_length]
      exact r
    · exact r.cut h
  refine ⟨w1.under w3 m, ⟨rfl, kk, st, ko, fun z => cutR (hm.imp id fun z => z.1) (r1 z), fun z => ?_⟩, ri, hf, fun a ha => ⟨(own a ha).1, fun z => (own a ha).2.1 (List.mem_of_mem_take z), (own a ha).2.2⟩⟩
  obtain ⟨a, rfl, ha, fa, ia, ca⟩ := r2 z
  refine ⟨a, rfl, s1.tr a ha, ⟨fa, fun z => ia (List.mem_of_mem_take z), fun z => ?_⟩, ?_⟩
  · obtain ⟨_, _, o, ho, _⟩ := k1.own_at (show Own w1 σ a from z)
    rw [ha] at ho
    cases ho
  · rcases hm with h | h
    · show CtL T (w3.ι.take m) w3.F H' a d
      rw [h, ← k3.len, List.take_length]
      exact ca
    · exact ca.cut h.1
/-- a call asks what the callee promises -/
theorem call_coreS {G : PC.Gl} {n f : Nat} {vs : List V} {xs : List (D × Bool)} {q : Bool} {Q : VK} {E : XK} (k : Ok T w σ H) (k1 : Ok T w1 σ H1) (s1 : Stp w σ H w1 σ H1) (q1 : q = true → KO w σ H w1 H1) (al : AL T w1 σ H1 vs xs) (hn : ∀ a ∈ frA vs xs, H a = none)
    (h : Rp ((PC.evFn G (n + 1) f xs none w1.g).rs w1.s) (fun r st => ∀ v H' w', EPw T w σ H q r st v H' w' → Bak w1 σ H1 w' H' → Q v H') (fun _ _ _ => False)) : ∃ fd, G.fn f = some fd ∧ spB T G (PC.evFn G n) fd vs H1 Q E := by
  unfold PC.evFn at h
  cases hf : G.fn f with
  | none =>
    rw [hf] at h
    exact h.elim
  | some fd =>
    rw [hf] at h
    refine ⟨fd, rfl, ?_⟩
    by_cases hl : xs.length = fd.ps
    · have h : Rp ((if xs.length + (if (none : Option (Gs → Re)).isSome then 1 else 0) = fd.ps then _ else Re.no).rs w1.s) _ _ := h
      rw [if_pos (by simpa using hl)] at h
      obtain ⟨w2, ag⟩ := args_ok fd.refs k1 al
      have hd : (PC.args fd.refs xs w1.g).1.length = xs.length := by rw [← ag.rs.length, al.length]
      refine ⟨w2.bare, _, rfl, ag.ok.bare, ag.rs, by rw [hd]; exact hl, ?_⟩
      have est : st0 fd (PC.args fd.refs xs w1.g).1 w2.bare.g = ⟨(PC.args fd.refs xs w1.g).1.map .va ++ List.replicate (fd.ns - xs.length) .un, (PC.args fd.refs xs w1.g).2⟩ := by
        unfold st0
        rw [hd]
        show (⟨_, w2.g⟩ : PC.St) = _
        rw [ag.g]
      rw [est]
      have hlen : ∀ {w3 : Wd} {H' : Hp}, Ok T w3 [] H' → Stp w2.bare [] H1 w3 [] H' → w1.g.length ≤ w3.g.length := fun {w3 H'} k3 s3 => by
        rw [← k1.len, ← k3.len]
        exact pre_len fun n a h => s3.ι n a (ag.ι n a h)
      dsimp only at h
      revert h
      cases PC.evSs G (PC.evFn G n) none fd.body ⟨(PC.args fd.refs xs w1.g).1.map .va ++ List.replicate (fd.ns - xs.length) .un, (PC.args fd.refs xs w1.g).2⟩ with
      | no => exact fun h => h.elim
      | ex C fs s =>
        intro h
        have h : Rp ((PC.finX w1.g.length C fs s.g).rs w1.s) _ _ := h
        unfold PC.finX at h
        split at h
        · exact h
        · split at h <;> exact h
      | ok fl s =>
        cases fl with
        | nx =>
          intro h H' rp
          have h : Rp ((PC.fin w1.g.length .non false s.g).rs w1.s) _ _ := h
          obtain ⟨w3, e3, eg, k3, s3, _⟩ := id rp
          obtain ⟨m, em, m1, m2, m3⟩ := fin_ok (d := .non) (fr := false) (g := s.g) (n := w1.g.length) (by rw [← eg]; exact hlen k3 s3)
          rw [em] at h
          obtain ⟨w', y1, y2⟩ := back_of k k1 s1 q1 al hn ag rp m1 m2 m3
          exact h _ _ w' y1 y2
        | rt d fr =>
          intro h v H' rp
          have h : Rp ((PC.fin w1.g.length d fr s.g).rs w1.s) _ _ := h
          obtain ⟨w3, e3, eg, k3, s3, _⟩ := id rp
          obtain ⟨m, em, m1, m2, m3⟩ := fin_ok (d := d) (fr := fr) (g := s.g) (n := w1.g.length) (by rw [← eg]; exact hlen k3 s3)
          rw [em] at h
          obtain ⟨w', y1, y2⟩ := back_of k k1 s1 q1 al hn ag rp m1 m2 m3
          exact h _ _ w' y1 y2
        | bk => exact fun h => h.elim
        | ct => exact fun h => h.elim
    · have h : Rp ((if xs.length + (if (none : Option (Gs → Re)).isSome then 1 else 0) = fd.ps then _ else Re.no).rs w1.s) _ _ := h
      rw [if_neg (by simpa using hl)] at h
      exact h.elim
/-- what a def promises at a level: nothing at the lowest -/
def spL (T : Tb) (G : PC.Gl) : Nat → PC.Fd → Sp
  | 0, _ => fun _ _ _ _ => False
  | n + 1, fd => spB T G (PC.evFn G n) fd
theorem evFn_no {G : PC.Gl} {n f : Nat} {xs : List (D × Bool)} {g : Gs} (h : G.fn f = none) : PC.evFn G n f xs none g = .no := by
  cases n with
  | zero => rfl
  | succ n =>
    unfold PC.evFn
    rw [h]
theorem call_coreB {G : PC.Gl} {n f : Nat} {vs : List V} {xs : List (D × Bool)} {q : Bool} {Q : VK} {E : XK} (k : Ok T w σ H) (k1 : Ok T w1 σ H1) (s1 : Stp w σ H w1 σ H1) (q1 : q = true → KO w σ H w1 H1) (al : AL T w1 σ H1 vs xs) (hn : ∀ a ∈ frA vs xs, H a = none)
    (h : Rp ((PC.evFn G n f xs none w1.g).rs w1.s) (fun r st => ∀ v H' w', EPw T w σ H q r st v H' w' → Bak w1 σ H1 w' H' → Q v H') (fun _ _ _ => False)) : ∃ fd, G.fn f = some fd ∧ spL T G n fd vs H1 Q E := by
  cases n with
  | zero => exact h.elim
  | succ n => exact call_coreS (E := E) k k1 s1 q1 al hn h
theorem call_core {G : PC.Gl} {n f : Nat} {vs : List V} {xs : List (D × Bool)} {q : Bool} {Q : VK} {E : XK} (k : Ok T w σ H) (k1 : Ok T w1 σ H1) (s1 : Stp w σ H w1 σ H1) (q1 : q = true → KO w σ H w1 H1) (al : AL T w1 σ H1 vs xs) (hn : ∀ a ∈ frA vs xs, H a = none)
    (h : Rp ((PC.evFn G n f xs none w1.g).rs w1.s) (fun r st => ∀ v H', EP T w σ H q r st v H' → Q v H') (fun _ _ _ => False)) : ∃ fd, G.fn f = some fd ∧ spL T G n fd vs H1 Q E :=
  call_coreB k k1 s1 q1 al hn (h.mono (fun r st z v H' w' e _ => z v H' ⟨w', e⟩) fun _ _ _ z => z)
end
end Br
end

section
set_option Elab.async false
set_option linter.all false
set_option maxRecDepth 100000
set_option maxHeartbeats 1000000
/-! Br17: calls with positional values and keywords, of defs, classes, methods. -/
namespace Br
open PySem PySem.Spec PySem.Calls PyProof.Rows L2

/-- the keywords' names -/
def kwN : List Keyword → Option (List Str)
  | [] => some []
  | ⟨some x, _, _⟩ :: r => (kwN r).map (x :: ·)
  | _ :: _ => none
theorem kw_facts {pos : Pos} {env : Env} : ∀ {kws : List Keyword} {ks : List Str}, kwN kws = some ks →
    (backToKw pos (keywordEach kws env)).all (·.1.isSome) = true ∧ (backToKw pos (keywordEach kws env)).filterMap (·.1) = ks ∧ (backToKw pos (keywordEach kws env)).any (·.1.isNone) = false
  | [], ks, h => by cases h; exact ⟨rfl, rfl, rfl⟩
  | ⟨some x, e, p⟩ :: r, ks, h => by
    obtain ⟨l, hl, rfl⟩ := Option.map_eq_some_iff.mp (show (kwN r).map (x :: ·) = some ks from h)
    obtain ⟨h1, h2, h3⟩ := kw_facts (pos := pos) (env := env) hl
    refine ⟨?_, ?_, ?_⟩
    · show (true && (backToKw pos (keywordEach r env)).all (·.1.isSome)) = true
      rw [h1] <;> rfl
    · show x :: (backToKw pos (keywordEach r env)).filterMap (·.1) = x :: l
      rw [h2]
    · show (false || (backToKw pos (keywordEach r env)).any (·.1.isNone)) = false
      rw [h3] <;> rfl
  | ⟨none, e, p⟩ :: r, ks, h => by cases h
section
variable {X : Cx} {pins : List (Addr × Obj)} {σ : L2.St} {H : Hp} {s : Shared} {f : Value} {first : List Value} {pos : Pos} {args : List Expr} {kws : List Keyword} {ks : List Str} {ta tk : TA} {R : List V → List V → Hp → Prop} {Q' : Value → Shared → Prop}
theorem cw_run {e : Expr} {es : List Expr} (ha : PA X (e :: es) ta) (hk : PK X kws tk) (hn : kwN kws = some ks) (hst : (e :: es).all nSt = true) (hkp : PySem.W.keepIn X.K f = true) (I : Inv X pins σ H s) (h : ta σ H fun vs H1 => tk σ H1 fun zs H2 => R vs zs H2)
    (cont : ∀ us ws vs zs s' H', Inv X pins σ H' s' → Vals vs us → Vals zs ws → R vs zs H' → wpAny (model X.prog X.w) X.A (call f (first ++ us) (ks.zip ws)) Q' X.xe s') :
    wpAny (model X.prog X.w) X.A (callWith pos f first (backTo pos (starEach (e :: es) X.env)) (backToKw pos (keywordEach kws X.env))) Q' X.xe s := by
  obtain ⟨h1, h2, h3⟩ := kw_facts (pos := pos) (env := X.env) hn
  refine PySem.W.callWith_KW (h₀ := X.base) I.ok.mod.kin hkp h1 (thn (ha.run pos pins s σ H _ I h) fun us s1 ⟨vs, H1, I1, r, q⟩ => ?_) (by rw [back_no hst, h3]; rfl) (star_ne (qAnd hst).1 _ _)
  refine thn (hk.run pos pins s1 σ H1 _ I1 q) fun ws s2 ⟨zs, H2, I2, rz, q2⟩ => ⟨I2.kIn, ?_⟩
  rw [h2]
  exact cont us ws vs zs s2 H2 I2 r rz q2
theorem cw_run0 (hk : PK X kws tk) (hn : kwN kws = some ks) (hkp : PySem.W.keepIn X.K f = true) (I : Inv X pins σ H s) (h : tk σ H fun zs H2 => R [] zs H2)
    (cont : ∀ us ws vs zs s' H', Inv X pins σ H' s' → Vals vs us → Vals zs ws → R vs zs H' → wpAny (model X.prog X.w) X.A (call f (first ++ us) (ks.zip ws)) Q' X.xe s') :
    wpAny (model X.prog X.w) X.A (callWith pos f first (backTo pos (starEach [] X.env)) (backToKw pos (keywordEach kws X.env))) Q' X.xe s := by
  obtain ⟨h1, h2, h3⟩ := kw_facts (pos := pos) (env := X.env) hn
  refine PySem.W.callWith_KW0 (h₀ := X.base) I.ok.mod.kin hkp h1 ?_ (by rw [h3]; rfl)
  refine thn (hk.run pos pins s σ H _ I h) fun ws s2 ⟨zs, H2, I2, rz, q2⟩ => ⟨I2.kIn, ?_⟩
  rw [h2]
  exact cont [] ws [] zs s2 H2 I2 .nil rz q2
end
section
variable {X : Cx} {CX : CXT} {k n : Nat} {f C : Addr} {fd : FuncData} {ps ks : List Str} {sp : Sp} {E : XK} {x m : Str} {p pos apos : Pos} {e o : Expr} {es : List Expr} {kws : List Keyword} {ta tk : TA} {to : TE} {g : List Value → List Value → List Value} {gV : List V → List V → List V}
def tCG (n m : Nat) (sp : Sp) (gV : List V → List V → List V) (E : XK) (ta tk : TA) : TE := fun σ H Q => ta σ H fun vs H1 => tk σ H1 fun zs H2 => vs.length = n ∧ zs.length = m ∧ sp (gV vs zs) H2 Q E
theorem pe_callG (F : FnOk X.prog X.w X.K X.mg X.base CX k f fd ps sp) (hr : Room k X.A) (hg : Gl X x) (hm : X.mg x = some (.ref f)) (hkp : PySem.W.keepIn X.K (.ref f) = true) (hb : KBn X.K fd ps n ks g gV) (hx : Passes CX X E) (hd : (x == ("__debug__" : Str)) = false)
    (ha : PA X (e :: es) ta) (hk : PK X kws tk) (hn : kwN kws = some ks) (hst : (e :: es).all nSt = true) : PE X (.Call (.Name x p) (e :: es) kws pos) (tCG n ks.length sp gV E ta tk) :=
  ⟨fun pins s σ H Q I h => wpAny_Call_Name_kw (ld_glob I hg hm (cw_run (R := fun vs zs H2 => vs.length = n ∧ zs.length = ks.length ∧ sp (gV vs zs) H2 Q E) ha hk hn hst hkp I h fun us ws vs zs s' H' I' r rz ⟨l1, l2, q⟩ => run_fnN F hr hb hx I' r rz l1 l2 q) hd)⟩
theorem pe_callG0 (F : FnOk X.prog X.w X.K X.mg X.base CX k f fd ps sp) (hr : Room k X.A) (hg : Gl X x) (hm : X.mg x = some (.ref f)) (hkp : PySem.W.keepIn X.K (.ref f) = true) (hb : KBn X.K fd ps n ks g gV) (hx : Passes CX X E) (hd : (x == ("__debug__" : Str)) = false)
    (hk : PK X kws tk) (hn : kwN kws = some ks) : PE X (.Call (.Name x p) [] kws pos) (tCG n ks.length sp gV E tNil tk) :=
  ⟨fun pins s σ H Q I h => wpAny_Call_Name_kw (ld_glob I hg hm (cw_run0 (R := fun vs zs H2 => vs.length = n ∧ zs.length = ks.length ∧ sp (gV vs zs) H2 Q E) hk hn hkp I h fun us ws vs zs s' H' I' r rz ⟨l1, l2, q⟩ => run_fnN F hr hb hx I' r rz l1 l2 q) hd)⟩
/-- a new instance -/
def tMG (C : Addr) (n m : Nat) (sp : Sp) (gV : List V → List V → List V) (E : XK) (ta tk : TA) : TE := fun σ H Q => ta σ H fun vs H1 => tk σ H1 fun zs H2 => vs.length = n ∧ zs.length = m ∧
  ∀ x dx, H2 x = none → H2 dx = none → dx ≠ x → sp (gV (.ref x :: vs) zs) (upd (upd H2 dx (.own x)) x (.ins C dx [])) (fun v H3 => v = .non ∧ Q (.ref x) H3) E
theorem pe_makeG (M : Mk X.K C f) (F : FnOk X.prog X.w X.K X.mg X.base CX k f fd ps sp) (hr : Room (k + 1) X.A) (hg : Gl X x) (hm : X.mg x = some (.ref C)) (hb : KBn X.K fd ps (n + 1) ks g gV) (hx : Passes CX X E) (hd : (x == ("__debug__" : Str)) = false)
    (ha : PA X (e :: es) ta) (hk : PK X kws tk) (hn : kwN kws = some ks) (hst : (e :: es).all nSt = true) : PE X (.Call (.Name x p) (e :: es) kws pos) (tMG C n ks.length sp gV E ta tk) :=
  ⟨fun pins s σ H Q I h => wpAny_Call_Name_kw (ld_glob I hg hm (cw_run (R := fun vs zs H2 => vs.length = n ∧ zs.length = ks.length ∧ ∀ x dx, H2 x = none → H2 dx = none → dx ≠ x → sp (gV (.ref x :: vs) zs) (upd (upd H2 dx (.own x)) x (.ins C dx [])) (fun v H3 => v = .non ∧ Q (.ref x) H3) E)
    ha hk hn hst M.kp I h fun us ws vs zs s' H' I' r rz ⟨l1, l2, q⟩ => run_makeN M F hr hb hx I' r rz l1 l2 q) hd)⟩
theorem pe_makeG0 (M : Mk X.K C f) (F : FnOk X.prog X.w X.K X.mg X.base CX k f fd ps sp) (hr : Room (k + 1) X.A) (hg : Gl X x) (hm : X.mg x = some (.ref C)) (hb : KBn X.K fd ps (n + 1) ks g gV) (hx : Passes CX X E) (hd : (x == ("__debug__" : Str)) = false)
    (hk : PK X kws tk) (hn : kwN kws = some ks) : PE X (.Call (.Name x p) [] kws pos) (tMG C n ks.length sp gV E tNil tk) :=
  ⟨fun pins s σ H Q I h => wpAny_Call_Name_kw (ld_glob I hg hm (cw_run0 (R := fun vs zs H2 => vs.length = n ∧ zs.length = ks.length ∧ ∀ x dx, H2 x = none → H2 dx = none → dx ≠ x → sp (gV (.ref x :: vs) zs) (upd (upd H2 dx (.own x)) x (.ins C dx [])) (fun v H3 => v = .non ∧ Q (.ref x) H3) E)
    hk hn M.kp I h fun us ws vs zs s' H' I' r rz ⟨l1, l2, q⟩ => run_makeN M F hr hb hx I' r rz l1 l2 q) hd)⟩
/-! ### methods -/
def fewKw (args : List Expr) (kws : List Keyword) : Bool := decide (args.length + kws.length < 28)
theorem form_ok {env : Env} (hst : args.all nSt = true) (hn : kwN kws = some ks) (hf : fewKw args kws = true) : methodCallForm (args.length + kws.length) (backTo pos (starEach args env)) (backToKw pos (keywordEach kws env)) = true := by
  obtain ⟨h1, _, _⟩ := kw_facts (pos := pos) (env := env) hn
  have h2 : (backTo pos (starEach args env)).all (fun x => !x.1) = true := by
    have z := back_no (pos := pos) (env := env) hst
    rw [List.all_eq_not_any_not]
    simp only [Bool.not_not]
    rw [show ((backTo pos (starEach args env)).any fun x => x.1) = false from z]
    rfl
  unfold methodCallForm
  rw [h1, show ((backTo pos (starEach args env)).all fun x => !x.1) = true from h2]
  have hf := of_decide_eq_true hf
  simp
  split <;> omega
theorem eval_meth {args : List Expr} {env : Env} (hb : attributeBase o m env (eval o env) = eval o env) (hf : methodCallForm (args.length + kws.length) (backTo pos (starEach args env)) (backToKw pos (keywordEach kws env)) = true) (hl : (apos.endLine == pos.line) = true) :
    eval (.Call (.Attribute o m apos) args kws pos) env = (do
      let ov ← eval o env
      standAt apos.atName
      let (f, first) ← holding [ov] (getMethod ov m (plainOf o env))
      callWith pos f first (backTo pos (starEach args env)) (backToKw pos (keywordEach kws env))) := by
  rw [arm_eval_Call, hb]
  refine congrArg _ (funext fun ov => congrArg _ (funext fun _ => ?_))
  exact mcall_line hf hl
def tMthG (C : Addr) (m : Str) (n l : Nat) (sp : Sp) (gV : List V → List V → List V) (E : XK) (to : TE) (ta tk : TA) : TE := fun σ H Q => to σ H fun x H1 => ∃ a dx fs, x = .ref a ∧ H1 a = some (.ins C dx fs) ∧ fs.lookup m = none ∧
  ta σ H1 fun vs H2 => tk σ H2 fun zs H3 => vs.length = n ∧ zs.length = l ∧ sp (gV (.ref a :: vs) zs) H3 Q E
theorem pe_methG (c : Cls X.K C) (hm : Meth X.K C m f) (F : FnOk X.prog X.w X.K X.mg X.base CX k f fd ps sp) (hr : Room k X.A) (hb : KBn X.K fd ps (n + 1) ks g gV) (hx : Passes CX X E) (ho : PE X o to)
    (ha : PA X (e :: es) ta) (hk : PK X kws tk) (hn : kwN kws = some ks) (hst : (e :: es).all nSt = true) (hbo : pBase o = true) (hf : fewKw (e :: es) kws = true) (hl : (apos.endLine == pos.line) = true) : PE X (.Call (.Attribute o m apos) (e :: es) kws pos) (tMthG C m n ks.length sp gV E to ta tk) := by
  refine ⟨fun pins s σ H Q I h => ?_⟩
  refine PySem.W.methodCall_KW (pl := plainOf o X.env) (thn (ho.run pins s σ H _ I h) fun u s1 ⟨x, H1, I1, rx, a, dx, fs, ex, ea, l, q⟩ => ?_) (eval_meth (base_ne hbo _ _ _) (form_ok hst hn hf) hl)
  subst ex
  obtain rfl : u = Value.ref a := rx
  refine getmeth_ok I1 ea c hm l ?_
  exact cw_run (first := [.ref a]) (R := fun vs zs H3 => vs.length = n ∧ zs.length = ks.length ∧ sp (gV (.ref a :: vs) zs) H3 Q E) ha hk hn hst hm.kp I1 q fun us ws vs zs s' H' I' r rz ⟨l1, l2, q⟩ => run_fnN (us := .ref a :: us) (vs := .ref a :: vs) F hr hb hx I' (.cons rfl r) rz (congrArg (· + 1) l1) l2 q
theorem pe_methG0 (c : Cls X.K C) (hm : Meth X.K C m f) (F : FnOk X.prog X.w X.K X.mg X.base CX k f fd ps sp) (hr : Room k X.A) (hb : KBn X.K fd ps (n + 1) ks g gV) (hx : Passes CX X E) (ho : PE X o to)
    (hk : PK X kws tk) (hn : kwN kws = some ks) (hbo : pBase o = true) (hf : fewKw [] kws = true) (hl : (apos.endLine == pos.line) = true) : PE X (.Call (.Attribute o m apos) [] kws pos) (tMthG C m n ks.length sp gV E to tNil tk) := by
  refine ⟨fun pins s σ H Q I h => ?_⟩
  refine PySem.W.methodCall_KW (pl := plainOf o X.env) (thn (ho.run pins s σ H _ I h) fun u s1 ⟨x, H1, I1, rx, a, dx, fs, ex, ea, l, q⟩ => ?_) (eval_meth (base_ne hbo _ _ _) (form_ok rfl hn hf) hl)
  subst ex
  obtain rfl : u = Value.ref a := rx
  refine getmeth_ok I1 ea c hm l ?_
  exact cw_run0 (first := [.ref a]) (R := fun vs zs H3 => vs.length = n ∧ zs.length = ks.length ∧ sp (gV (.ref a :: vs) zs) H3 Q E) hk hn hm.kp I1 q fun us ws vs zs s' H' I' r rz ⟨l1, l2, q⟩ => run_fnN (us := .ref a :: us) (vs := .ref a :: vs) F hr hb hx I' (.cons rfl r) rz (congrArg (· + 1) l1) l2 q
end
end Br
end

section
set_option Elab.async false
set_option linter.all false
set_option maxRecDepth 100000
set_option maxHeartbeats 1000000
/-! Br18: arguments of calls by the core. -/
namespace Br
open PySem PySem.Spec PySem.Calls PyProof.Rows L2
open PC (D E S Sl Cl Sg Gs Rs Re)

/-! ### arrangement -/
def arrV (vs : List V) : List (Sum Nat V) → List V
  | [] => []
  | .inl k :: r => vs.getD k .non :: arrV vs r
  | .inr v :: r => v :: arrV vs r
inductive PvR (T : Tb) : List (Sum Nat V) → List (Sum Nat D) → Prop
  | nil : PvR T [] []
  | inl (k : Nat) {pv : List (Sum Nat V)} {pd : List (Sum Nat D)} : PvR T pv pd → PvR T (.inl k :: pv) (.inl k :: pd)
  | inr {v : V} {d : D} {pv : List (Sum Nat V)} {pd : List (Sum Nat D)} : (∀ (ι : List Addr) (F : Hp), Rep T ι F v d) → PvR T pv pd → PvR T (.inr v :: pv) (.inr d :: pd)
def cntL : List (Sum Nat D) → Nat
  | [] => 0
  | .inl _ :: r => cntL r + 1
  | .inr _ :: r => cntL r
/-- how a call of a def binds: n values, the keywords ks -/
structure Shp (T : Tb) (fd : FuncData) (ps : List Str) (n : Nat) (ks : List Str) (pd : List (Sum Nat D)) : Prop where
  ex : ∃ g gV pv, KBn T.K fd ps n ks g gV ∧ PvR T pv pd ∧ (∀ vs zs : List V, vs.length = n → zs.length = ks.length → gV vs zs = arrV (vs ++ zs) pv) ∧ cntL pd = n + ks.length
/-- .. of a method, of __init__ -/
structure ShpM (T : Tb) (fd : FuncData) (ps : List Str) (n : Nat) (ks : List Str) (pd : List (Sum Nat D)) : Prop where
  ex : ∃ g gV pv, KBn T.K fd ps (n + 1) ks g gV ∧ PvR T pv pd ∧ (∀ (x : V) (vs zs : List V), vs.length = n → zs.length = ks.length → gV (x :: vs) zs = x :: arrV (vs ++ zs) pv) ∧ cntL pd = n + ks.length
section
variable {T : Tb} {w w0 w1 w2 : Wd} {σ σ0 : L2.St} {H H0 H1 H2 : Hp}
theorem dfl_al {pv : List (Sum Nat V)} {pd : List (Sum Nat D)} (r : PvR T pv pd) (L : List V) (h : pd.all PC.isDfl = true) : AL T w σ H (arrV L pv) (PC.dflOf pd) ∧ frA (arrV L pv) (PC.dflOf pd) = [] := by
  induction r with
  | nil => exact ⟨.nil, rfl⟩
  | inl k _ _ => cases h
  | inr hr _ ih =>
    obtain ⟨h1, h2⟩ := ih (qAnd h).2
    exact ⟨.rep (hr _ _) h1, by
      show frA (_ :: _) ((_, false) :: _) = []
      rw [frA_rep]; exact h2⟩
theorem id_arr {pv : List (Sum Nat V)} {pd : List (Sum Nat D)} (r : PvR T pv pd) : ∀ (j : Nat) (L : List V), PC.isId j pd = true → L.length = j + cntL pd → ∃ M, arrV L pv = L.drop j ++ M ∧ (∀ w σ H, AL T w σ H M (PC.dflOf pd)) ∧ frA M (PC.dflOf pd) = [] := by
  induction r with
  | nil =>
    intro j L _ hl
    exact ⟨[], by simp [arrV, List.drop_eq_nil_of_le, hl, cntL], fun _ _ _ => .nil, rfl⟩
  | @inl k pv pd r ih =>
    intro j L h hl
    obtain ⟨h1, h2⟩ := qAnd (show (k == j && PC.isId (j + 1) pd) = true from h)
    have hk : k = j := by simpa using h1
    subst hk
    have hl' : L.length = k + 1 + cntL pd := by
      have : cntL (Sum.inl k :: pd) = cntL pd + 1 := rfl
      omega
    obtain ⟨M, e, a, f⟩ := ih (k + 1) L h2 hl'
    have hlt : k < L.length := by omega
    refine ⟨M, ?_, a, f⟩
    show L.getD k .non :: arrV L pv = _
    rw [e, List.drop_eq_getElem_cons hlt, List.cons_append]
    simp [hlt]
  | @inr v d pv pd hr r ih =>
    intro j L h hl
    have h : (Sum.inr d :: pd).all PC.isDfl = true := h
    have hz : cntL (Sum.inr d :: pd) = 0 := by
      clear ih hl
      have : ∀ l : List (Sum Nat D), l.all PC.isDfl = true → cntL l = 0 := fun l => by
        induction l with
        | nil => intro _; rfl
        | cons x l ih =>
          intro h
          cases x with
          | inl k => cases (qAnd h).1
          | inr d => exact ih (qAnd h).2
      exact this _ h
    rw [hz] at hl
    refine ⟨arrV L (Sum.inr v :: pv), by rw [List.drop_eq_nil_of_le (by omega)]; rfl, fun w σ H => (dfl_al (.inr hr r) L h).1, (dfl_al (w := ⟨[], fun _ => none, [], []⟩) (σ := []) (H := fun _ => none) (.inr hr r) L h).2⟩
theorem permF_reps {vs : List V} {xs : List (D × Bool)} (rs : Reps T w.ι w.F vs (xs.map (·.1))) {pv : List (Sum Nat V)} {pd : List (Sum Nat D)} (r : PvR T pv pd) : ∀ {ys : List (D × Bool)}, PC.permF xs pd = some ys → AL T w σ H (arrV vs pv) ys ∧ frA (arrV vs pv) ys = [] := by
  induction r with
  | nil => intro ys h; cases h; exact ⟨.nil, rfl⟩
  | @inl k pv pd r ih =>
    intro ys h
    obtain ⟨x, hx, h⟩ := opt_bind_some (show (xs[k]?.bind fun v => (PC.permF xs pd).map ((v.1, false) :: ·)) = some ys from h)
    obtain ⟨zs, hz, rfl⟩ := Option.map_eq_some_iff.mp h
    obtain ⟨h1, h2⟩ := ih hz
    obtain ⟨v, hv, rv⟩ := rs.get (i := k) (d := x.1) (by rw [List.getElem?_map, hx]; rfl)
    have e : vs.getD k .non = v := by simp [List.getD, hv]
    refine ⟨?_, ?_⟩
    · show AL T w σ H (vs.getD k .non :: arrV vs pv) _
      rw [e]
      exact .rep rv h1
    · show frA (vs.getD k .non :: arrV vs pv) _ = []
      rw [frA_rep]; exact h2
  | @inr v d pv pd hr r ih =>
    intro ys h
    obtain ⟨zs, hz, rfl⟩ := Option.map_eq_some_iff.mp (show (PC.permF xs pd).map ((d, false) :: ·) = some ys from h)
    obtain ⟨h1, h2⟩ := ih hz
    exact ⟨.rep (hr _ _) h1, by
      show frA (v :: arrV vs pv) _ = []
      rw [frA_rep]; exact h2⟩
theorem AL.app2 {vs ws : List V} {xs ys : List (D × Bool)} (h : AL T w σ H vs xs) (h2 : AL T w σ H ws ys) (hd : ∀ a ∈ frA vs xs, a ∉ frA ws ys) : AL T w σ H (vs ++ ws) (xs ++ ys) := by
  induction h with
  | nil => exact h2
  | rep r _ ih =>
    rw [frA_rep] at hd
    exact .rep r (ih hd)
  | @new a d vs' xs' f c n t ih =>
    refine .new f c (fun z => ?_) (ih fun a ha => hd a (List.mem_cons_of_mem _ ha))
    have z : a ∈ frA (vs' ++ ws) (xs' ++ ys) := z
    rw [frA_append t.length] at z
    rcases List.mem_append.mp z with z | z
    · exact n z
    · exact hd _ List.mem_cons_self z
/-- the arguments as they come to the parameters -/
theorem arr_al (k : Ok T w σ H) (s : Stp w0 σ0 H0 w σ H) {vs : List V} {xs ys : List (D × Bool)} (al : AL T w σ H vs xs) (hn : ∀ a ∈ frA vs xs, H0 a = none) {pv : List (Sum Nat V)} {pd : List (Sum Nat D)} (r : PvR T pv pd) (hc : cntL pd = vs.length) (h : PC.perm xs pd = some ys) :
    ∃ w' : Wd, w'.st = w.st ∧ w'.ι = w.ι ∧ Ok T w' σ H ∧ Stp w0 σ0 H0 w' σ H ∧ AL T w' σ H (arrV vs pv) ys ∧ ∀ a ∈ frA (arrV vs pv) ys, H0 a = none := by
  unfold PC.perm at h
  split at h
  · rename_i hid
    cases h
    obtain ⟨M, e, a, f⟩ := id_arr r 0 vs hid (by rw [hc]; omega)
    rw [List.drop_zero] at e
    refine ⟨w, rfl, rfl, k, s, ?_, ?_⟩
    · rw [e]
      exact al.app2 (a w σ H) fun b _ hb => by rw [f] at hb; cases hb
    · rw [e, frA_append al.length, f, List.append_nil]
      exact hn
  · obtain ⟨w', e, k', s', _, _, i, rs⟩ := al.known k s hn
    obtain ⟨a, f⟩ := permF_reps (σ := σ) (H := H) rs r h
    exact ⟨w', e, i, k', s', a, fun b hb => by rw [f] at hb; cases hb⟩
end
/-! ### keywords -/
section
variable {X : Cx} {T : Tb} {G : PC.Gl} {cf : PC.CF} {th : Option (Gs → Re)} {W : Option WX} {w w1 : Wd} {σ : L2.St} {H H1 : Hp}
theorem pkImp {kws : List Keyword} {t t' : TA} (h : PK X kws t) (i : ∀ σ H Q, t' σ H Q → t σ H Q) : PK X kws t' := ⟨fun pos pins s σ H Q I q => h.run pos pins s σ H Q I (i σ H Q q)⟩
theorem as_nil {Q : List V → Hp → Prop} (h : tAs T G cf th W [] σ H Q) : tNil σ H Q := by
  obtain ⟨w, k, h⟩ := h
  rw [evL_nil] at h
  exact h [] H ⟨w, rfl, k, .refl, fun _ => .refl k, .nil, fun a ha => by cases ha⟩
theorem as_cons {c : E} {cs : List E} (hc : ∀ a, c ≠ .star a) {Q : List V → Hp → Prop} (h : tAs T G cf th W (c :: cs) σ H Q) : tCons (tE T G cf th W c) (tAs T G cf th W cs) σ H Q := by
  obtain ⟨w, k, h⟩ := h
  rw [evL_cons hc] at h
  refine ⟨w, k, h.bind.mono (fun x s1 h1 v1 H1 ⟨w1, e1, k1, t1, q1, h2, h3⟩ => ?_) (fun _ _ _ z => z)⟩
  subst e1
  refine ⟨w1, k1, h1.bind.mono (fun xs s2 h4 vs H2 ⟨w2, e2, k2, t2, q2, al, hn⟩ => ?_) (fun _ _ _ z => z.after k1 t1)⟩
  subst e2
  obtain ⟨d, b⟩ := x
  refine h4 (v1 :: vs) H2 ⟨w2, rfl, k2, t1.trans k1 t2, fun z => (q1 (qAnd z).1).trans k k2 t2 (q2 (qAnd z).2), ?_, ?_⟩
  · cases b with
    | false => exact .rep (t2.rep (h2 rfl)) al
    | true =>
      obtain ⟨a, ea, na, f, c⟩ := h3 rfl
      subst ea
      obtain ⟨f2, c2⟩ := f.later c t2
      refine .new f2 c2 (fun z => ?_) al
      obtain ⟨o, ho, _⟩ := c.there
      rw [hn a z] at ho
      cases ho
  · intro a ha
    cases b with
    | false =>
      rw [frA_rep] at ha
      exact t1.tr a (hn a ha)
    | true =>
      obtain ⟨a', ea, na, f, c⟩ := h3 rfl
      subst ea
      rcases List.mem_cons.mp ha with z | ha
      · rw [z]; exact na
      · exact t1.tr a (hn a ha)
theorem pk_nilC : PK X [] (tAs T G cf th W []) := pkImp pk_nil fun σ H Q h => as_nil h
theorem pk_consC {c : E} {cs : List E} {e : Expr} {nm : Option Str} {kpos : Pos} {kws : List Keyword} (hc : ∀ a, c ≠ .star a) (he : PE X e (tE T G cf th W c)) (hes : PK X kws (tAs T G cf th W cs)) : PK X (⟨nm, e, kpos⟩ :: kws) (tAs T G cf th W (c :: cs)) :=
  pkImp (pk_cons he hes) fun σ H Q h => as_cons hc h
theorem evL_app {as : List E} (bs : List E) (ha : ∀ e ∈ as, ∀ a, e ≠ .star a) : ∀ s : PC.St, PC.evL G cf th (as ++ bs) s = (PC.evL G cf th as s).bind fun xs s1 => (PC.evL G cf th bs s1).bind fun ys s2 => .ok (xs ++ ys) s2 := by
  induction as with
  | nil =>
    intro s
    rw [evL_nil]
    show PC.evL G cf th bs s = (PC.evL G cf th bs s).bind _
    cases PC.evL G cf th bs s <;> rfl
  | cons e es ih =>
    intro s
    have he := ha e List.mem_cons_self
    have ih := ih fun x hx => ha x (List.mem_cons_of_mem _ hx)
    rw [List.cons_append, evL_cons he, evL_cons he, bind_as]
    refine congrArg _ (funext fun x => funext fun s1 => ?_)
    rw [ih, bind_as, bind_as]
    refine congrArg _ (funext fun xs => funext fun s2 => ?_)
    show ((PC.evL G cf th bs s2).bind _).bind _ = (PC.evL G cf th bs s2).bind _
    rw [bind_as]
    rfl
theorem evL_len {as : List E} (ha : ∀ e ∈ as, ∀ a, e ≠ .star a) : ∀ {s s' : PC.St} {xs : List (D × Bool)}, PC.evL G cf th as s = .ok xs s' → xs.length = as.length := by
  induction as with
  | nil =>
    intro s s' xs h
    rw [evL_nil] at h
    cases h; rfl
  | cons e es ih =>
    intro s s' xs h
    rw [evL_cons (ha e List.mem_cons_self)] at h
    cases h1 : PC.evE G cf th e s with
    | no => rw [h1] at h; cases h
    | ex C fs st => rw [h1] at h; cases h
    | ok x s1 =>
      rw [h1] at h
      have h : (PC.evL G cf th es s1).bind _ = _ := h
      cases h2 : PC.evL G cf th es s1 with
      | no => rw [h2] at h; cases h
      | ex C fs st => rw [h2] at h; cases h
      | ok ys s2 =>
        rw [h2] at h
        cases h
        exact congrArg (· + 1) (ih (fun x hx => ha x (List.mem_cons_of_mem _ hx)) h2)
/-- positional ones, then keywords -/
theorem app_of {as bs : List E} {okk : List (D × Bool) → PC.St → Prop} {R : List V → List V → Hp → Prop} (k : Ok T w σ H) (ha : ∀ e ∈ as, ∀ a, e ≠ .star a) (hb : ∀ e ∈ bs, ∀ a, e ≠ .star a) (hq : ∀ z, PC.quietL (as ++ bs) = z → z = (PC.quietL as && PC.quietL bs))
    (h : Rp (PC.evL G cf th (as ++ bs) w.st) okk (exK T W w σ H)) (hR : ∀ xs st vs zs H', okk xs st → vs.length = as.length → zs.length = bs.length → AP T w σ H (PC.quietL (as ++ bs)) xs st (vs ++ zs) H' → R vs zs H') :
    tAs T G cf th W as σ H fun vs H1 => tAs T G cf th W bs σ H1 fun zs H2 => R vs zs H2 := by
  rw [evL_app bs ha] at h
  refine ⟨w, k, ?_⟩
  cases h1 : PC.evL G cf th as w.st with
  | no => rw [h1] at h; exact h.elim
  | ex C fs st => rw [h1] at h; exact h
  | ok xs s1 =>
    rw [h1] at h
    have h : Rp ((PC.evL G cf th bs s1).bind _) _ _ := h
    intro vs H1 ⟨w1, e1, k1, t1, q1, al, hn⟩
    subst e1
    refine ⟨w1, k1, ?_⟩
    cases h2 : PC.evL G cf th bs w1.st with
    | no => rw [h2] at h; exact h.elim
    | ex C fs st => rw [h2] at h; exact exK.after k1 t1 h
    | ok ys s2 =>
      rw [h2] at h
      have h : okk (xs ++ ys) s2 := h
      intro zs H2 ⟨w2, e2, k2, t2, q2, al2, hn2⟩
      subst e2
      refine hR _ _ vs zs H2 h (al.length.trans (evL_len ha h1)) (al2.length.trans (evL_len hb h2)) ⟨w2, rfl, k2, t1.trans k1 t2, fun z => ?_, (al.later t2).app2 al2 fun a h1 h2 => ?_, fun a h3 => ?_⟩
      · have z := qAnd ((hq _ rfl).symm.trans z)
        exact (q1 z.1).trans k k2 t2 (q2 z.2)
      · obtain ⟨_, d, c⟩ := al.fr a h1
        obtain ⟨o, ho, _⟩ := c.there
        rw [hn2 a h2] at ho
        cases ho
      · rw [frA_append al.length] at h3
        rcases List.mem_append.mp h3 with h3 | h3
        · exact hn a h3
        · exact t1.tr a (hn2 a h3)
theorem quietL_app (as bs : List E) : PC.quietL (as ++ bs) = (PC.quietL as && PC.quietL bs) := by
  induction as with
  | nil => rfl
  | cons e es ih =>
    show (PC.quiet e && PC.quietL (es ++ bs)) = (PC.quiet e && PC.quietL es && PC.quietL bs)
    rw [ih, Bool.and_assoc]
/-! ### a def is called -/
theorem evE_call (f : Nat) (es : List E) (pd : List (Sum Nat D)) (s : PC.St) : PC.evE G cf th (.call f es pd) s = (PC.evL G cf th es s).bind fun xs s1 => (PC.opt (PC.perm xs pd) s1).bind fun ys s2 => (cf f ys none s2.g).rs s2.s := by simp only [PC.evE]
theorem call_of {n f : Nat} {fd : PC.Fd} {as bs : List E} {pd : List (Sum Nat D)} {pv : List (Sum Nat V)} {ks : List Str} {gV : List V → List V → List V} {E0 : XK} {Q : VK} (hf : G.fn f = some fd) (hp : PvR T pv pd) (hg : ∀ vs zs : List V, vs.length = as.length → zs.length = ks.length → gV vs zs = arrV (vs ++ zs) pv)
    (hk : bs.length = ks.length) (hc : cntL pd = as.length + ks.length) (ha : ∀ e ∈ as, ∀ a, e ≠ .star a) (hb : ∀ e ∈ bs, ∀ a, e ≠ .star a)
    (h : tE T G (PC.evFn G n) th none (.call f (as ++ bs) pd) σ H Q) : tCG as.length ks.length (spL T G n fd) gV E0 (tAs T G (PC.evFn G n) th none as) (tAs T G (PC.evFn G n) th none bs) σ H Q := by
  obtain ⟨w, k, h⟩ := h
  rw [evE_call] at h
  refine app_of k ha hb (fun z e => by rw [← e, quietL_app]) h.bind fun xs st vs zs H' h1 l1 l2 ap => ⟨l1, l2.trans hk, ?_⟩
  obtain ⟨ys, ey, h2⟩ := Rp.opt (Rp.bind h1)
  obtain ⟨w1, e1, k1, t1, q1, al, hn⟩ := ap
  obtain ⟨w2, e2, i2, k2, t2, al2, hn2⟩ := arr_al k1 t1 al hn hp (by rw [hc, List.length_append, l1, l2, hk]) ey
  rw [hg vs zs l1 (l2.trans hk)]
  have e3 : w2.st = st := e2.trans e1
  subst e3
  obtain ⟨fd', hf', q⟩ := call_core (E := E0) k k2 t2 (fun z => (q1 z).to i2) al2 hn2 h2
  rw [hf] at hf'
  cases hf'
  exact q
end
end Br
end

section
set_option Elab.async false
set_option linter.all false
set_option maxRecDepth 100000
set_option maxHeartbeats 1000000
/-! Br19: instances are made, their methods called, their attributes read. -/
namespace Br
open PySem PySem.Spec PySem.Calls PyProof.Rows L2
open PC (D E S Sl Cl Sg Gs Rs Re)

section
variable {X : Cx} {T : Tb} {G : PC.Gl} {cf : PC.CF} {th : Option (Gs → Re)} {W : Option WX} {w w1 w2 w3 w4 : Wd} {σ : L2.St} {H H1 H2 H3 H' : Hp}
/-- a cell is added: the step -/
theorem Stp.cell {a : Addr} {c : Cl} (s : Stp w σ H w1 σ H1) (k : Keep H1 H2) (hn : H1 a = none) (hs : H a = none) : Stp w σ H (w1.cell a c) σ H2 := by
  refine ⟨fun n b h => get_app (s.ι n b h), s.F, fun b o h1 hn h2 h3 => k.k b o (s.kp b o h1 hn h2 h3), fun b o h1 t f h2 h3 => ?_, fun b h => s.tr b (k.none b h), s.nw⟩
  obtain ⟨x1, x2, x3⟩ := s.fr b o h1 t f h2 h3
  refine ⟨x1, fun z => ?_, x3⟩
  rcases List.mem_append.mp z with z | z
  · exact x2 z
  · simp at z
    rw [z, hs] at h1
    cases h1
/-- the last cell is a value from now on -/
theorem Ok.value {x : Addr} {C : Nat} {fs : List (Nat × D)} (k2 : Ok T w2 σ H2) (k4 : Ok T w4 σ H') (hi : ∀ (n : Nat) a, w2.ι[n]? = some a → w4.ι[n]? = some a) (hf : ∀ a u, w2.F a = some u → w4.F a = some u)
    (ho : ∀ a, Own w2 σ a → H' a = H2 a ∧ a ∉ w4.ι ∧ w4.F a = none) (hs : w4.s = w2.s) (hx : w4.ι[w2.g.length]? = some x) (hg : w4.g[w2.g.length]? = some (.inst C fs)) (hl : w4.g.length = w2.g.length + 1) (hb : PC.belowF w2.g.length fs = true) (hc : (w4.g.take w2.g.length).all (PC.clB w2.g.length) = true) :
    ∃ u, H' x = some u ∧ w4.F x = none ∧ Ok T ⟨w4.ι.take w2.g.length, upd w4.F x u, w2.s, w4.g.take w2.g.length⟩ σ H' ∧ Rep T (w4.ι.take w2.g.length) (upd w4.F x u) (.ref x) (.obj C fs) := by
  obtain ⟨fx, own, dx, es, hxx, rf⟩ := k4.cel _ x _ hx hg
  have hm := know_mono (u := .ins (T.clA C) dx es) fx
  have hm' : ∀ a u', w4.F a = some u' → upd w4.F x (.ins (T.clA C) dx es) a = some u' := hm
  have i2 : ∀ (n : Nat) a, w2.ι[n]? = some a → (w4.ι.take w2.g.length)[n]? = some a := fun n a h => by
    have hn : n < w2.g.length := by rw [← k2.len]; exact (List.getElem?_eq_some_iff.mp h).1
    rw [take_get hn]
    exact hi n a h
  have nx : ∀ (n : Nat) a, n < w2.g.length → w4.ι[n]? = some a → a ≠ x := fun n a hn h z => by
    subst z
    have := (List.getElem?_inj (List.getElem?_eq_some_iff.mp h).1 k4.nd).mp (h.trans hx.symm)
    omega
  refine ⟨_, hxx, fx, ⟨?_, k4.nd.sublist (List.take_sublist _ _), fun a u h => ?_, fun a v h => ?_, fun n a c h1 h2 => ?_, k2.sl, fun i d h => ?_, fun i d h => ?_, k2.ap, k4.tb⟩, ?_⟩
  · show (w4.ι.take _).length = (w4.g.take _).length
    rw [List.length_take, List.length_take, k4.len]
  · have h : upd w4.F x (.ins (T.clA C) dx es) a = some u := h
    by_cases e : a = x
    · subst e
      rw [upd_same] at h
      cases h
      exact .inl hxx
    · rw [upd_ne e] at h
      exact k4.sub a u h
  · have h : upd w4.F x (.ins (T.clA C) dx es) a = some v := h
    by_cases e : a = x
    · subst e
      rw [upd_same] at h
      cases h
      rfl
    · rw [upd_ne e] at h
      exact k4.frz a v h
  · have hn : n < w2.g.length := by
      have z : n < (w4.ι.take w2.g.length).length := (List.getElem?_eq_some_iff.mp h1).1
      rw [List.length_take] at z
      omega
    have h1' : w4.ι[n]? = some a := by rw [← take_get hn]; exact h1
    have h2' : w4.g[n]? = some c := by rw [← take_get hn]; exact h2
    obtain ⟨f, ca⟩ := k4.cel n a c h1' h2'
    refine ⟨?_, (ca.cut (List.all_eq_true.mp hc c (List.mem_of_getElem? h2))).mono (fun _ _ h => h) hm'⟩
    show upd w4.F x _ a = none
    rw [upd_ne (nx n a hn h1')]
    exact f
  · obtain ⟨v, h1, r⟩ := k2.va i d h
    exact ⟨v, h1, r.mono i2 fun a u h => hm' a u (hf a u h)⟩
  · obtain ⟨a, h1, h2, h3, h4⟩ := k2.ow i d h
    obtain ⟨e1, e2, e3⟩ := ho a ⟨i, d, h, h1⟩
    have ne : a ≠ x := fun z => e2 (z ▸ List.mem_of_getElem? hx)
    refine ⟨a, h1, ?_, fun z => e2 (List.mem_of_mem_take z), (h4.at e1).mono i2 fun a u h => hm' a u (hf a u h)⟩
    show upd w4.F x _ a = none
    rw [upd_ne ne]
    exact e3
  · exact .obj own (show upd w4.F x _ x = _ from upd_same) ((rf.cut hb).mono (fun _ _ h => h) hm')
theorem evE_make (C : Nat) (es : List E) (pd : List (Sum Nat D)) (s : PC.St) : PC.evE G cf th (.make C es pd) s = (PC.evL G cf th es s).bind fun xs s1 => (PC.opt (PC.perm xs pd) s1).bind fun ys s2 => PC.makeD G cf C ys s2 := by simp only [PC.evE]
theorem make_of {n f C : Nat} {fd : PC.Fd} {as bs : List E} {pd : List (Sum Nat D)} {pv : List (Sum Nat V)} {ks : List Str} {gV : List V → List V → List V} {E0 : XK} {Q : VK} (hx : G.excF C = none) (hi : G.init C = some f) (hf : G.fn f = some fd) (ho : T.own C = true) (hp : PvR T pv pd)
    (hg : ∀ (x : V) (vs zs : List V), vs.length = as.length → zs.length = ks.length → gV (x :: vs) zs = x :: arrV (vs ++ zs) pv)
    (hk : bs.length = ks.length) (hc : cntL pd = as.length + ks.length) (ha : ∀ e ∈ as, ∀ a, e ≠ .star a) (hb : ∀ e ∈ bs, ∀ a, e ≠ .star a)
    (h : tE T G (PC.evFn G n) th none (.make C (as ++ bs) pd) σ H Q) : tMG (T.clA C) as.length ks.length (spL T G n fd) gV E0 (tAs T G (PC.evFn G n) th none as) (tAs T G (PC.evFn G n) th none bs) σ H Q := by
  obtain ⟨w, k, h⟩ := h
  rw [evE_make] at h
  refine app_of k ha hb (fun z e => by rw [← e, quietL_app]) h.bind fun xs st vs zs H1 h1 l1 l2 ap => ⟨l1, l2.trans hk, fun x dx hx1 hd1 hne => ?_⟩
  obtain ⟨ys, ey, h2⟩ := Rp.opt (Rp.bind h1)
  obtain ⟨w1, e1, k1, t1, q1, al, hn⟩ := ap
  obtain ⟨w2, e2, i2, k2, t2, al2, hn2⟩ := arr_al k1 t1 al hn hp (by rw [hc, List.length_append, l1, l2, hk]) ey
  rw [hg (.ref x) vs zs l1 (l2.trans hk)]
  have e3 : w2.st = st := e2.trans e1
  subst e3
  -- the new instance, empty
  have n1 : upd H1 dx (.own x) x = none := by rw [upd_ne (Ne.symm hne)]; exact hx1
  have kp : Keep H1 (upd (upd H1 dx (.own x)) x (.ins (T.clA C) dx [])) := (Keep.new hd1).trans (Keep.new n1)
  have fr := k2.free_none hx1
  have k3 : Ok T (w2.cell x (.inst C [])) σ (upd (upd H1 dx (.own x)) x (.ins (T.clA C) dx [])) := (k2.grow kp).cell fr.f fr.i fr.o ⟨ho, dx, [], upd_same, .nil⟩
  have hx0 : H x = none := t2.tr x hx1
  have t3 : Stp w σ H (w2.cell x (.inst C [])) σ (upd (upd H1 dx (.own x)) x (.ins (T.clA C) dx [])) := t2.cell kp hx1 hx0
  have t23 : Stp w2 σ H1 (w2.cell x (.inst C [])) σ (upd (upd H1 dx (.own x)) x (.ins (T.clA C) dx [])) := Stp.refl.cell kp hx1 hx1
  have q3 : PC.quietL (as ++ bs) = true → KO w σ H (w2.cell x (.inst C [])) (upd (upd H1 dx (.own x)) x (.ins (T.clA C) dx [])) := fun z a ha => by
    obtain ⟨x1, x2⟩ := ((q1 z).to i2).grow k kp a ha
    refine ⟨x1, fun z => ?_⟩
    rcases List.mem_append.mp z with z | z
    · exact x2 z
    · simp at z
      obtain ⟨_, _, o, ho, _⟩ := k.own_at ha
      rw [z, hx0] at ho
      cases ho
  have hix : (w2.cell x (.inst C [])).ι[w2.g.length]? = some x := by
    show (w2.ι ++ [x])[w2.g.length]? = some x
    rw [← k2.len]
    simp
  have al3 : AL T (w2.cell x (.inst C [])) σ (upd (upd H1 dx (.own x)) x (.ins (T.clA C) dx [])) (.ref x :: arrV (vs ++ zs) pv) ((.cell w2.g.length, false) :: ys) := .rep (.cell hix) (al2.later t23)
  have hn3 : ∀ a ∈ frA (.ref x :: arrV (vs ++ zs) pv) ((.cell w2.g.length, false) :: ys), H a = none := fun a ha => by
    rw [frA_rep] at ha
    exact hn2 a ha
  have hcore := call_coreB (G := G) (n := n) (f := f) (Q := fun v H3 => v = .non ∧ Q (.ref x) H3) (E := E0) k k3 t3 q3 al3 hn3 ?_
  · obtain ⟨fd', hf', q⟩ := hcore
    rw [hf] at hf'
    cases hf'
    exact q
  · unfold PC.makeD at h2
    rw [hx, hi] at h2
    dsimp only at h2
    have h2 : Rp (match PC.evFn G n f ((.cell w2.g.length, false) :: ys) none (w2.g ++ [.inst C []]) with
      | .ok .non _ g => _
      | .ok _ _ _ => _
      | .ex D fs g => _
      | .no => _) _ _ := h2
    show Rp ((PC.evFn G n f ((.cell w2.g.length, false) :: ys) none (w2.g ++ [.inst C []])).rs w2.s) _ _
    revert h2
    cases PC.evFn G n f ((.cell w2.g.length, false) :: ys) none (w2.g ++ [.inst C []]) with
    | no => exact fun h => h.elim
    | ex D fs g => exact fun h => h
    | ok d b g =>
      cases d with
      | non =>
        intro h2 v H' w4 ew bak
        obtain ⟨e4, k4, t4, q4, r4, r5⟩ := ew
        have hb : b = false := by
          cases b with
          | false => rfl
          | true =>
            obtain ⟨a, _, _, _, c⟩ := r5 rfl
            exact c.elim
        subst hb
        have rv := r4 rfl
        cases rv
        refine ⟨rfl, ?_⟩
        have es4 : w4.s = w2.s := congrArg PC.St.s e4
        have eg4 : w4.g = g := congrArg PC.St.g e4
        have hi4 : w4.ι[w2.g.length]? = some x := bak.ι _ _ hix
        have h2 : Rp (if G.value C then (match g[w2.g.length]? with
            | some (Cl.inst B fs) => if B == C && g.length = w2.g.length + 1 && PC.belowF w2.g.length fs && (g.take w2.g.length).all (PC.clB w2.g.length) then (Rs.ok (D.obj C fs, false) ⟨w2.s, g.take w2.g.length⟩ : Rs (D × Bool)) else Rs.no
            | _ => Rs.no)
          else Rs.ok (D.cell w2.g.length, false) ⟨w2.s, g⟩) _ _ := h2
        split at h2
        · split at h2
          · rename_i C' fs hg'
            split at h2
            · rename_i hcond
              obtain ⟨hc1, hc2⟩ := qAnd hcond
              obtain ⟨hc3, hc4⟩ := qAnd hc1
              obtain ⟨hc5, hc6⟩ := qAnd hc3
              have hl : g.length = w2.g.length + 1 := of_decide_eq_true hc6
              have hC : C' = C := by simpa using hc5
              subst hC
              rw [← eg4] at hg' hl hc2 h2
              obtain ⟨u, hu, fx, k5, r6⟩ := Ok.value k2 k4 (fun n a h => bak.ι n a (get_app h)) (fun a u h => bak.F a u h) (fun a ha => by
                obtain ⟨y1, y2, y3⟩ := bak.own a ha
                obtain ⟨_, _, o, ho, _⟩ := k2.own_at ha
                exact ⟨y1.trans ((kp.k a o ho).trans ho.symm), y2, y3⟩) es4 hi4 hg' hl hc4 hc2
              refine h2 _ _ ⟨_, rfl, k5, ?_, ?_, fun _ => r6, fun z => by cases z⟩
              · refine ⟨fun m a h => ?_, fun a y h => ?_, t4.kp, fun a o y1 t f y2 y3 => ?_, t4.tr, fun a h => t4.nw a ?_⟩
                · have z := t2.ι m a h
                  have hm : m < w2.g.length := by rw [← k2.len]; exact (List.getElem?_eq_some_iff.mp z).1
                  show (w4.ι.take w2.g.length)[m]? = some a
                  rw [take_get hm]
                  exact bak.ι m a (get_app z)
                · exact know_mono fx a y (t4.F a y h)
                · obtain ⟨x1, x2, x3⟩ := t4.fr a o y1 t f y2 y3
                  refine ⟨?_, fun z => x2 (List.mem_of_mem_take z), fun z => x3 ?_⟩
                  · show upd w4.F x u a = none
                    rw [upd_ne fun z => by rw [z, hx0] at y1; cases y1]
                    exact x1
                  · obtain ⟨i, d, z1, z2⟩ := z
                    exact ⟨i, d, by rw [es4]; exact z1, z2⟩
                · obtain ⟨i, d, z1, z2⟩ := h
                  exact ⟨i, d, by rw [es4]; exact z1, z2⟩
              · exact fun z a ha => ⟨(q4 z a ha).1, fun y => (q4 z a ha).2 (List.mem_of_mem_take y)⟩
            · exact h2.elim
          · exact h2.elim
        · exact h2 _ _ ⟨w4, by rw [← eg4, ← es4], k4, t4, q4, fun _ => .cell hi4, fun z => by cases z⟩
      | _ => exact fun h => h.elim
end
end Br
end

section
set_option Elab.async false
set_option linter.all false
set_option maxRecDepth 100000
set_option maxHeartbeats 1000000
/-! Br20: methods, attributes. -/
namespace Br
open PySem PySem.Spec PySem.Calls PyProof.Rows L2
open PC (D E S Sl Cl Sg Gs Rs Re)

/-- the names of fields, of others -/
structure NmF (T : Tb) : Prop where
  inj : ∀ n m, T.fld n = true → T.fld m = true → T.nm n = T.nm m → n = m
  out : ∀ n m, T.fld n = true → T.fld m = false → T.nm n ≠ T.nm m
section
variable {X : Cx} {T : Tb} {G : PC.Gl} {cf : PC.CF} {th : Option (Gs → Re)} {W : Option WX} {w w1 w2 w3 w4 : Wd} {σ : L2.St} {H H1 H2 H3 H' : Hp}
theorem lookup_cons (x y : Str) (v : V) (r : List (Str × V)) : List.lookup x ((y, v) :: r) = if x = y then some v else r.lookup x := by
  rw [List.lookup_cons]
  by_cases h : x = y
  · rw [if_pos h, h]; simp
  · rw [if_neg h]
    have : (x == y) = false := by simpa using h
    rw [this]
theorem repF_get {ι : List Addr} {F : Hp} (N : NmF T) {f : Nat} (hf : T.fld f = true) : ∀ {es : List (Str × V)} {fs : List (Nat × D)} {d : D}, RepF T ι F es fs → PC.fGet fs f = some d → ∃ v, es.lookup (T.nm f) = some v ∧ Rep T ι F v d
  | _, _, _, .nil, h => by cases h
  | _, _, d, .cons (n := n) (v := v) (d := d') o r t, h => by
    have h : (if n = f then some d' else PC.fGet _ f) = some d := h
    rw [lookup_cons]
    by_cases e : n = f
    · subst e
      rw [if_pos rfl] at h
      cases h
      exact ⟨v, if_pos rfl, r⟩
    · rw [if_neg e] at h
      rw [if_neg fun z => e (N.inj _ _ o hf z.symm)]
      exact repF_get N hf t h
theorem repF_out {ι : List Addr} {F : Hp} (N : NmF T) {m : Nat} (hm : T.fld m = false) : ∀ {es : List (Str × V)} {fs : List (Nat × D)}, RepF T ι F es fs → es.lookup (T.nm m) = none
  | _, _, .nil => rfl
  | _, _, .cons o r t => by
    rw [lookup_cons, if_neg fun z => N.out _ _ o hm z.symm]
    exact repF_out N hm t
/-- an instance in the heap -/
theorem inst_at (k : Ok T w σ H) {v : V} {d : D} {C : Nat} (r : Rep T w.ι w.F v d) (h : PC.clsOf w.g d = some C) : T.own C = true ∧ ∃ a dx es fs, v = .ref a ∧ H a = some (.ins (T.clA C) dx es) ∧ PC.fldsOf w.g d = some fs ∧ RepF T w.ι w.F es fs := by
  cases r with
  | obj o ha rf =>
    have h : some _ = some C := h
    cases h
    exact ⟨o, _, _, _, _, rfl, k.ex ha rfl, rfl, rf⟩
  | @cell n a hi =>
    have h : (match w.g[n]? with
      | some (Cl.inst C _) => some C
      | _ => none) = some C := h
    cases e : w.g[n]? with
    | none => rw [e] at h; cases h
    | some c =>
      rw [e] at h
      cases c with
      | ref xs => cases h
      | inst B fs =>
        cases h
        obtain ⟨_, o, dx, es, ha, rf⟩ := k.cel n a _ hi e
        refine ⟨o, a, dx, es, fs, rfl, ha, ?_, rf⟩
        show (match w.g[n]? with
          | some (Cl.inst _ fs) => some fs
          | _ => none) = some fs
        rw [e]
  | _ => cases h
theorem EP.inst {q : Bool} {r : D × Bool} {st : PC.St} {v : V} {C : Nat} (h : EP T w σ H q r st v H1) (hc : PC.clsOf st.g r.1 = some C) : r.2 = false ∧ ∃ w' : Wd, w'.st = st ∧ Ok T w' σ H1 ∧ Stp w σ H w' σ H1 ∧ (q = true → KO w σ H w' H1) ∧ Rep T w'.ι w'.F v r.1 := by
  obtain ⟨w', e, k, s, kq, h1, h2⟩ := h
  cases hr : r.2 with
  | false => exact ⟨rfl, w', e, k, s, kq, h1 hr⟩
  | true =>
    obtain ⟨a, _, _, _, c⟩ := h2 hr
    obtain ⟨d, b⟩ := r
    cases d <;> first | exact c.elim | cases hc
theorem peAny {α : Type} {e : Expr} {l : List α} {t : α → TE} (h : ∀ c ∈ l, PE X e (t c)) : PE X e (fun σ H Q => ∃ c ∈ l, t c σ H Q) := ⟨fun pins s σ H Q I ⟨c, hc, q⟩ => (h c hc).run pins s σ H Q I q⟩
/-! ### a method -/
theorem evE_meth (o : E) (m : Nat) (es : List E) (pd : List (Sum Nat D)) (s : PC.St) : PC.evE G cf th (.meth o m es pd) s = (PC.evE G cf th o s).bind fun x s1 => (match PC.clsOf s1.g x.1 with
    | some C => (PC.evL G cf th es s1).bind fun xs s2 => (PC.opt (PC.perm xs pd) s2).bind fun ys s3 => PC.viaM G cf m (x :: ys) C s3
    | none => .no) := by
  simp only [PC.evE]
  all_goals rfl
theorem rp_false {α : Type} {R : Rs α} (h : Rp R (fun _ _ => False) (fun _ _ _ => False)) : False := by
  cases R <;> exact h
/-- how a method is bound -/
structure Bnd (T : Tb) (n : Nat) (l : Nat) (pd : List (Sum Nat D)) (pv : List (Sum Nat V)) (gV : List V → List V → List V) : Prop where
  pr : PvR T pv pd
  gv : ∀ (x : V) (vs zs : List V), vs.length = n → zs.length = l → gV (x :: vs) zs = x :: arrV (vs ++ zs) pv
  cn : cntL pd = n + l
theorem meth_of {n m : Nat} {as bs : List E} {pd : List (Sum Nat D)} {ks : List Str} {E0 : XK} {Q : VK} {co : E} {P : TE} (N : NmF T) (hm : T.fld m = false) (hk : bs.length = ks.length) (ha : ∀ e ∈ as, ∀ a, e ≠ .star a) (hb : ∀ e ∈ bs, ∀ a, e ≠ .star a)
    (hl : ∀ C f fd, G.meth C m = some f → G.fn f = some fd → ∃ pv gV, Bnd T as.length ks.length pd pv gV ∧ ∀ σ H Q, tMthG (T.clA C) (T.nm m) as.length ks.length (spL T G n fd) gV E0 (tE T G (PC.evFn G n) th none co) (tAs T G (PC.evFn G n) th none as) (tAs T G (PC.evFn G n) th none bs) σ H Q → P σ H Q)
    (h : tE T G (PC.evFn G n) th none (.meth co m (as ++ bs) pd) σ H Q) : P σ H Q := by
  obtain ⟨w, k, h⟩ := h
  rw [evE_meth] at h
  have h := h.bind
  cases he : PC.evE G (PC.evFn G n) th co w.st with
  | no => rw [he] at h; exact h.elim
  | ex C fs st => rw [he] at h; exact h.elim
  | ok x s1 =>
    rw [he] at h
    have h : Rp (match PC.clsOf s1.g x.1 with
      | some C => (PC.evL G (PC.evFn G n) th (as ++ bs) s1).bind fun xs s2 => (PC.opt (PC.perm xs pd) s2).bind fun ys s3 => PC.viaM G (PC.evFn G n) m (x :: ys) C s3
      | none => .no) (fun r st => ∀ v H', EP T w σ H (PC.quiet (.meth co m (as ++ bs) pd)) r st v H' → Q v H') (exK T none w σ H) := h
    cases hc : PC.clsOf s1.g x.1 with
    | none => rw [hc] at h; exact h.elim
    | some C =>
      rw [hc] at h
      dsimp only at h
      cases hmf : G.meth C m with
      | none =>
        exfalso
        refine rp_false (h.bind.mono (fun xs s2 z => ?_) (fun _ _ _ z => z))
        obtain ⟨ys, _, z⟩ := Rp.opt (Rp.bind z)
        unfold PC.viaM at z
        rw [hmf] at z
        exact z
      | some f =>
        cases hfn : G.fn f with
        | none =>
          exfalso
          refine rp_false (h.bind.mono (fun xs s2 z => ?_) (fun _ _ _ z => z))
          obtain ⟨ys, _, z⟩ := Rp.opt (Rp.bind z)
          unfold PC.viaM at z
          rw [hmf] at z
          dsimp only at z
          rw [evFn_no hfn] at z
          exact z
        | some fd =>
          obtain ⟨pv, gV, B, hP⟩ := hl C f fd hmf hfn
          refine hP σ H Q ⟨w, k, ?_⟩
          rw [he]
          intro v1 H1 p1
          obtain ⟨hx2, w1, e1, k1, t1, q1, r1⟩ := p1.inst hc
          subst e1
          obtain ⟨_, a, dx, es, fs, rfl, hat, hfl, rf⟩ := inst_at k1 r1 hc
          refine ⟨a, dx, es, rfl, hat, repF_out N hm rf, ?_⟩
          refine app_of k1 ha hb (fun z e => by rw [← e, quietL_app]) h.bind fun xs st vs zs H2 h1 l1 l2 ap => ⟨l1, l2.trans hk, ?_⟩
          obtain ⟨ys, ey, h2⟩ := Rp.opt (Rp.bind h1)
          obtain ⟨w2, e2, k2, t2, q2, al, hn⟩ := ap
          obtain ⟨w3, e3, i3, k3, t3, al3, hn3⟩ := arr_al k2 t2 al hn B.pr (by rw [B.cn, List.length_append, l1, l2, hk]) ey
          rw [B.gv (.ref a) vs zs l1 (l2.trans hk)]
          have e4 : w3.st = st := e3.trans e2
          subst e4
          have t13 := t1.trans k1 t3
          have h2 : Rp (PC.viaM G (PC.evFn G n) m (x :: ys) C w3.st) _ _ := h2
          unfold PC.viaM at h2
          rw [hmf] at h2
          dsimp only at h2
          have ra : Rep T w3.ι w3.F (.ref a) x.1 := t3.rep r1
          obtain ⟨d, b⟩ := x
          cases hx2
          have al4 : AL T w3 σ H2 (.ref a :: arrV (vs ++ zs) pv) ((d, false) :: ys) := .rep ra al3
          obtain ⟨fd', hf', q⟩ := call_core (E := E0) k k3 t13 (fun z => (q1 (qAnd z).1).trans k k3 t3 ((q2 (qAnd z).2).to i3)) al4 (fun b hb => t1.tr b (hn3 b (by rw [frA_rep] at hb; exact hb))) h2
          rw [hfn] at hf'
          cases hf'
          exact q
/-! ### an attribute -/
theorem evE_attr (o : E) (f : Nat) (s : PC.St) : PC.evE G cf th (.attr o f) s = (PC.evE G cf th o s).bind fun x s1 => PC.attrD G cf f x.1 s1 := by simp only [PC.evE]
/-- what an attribute asks: a field, a property -/
theorem attr_of {n a : Nat} {E0 : XK} {Q : VK} {co : E} {P : TE} (N : NmF T)
    (hfl : ∀ C, T.own C = true → G.at_ C a = some .fld → T.fld a = true ∧ NoAttr T.K (T.clA C) (T.nm a) ∧ Cls T.K (T.clA C))
    (hF : T.fld a = true → ∀ σ H Q, tFld T.K (tE T G (PC.evFn G n) th none co) (T.nm a) σ H Q → P σ H Q)
    (hE : ∀ σ H Q, tE T G (PC.evFn G n) th none co σ H (fun _ _ => False) → P σ H Q)
    (hP : ∀ C p fd, G.at_ C a = some (.prop p) → G.fn p = some fd → ∀ σ H Q, tProp (T.clA C) (spL T G n fd) [] E0 (tE T G (PC.evFn G n) th none co) σ H Q → P σ H Q)
    (h : tE T G (PC.evFn G n) th none (.attr co a) σ H Q) : P σ H Q := by
  obtain ⟨w, k, h⟩ := h
  rw [evE_attr] at h
  have h := h.bind
  cases he : PC.evE G (PC.evFn G n) th co w.st with
  | no => rw [he] at h; exact h.elim
  | ex C fs st => rw [he] at h; exact h.elim
  | ok x s1 =>
    rw [he] at h
    have h : Rp (PC.attrD G (PC.evFn G n) a x.1 s1) (fun r st => ∀ v H', EP T w σ H (PC.quiet (.attr co a)) r st v H' → Q v H') (exK T none w σ H) := h
    by_cases hex : ∃ C fs, x.1 = .exc C fs
    · obtain ⟨C, fs, ex⟩ := hex
      refine hE σ H Q ⟨w, k, ?_⟩
      rw [he]
      intro v1 H1 ⟨w1, e1, k1, t1, q1, r1, r2⟩
      cases hb : x.2 with
      | false =>
        have z := r1 hb
        rw [ex] at z
        cases z
      | true =>
        obtain ⟨_, _, _, _, c⟩ := r2 hb
        rw [ex] at c
        exact c.elim
    · have e1 : PC.attrD G (PC.evFn G n) a x.1 s1 = (match PC.clsOf s1.g x.1, PC.fldsOf s1.g x.1 with
        | some C, some fs => (match G.at_ C a with
          | some .fld => PC.opt ((PC.fGet fs a).map fun x => (x, false)) s1
          | some (.prop p) => (PC.evFn G n p [(x.1, false)] none s1.g).rs s1.s
          | none => .no)
        | _, _ => .no) := by
        unfold PC.attrD
        split
        · rename_i C fs e
          exact absurd ⟨C, fs, e⟩ hex
        · rfl
      rw [e1] at h
      cases hc : PC.clsOf s1.g x.1 with
      | none => rw [hc] at h; exact h.elim
      | some C =>
        rw [hc] at h
        cases hf : PC.fldsOf s1.g x.1 with
        | none => rw [hf] at h; exact h.elim
        | some fs =>
          rw [hf] at h
          dsimp only at h
          cases ha : G.at_ C a with
          | none => rw [ha] at h; exact h.elim
          | some at' =>
            rw [ha] at h
            cases at' with
            | fld =>
              obtain ⟨r, er, hq⟩ := Rp.opt h
              obtain ⟨d, ed, rfl⟩ := Option.map_eq_some_iff.mp er
              by_cases hfa : T.fld a = true
              · refine hF hfa σ H Q ⟨w, k, ?_⟩
                rw [he]
                intro v1 H1 p1
                obtain ⟨hx2, w1, e1, k1, t1, q1, r1⟩ := p1.inst hc
                subst e1
                obtain ⟨own, p, dx, es, fs', rfl, hat, hfl', rf⟩ := inst_at k1 r1 hc
                have hfs : some fs = some fs' := hf.symm.trans hfl'
                cases hfs
                obtain ⟨_, na, cl⟩ := hfl C own ha
                obtain ⟨v, hv, rv⟩ := repF_get N hfa rf ed
                exact ⟨p, _, dx, es, v, rfl, hat, cl, na, hv, hq v H1 ⟨w1, rfl, k1, t1, q1, fun _ => rv, fun z => by cases z⟩⟩
              · refine hE σ H Q ⟨w, k, ?_⟩
                rw [he]
                intro v1 H1 p1
                obtain ⟨hx2, w1, e1, k1, t1, q1, r1⟩ := p1.inst hc
                subst e1
                obtain ⟨own, _⟩ := inst_at k1 r1 hc
                exact hfa (hfl C own ha).1
            | prop p =>
              cases hfn : G.fn p with
              | none =>
                exfalso
                dsimp only at h
                rw [evFn_no hfn] at h
                exact h
              | some fd =>
                refine hP C p fd ha hfn σ H Q ⟨w, k, ?_⟩
                rw [he]
                intro v1 H1 p1
                obtain ⟨hx2, w1, e1, k1, t1, q1, r1⟩ := p1.inst hc
                subst e1
                obtain ⟨own, q, dx, es, fs', rfl, hat, hfl', rf⟩ := inst_at k1 r1 hc
                refine ⟨q, dx, es, rfl, hat, ?_⟩
                have al : AL T w1 σ H1 [.ref q] [(x.1, false)] := .rep r1 .nil
                obtain ⟨fd', hf', z⟩ := call_core (E := E0) k k1 t1 q1 al (fun b hb => by rw [frA_rep] at hb; cases hb) h
                rw [hfn] at hf'
                cases hf'
                exact z
end
end Br
end

section
set_option Elab.async false
set_option linter.all false
set_option maxRecDepth 100000
set_option maxHeartbeats 1000000
/-! Br21: statements. -/
namespace Br
open PySem PySem.Spec PySem.Calls PyProof.Rows L2
open PC (D E S Sl Cl Sg Gs Rs Re)

/-- behind a statement -/
def SPw (T : Tb) (w : Wd) (σ : L2.St) (H : Hp) (st : PC.St) (σ' : L2.St) (H' : Hp) : Prop := ∃ w' : Wd, w'.st = st ∧ Ok T w' σ' H' ∧ Stp w σ H w' σ' H'
/-- behind a return -/
def RtP (T : Tb) (w : Wd) (σ : L2.St) (H : Hp) (d : D) (fr : Bool) (st : PC.St) (v : V) (H' : Hp) : Prop :=
  ∃ (w' : Wd) (σ' : L2.St), w'.st = st ∧ Ok T w' σ' H' ∧ Stp w σ H w' σ' H' ∧ (fr = false → Rep T w'.ι w'.F v d) ∧ (fr = true → ∃ a, v = .ref a ∧ (H a = none ∨ Own w σ a) ∧ Free w' σ' H' a ∧ CtL T w'.ι w'.F H' a d)
def flP (T : Tb) (w : Wd) (σ : L2.St) (H : Hp) (D : Ends) : PC.Fl → PC.St → Prop
  | .nx, st => ∀ σ' H', SPw T w σ H st σ' H' → D.nx σ' H'
  | .bk, st => ∀ σ' H', SPw T w σ H st σ' H' → D.bk σ' H'
  | .ct, st => ∀ σ' H', SPw T w σ H st σ' H' → D.ct σ' H'
  | .rt d fr, st => ∀ v H', RtP T w σ H d fr st v H' → D.rt v H'
def noX : Nat → List (Nat × D) → PC.St → Prop := fun _ _ _ => False
section
variable (T : Tb) (G : PC.Gl) (cf : PC.CF) (th : Option (Gs → Re))
def tS (c : S) : TS := fun D σ H => ∃ w, Ok T w σ H ∧ Rp (PC.evS G cf th c w.st) (flP T w σ H D) noX
def tSs (cs : List S) : TS := fun D σ H => ∃ w, Ok T w σ H ∧ Rp (PC.evSs G cf th cs w.st) (flP T w σ H D) noX
end
section
variable {X : Cx} {T : Tb} {G : PC.Gl} {cf : PC.CF} {th : Option (Gs → Re)} {w w1 w2 w3 w4 : Wd} {σ σ1 σ2 : L2.St} {H H1 H2 H3 H' : Hp} {D : Ends}
theorem psImp {st : Stmt} {t t' : TS} (h : PS X st t) (i : ∀ D σ H, t' D σ H → t D σ H) : PS X st t' := ⟨fun pins s σ H D I q => h.run pins s σ H D I (i D σ H q)⟩
theorem pssImp {st : List Stmt} {t t' : TS} (h : PSs X st t) (i : ∀ D σ H, t' D σ H → t D σ H) : PSs X st t' := ⟨fun pins s σ H D I q => h.run pins s σ H D I (i D σ H q)⟩
theorem SPw.after {st : PC.St} {σ' : L2.St} (k1 : Ok T w1 σ1 H1) (s1 : Stp w σ H w1 σ1 H1) (h : SPw T w1 σ1 H1 st σ' H') : SPw T w σ H st σ' H' := by
  obtain ⟨w', e, k, s⟩ := h
  exact ⟨w', e, k, s1.trans k1 s⟩
theorem RtP.after {st : PC.St} {d : PC.D} {fr : Bool} {v : V} (k1 : Ok T w1 σ1 H1) (s1 : Stp w σ H w1 σ1 H1) (h : RtP T w1 σ1 H1 d fr st v H') : RtP T w σ H d fr st v H' := by
  obtain ⟨w', σ', e, k, s, h1, h2⟩ := h
  refine ⟨w', σ', e, k, s1.trans k1 s, h1, fun z => ?_⟩
  obtain ⟨a, ea, o, f, c⟩ := h2 z
  refine ⟨a, ea, ?_, f, c⟩
  rcases o with o | o
  · exact .inl (s1.tr a o)
  · exact (s1.nw a o).symm
theorem flP.after {f : PC.Fl} {st : PC.St} (k1 : Ok T w1 σ1 H1) (s1 : Stp w σ H w1 σ1 H1) (h : flP T w σ H D f st) : flP T w1 σ1 H1 D f st := by
  cases f with
  | nx => exact fun σ' H' z => h σ' H' (z.after k1 s1)
  | bk => exact fun σ' H' z => h σ' H' (z.after k1 s1)
  | ct => exact fun σ' H' z => h σ' H' (z.after k1 s1)
  | rt d fr => exact fun v H' z => h v H' (z.after k1 s1)
/-! ### one behind another -/
theorem evSs_nil (s : PC.St) : PC.evSs G cf th [] s = .ok .nx s := by simp only [PC.evSs]
theorem evSs_cons (c : S) (cs : List S) (s : PC.St) : PC.evSs G cf th (c :: cs) s = (PC.evS G cf th c s).bind fun f s1 => (match f with
    | .nx => PC.evSs G cf th cs s1
    | f => .ok f s1) := by
  simp only [PC.evSs]
  all_goals rfl
theorem pss_nilC : PSs X [] (tSs T G cf th []) := by
  refine pssImp pss_nil fun D σ H ⟨w, k, h⟩ => ?_
  rw [evSs_nil] at h
  exact h σ H ⟨w, rfl, k, .refl⟩
theorem pss_consC {st : Stmt} {rest : List Stmt} {c : S} {cs : List S} (h1 : PS X st (tS T G cf th c)) (h2 : PSs X rest (tSs T G cf th cs)) : PSs X (st :: rest) (tSs T G cf th (c :: cs)) := by
  refine pssImp (pss_cons h1 h2) fun D σ H ⟨w, k, h⟩ => ?_
  rw [evSs_cons] at h
  refine ⟨w, k, h.bind.mono (fun f st z => ?_) (fun _ _ _ z => z)⟩
  cases f with
  | nx =>
    intro σ' H' ⟨w1, e1, k1, s1⟩
    subst e1
    exact ⟨w1, k1, Rp.mono (show Rp (PC.evSs G cf th cs w1.st) (flP T w σ H D) noX from z) (fun f st y => flP.after k1 s1 y) (fun _ _ _ y => y)⟩
  | bk => exact z
  | ct => exact z
  | rt d fr => exact z
/-! ### the simple ones -/
theorem evS_ex (e : E) (s : PC.St) : PC.evS G cf th (.ex e) s = (PC.evE G cf th e s).bind fun _ s1 => .ok .nx s1 := by simp only [PC.evS]
theorem ps_exC {e : Expr} {c : E} {pos : Pos} (he : PE X e (tE T G cf th none c)) (hn : nCmp e = true) : PS X (.Expr e pos) (tS T G cf th (.ex c)) := by
  refine psImp (ps_expr he (swap_ne hn _ _ _)) fun D σ H ⟨w, k, h⟩ => ?_
  rw [evS_ex] at h
  exact ⟨w, k, h.bind.mono (fun r st z v H' ⟨w1, e1, k1, s1, _⟩ => z σ H' ⟨w1, e1, k1, s1⟩) (fun _ _ _ z => z)⟩
theorem ps_passC {pos : Pos} : PS X (.Pass pos) (tS T G cf th .pass) := by
  refine psImp ps_pass fun D σ H ⟨w, k, h⟩ => ?_
  simp only [PC.evS] at h
  exact h σ H ⟨w, rfl, k, .refl⟩
theorem ps_brkC {pos : Pos} : PS X (.Break pos) (tS T G cf th .brk) := by
  refine psImp ps_break fun D σ H ⟨w, k, h⟩ => ?_
  simp only [PC.evS] at h
  exact h σ H ⟨w, rfl, k, .refl⟩
theorem ps_contC {pos : Pos} : PS X (.Continue pos) (tS T G cf th .cont) := by
  refine psImp ps_continue fun D σ H ⟨w, k, h⟩ => ?_
  simp only [PC.evS] at h
  exact h σ H ⟨w, rfl, k, .refl⟩
theorem ps_retNC {pos : Pos} : PS X (.Return none pos) (tS T G cf th .retN) := by
  refine psImp ps_retN fun D σ H ⟨w, k, h⟩ => ?_
  simp only [PC.evS] at h
  exact h .non H ⟨w, σ, rfl, k, .refl, fun _ => .non, fun z => by cases z⟩
/-- a def's text: nothing -/
theorem pss_docC {x j pos pos'} {rest : List Stmt} {cs : List S} (h : PSs X rest (tSs T G cf th cs)) : PSs X (.Expr (.Constant (.str x) j pos) pos' :: rest) (tSs T G cf th cs) :=
  pssImp (pss_cons ps_doc h) fun D σ H q => q
/-! ### return -/
theorem evS_ret (e : E) (h : ∀ i, e ≠ .v i) (s : PC.St) : PC.evS G cf th (.ret e) s = (PC.evE G cf th e s).bind fun r s1 => .ok (.rt r.1 r.2) s1 := by
  cases e <;> first | exact absurd rfl (h _) | simp only [PC.evS]
theorem ps_retC {e : Expr} {c : E} {pos : Pos} (he : PE X e (tE T G cf th none c)) (hv : ∀ i, c ≠ .v i) : PS X (.Return (some e) pos) (tS T G cf th (.ret c)) := by
  refine psImp (ps_ret he) fun D σ H ⟨w, k, h⟩ => ?_
  rw [evS_ret c hv] at h
  refine ⟨w, k, h.bind.mono (fun r st z v H' ⟨w1, e1, k1, s1, _, r1, r2⟩ => z v H' ⟨w1, σ, e1, k1, s1, r1, fun y => ?_⟩) (fun _ _ _ z => z)⟩
  obtain ⟨a, ea, hn, f, c⟩ := r2 y
  exact ⟨a, ea, .inl hn, f, c⟩
theorem ps_retV {i : Nat} {x : Str} {p pos : Pos} (hN : X.N[i]? = some x) (hv : Vis X.env.scope x) (hd : (x == ("__debug__" : Str)) = false) (hcd : (x == ("__classdict__" : Str)) = false) : PS X (.Return (some (.Name x p)) pos) (tS T G cf th (.ret (.v i))) := by
  refine psImp (ps_ret (pe_var hN hv hd hcd)) fun D σ H ⟨w, k, h⟩ => ?_
  simp only [PC.evS] at h
  rcases pk_ok k i with e | ⟨r, v, e, hr, hs, op, op2⟩
  · rw [e] at h
    exact h.elim
  · rw [e] at h
    have h : Rp (match w.st.s[i]? with
      | some (Sl.ow d) => Rs.ok (PC.Fl.rt d true) ⟨w.s.set i .un, w.g⟩
      | _ => Rs.ok (PC.Fl.rt r.1 r.2) w.st) (flP T w σ H D) noX := h
    refine ⟨v, hs, ?_⟩
    cases hsl : w.st.s[i]? with
    | none =>
      rw [hsl] at h
      exact h v H ⟨w, σ, rfl, k, .refl, fun _ => op2 (by simp [PC.looked, hsl]), fun z => by rw [hr] at z; cases z⟩
    | some sl =>
      rw [hsl] at h
      cases sl with
      | un => exact h v H ⟨w, σ, rfl, k, .refl, fun _ => op2 (by simp [PC.looked, hsl]), fun z => by rw [hr] at z; cases z⟩
      | va d => exact h v H ⟨w, σ, rfl, k, .refl, fun _ => op2 (by simp [PC.looked, hsl]), fun z => by rw [hr] at z; cases z⟩
      | ow d =>
        obtain ⟨a, h1, own, f, c⟩ := k.freed hsl
        rw [h1] at hs
        cases hs
        exact h (.ref a) H ⟨w.slot i .un, σ, rfl, k.drop i, Stp.slot_un (i := 0) .refl i, (fun z => by cases z), fun _ => ⟨a, rfl, .inr own, f, c⟩⟩
/-! ### if -/
theorem evS_ife (c : E) (a b : List S) (s : PC.St) : PC.evS G cf th (.ife c a b) s = ((PC.evE G cf th c s).bind PC.toB).bind fun k s2 => if k then PC.evSs G cf th a s2 else PC.evSs G cf th b s2 := by
  simp only [PC.evS, bind_as]
theorem ps_ifC {c : Expr} {a b : List Stmt} {cc : E} {ca cb : List S} {pos : Pos} (hc : PT X c (tTs T G cf th none cc)) (ha : PSs X a (tSs T G cf th ca)) (hb : PSs X b (tSs T G cf th cb)) : PS X (.If c a b pos) (tS T G cf th (.ife cc ca cb)) := by
  refine psImp (ps_if hc ha hb) fun D σ H ⟨w, k, h⟩ => ?_
  rw [evS_ife] at h
  refine ⟨w, k, h.bind.mono (fun b st y H1 ⟨w1, e1, k1, s1, q1⟩ => ?_) (fun _ _ _ y => y)⟩
  subst e1
  cases b with
  | true => exact ⟨w1, k1, Rp.mono (show Rp (PC.evSs G cf th ca w1.st) (flP T w σ H D) noX from y) (fun f st y => flP.after k1 s1 y) (fun _ _ _ y => y)⟩
  | false => exact ⟨w1, k1, Rp.mono (show Rp (PC.evSs G cf th cb w1.st) (flP T w σ H D) noX from y) (fun f st y => flP.after k1 s1 y) (fun _ _ _ y => y)⟩
/-! ### name = value -/
theorem evS_set (i : Nat) (mk : Bool) (e : E) (s : PC.St) : PC.evS G cf th (.set i mk e) s = (PC.evE G cf th e s).bind fun r s1 => .ok .nx ⟨PC.put i mk r s1.s, s1.g⟩ := by simp only [PC.evS]
/-- a value comes to a name -/
theorem put_ok {q : Bool} {r : PC.D × Bool} {st : PC.St} {v : V} (i : Nat) (mk : Bool) (h : EP T w σ H q r st v H1) : SPw T w σ H ⟨PC.put i mk r st.s, st.g⟩ (σ.set i (some v)) H1 := by
  by_cases hm : (mk && r.2) = true
  · obtain ⟨w1, e1, k1, s1, _, _, r2⟩ := h
    subst e1
    obtain ⟨a, rfl, hn, f, c⟩ := r2 (qAnd hm).2
    refine ⟨w1.slot i (.ow r.1), ?_, k1.setO i f c, ⟨s1.ι, s1.F, s1.kp, fun b o e t fb h1 h2 => ?_, s1.tr, fun b hb => ?_⟩⟩
    · show (⟨_, w1.g⟩ : PC.St) = ⟨PC.put i mk r w1.s, w1.g⟩
      unfold PC.put
      rw [if_pos hm]
      rfl
    · obtain ⟨x1, x2, x3⟩ := s1.fr b o e t fb h1 h2
      refine ⟨x1, x2, fun z => ?_⟩
      rcases Own.slot_ow z with z | z
      · rw [z, hn] at e
        cases e
      · exact x3 z
    · rcases Own.slot_ow hb with z | z
      · exact .inr (by rw [z]; exact hn)
      · exact s1.nw b z
  · obtain ⟨w1, e1, k1, s1, _, rr⟩ := h.rep
    subst e1
    refine ⟨w1.slot i (.va r.1), ?_, k1.setV i rr, s1.slot_va i r.1 _⟩
    show (⟨_, w1.g⟩ : PC.St) = ⟨PC.put i mk r w1.s, w1.g⟩
    unfold PC.put
    rw [if_neg hm]
    rfl
theorem asg_of {i : Nat} {mk : Bool} {c : E} (h : tS T G cf th (.set i mk c) D σ H) : tAsg (tE T G cf th none c) (gName i) D σ H := by
  obtain ⟨w, k, h⟩ := h
  rw [evS_set] at h
  exact ⟨w, k, h.bind.mono (fun r st z v H' p => z _ _ (put_ok i mk p)) (fun _ _ _ z => z)⟩
theorem ps_setC {i : Nat} {mk : Bool} {x : Str} {e : Expr} {c : E} {pos pos' : Pos} (hN : X.N.Nodup) (hi : X.N[i]? = some x) (hx : Loc X.env.scope x) (hf : X.fn x = true ∨ X.env.scope.names.lookup x = some .local) (he : PE X e (tE T G cf th none c)) (hn : nCmp e = true) : PS X (.Assign [.Name x pos'] e pos) (tS T G cf th (.set i mk c)) :=
  psImp (ps_set hN hi hx he (swap_ne hn _ _ _) hf) fun D σ H h => asg_of h
/-! ### what never ends well -/
theorem evS_rse (C : Nat) (es : List E) (s : PC.St) : PC.evS G cf th (.rse C es) s = (PC.evL G cf th es s).bind fun xs s1 => (PC.makeD G cf C xs s1).bind fun x s2 => (match x.1 with
      | .exc D fs => .ex D fs s2
      | _ => .no) := by
  simp only [PC.evS]
  all_goals rfl
theorem ps_rseC {st : Stmt} {C : Nat} {es : List E} : PS X st (tS T G cf th (.rse C es)) := by
  refine psImp ps_never fun D σ H ⟨w, k, h⟩ => ?_
  rw [evS_rse] at h
  refine rp_false (h.bind.mono (fun xs s1 h1 => ?_) (fun _ _ _ z => z))
  refine rp_false (h1.bind.mono (fun x s2 h2 => ?_) (fun _ _ _ z => z))
  split at h2 <;> exact h2
/-! ### while -/
theorem evS_whl (c : E) (b : List S) (s : PC.St) : PC.evS G cf th (.whl c b) s = PC.whlL (fun s1 => (PC.evE G cf th c s1).bind PC.toB) (fun s1 => PC.evSs G cf th b s1) PC.fuelW s := by
  simp only [PC.evS]
theorem ps_whlC {c : Expr} {body : List Stmt} {cc : E} {cb : List S} {pos : Pos} (hx : X.xe = fun _ _ => False) (hc : PT X c (tTs T G cf th none cc)) (hb : PSs X body (tSs T G cf th cb)) : PS X (.While c body [] pos) (tS T G cf th (.whl cc cb)) := by
  refine psImp (ps_while (by rw [hx]; exact PassesOwn.never) hc hb) fun D σ H ⟨w, k, h⟩ => ?_
  rw [evS_whl] at h
  refine ⟨fun m σ1 H1 => ∃ w1, Ok T w1 σ1 H1 ∧ Stp w σ H w1 σ1 H1 ∧ Rp (PC.whlL (fun s1 => (PC.evE G cf th cc s1).bind PC.toB) (fun s1 => PC.evSs G cf th cb s1) m w1.st) (flP T w σ H D) noX, ⟨_, w, k, .refl, h⟩, ?_⟩
  rintro m σ1 H1 ⟨w1, k1, s1, h1⟩
  cases m with
  | zero => exact h1.elim
  | succ m =>
    have h1 : Rp (((PC.evE G cf th cc w1.st).bind PC.toB).bind fun b s1 => if b then (PC.evSs G cf th cb s1).bind fun f s2 => (match f with
      | .nx => PC.whlL (fun s1 => (PC.evE G cf th cc s1).bind PC.toB) (fun s1 => PC.evSs G cf th cb s1) m s2
      | .ct => PC.whlL (fun s1 => (PC.evE G cf th cc s1).bind PC.toB) (fun s1 => PC.evSs G cf th cb s1) m s2
      | .bk => .ok .nx s2
      | .rt d fr => .ok (.rt d fr) s2)
    else .ok .nx s1) (flP T w σ H D) noX := h1
    refine ⟨w1, k1, h1.bind.mono (fun b st y H2 ⟨w2, e2, k2, s2, _⟩ => ?_) (fun _ _ _ y => y)⟩
    subst e2
    have t2 := s1.trans k1 s2
    cases b with
    | false => exact (show flP T w σ H D .nx w2.st from y) σ1 H2 ⟨w2, rfl, k2, t2⟩
    | true =>
      rw [if_pos rfl]
      have y : Rp ((PC.evSs G cf th cb w2.st).bind _) (flP T w σ H D) noX := y
      refine ⟨fun σ3 H3 => ∃ w3, Ok T w3 σ3 H3 ∧ Stp w σ H w3 σ3 H3 ∧ Rp (PC.whlL (fun s1 => (PC.evE G cf th cc s1).bind PC.toB) (fun s1 => PC.evSs G cf th cb s1) m w3.st) (flP T w σ H D) noX, fun σ3 H3 z => ⟨m, Nat.lt_succ_self _, z⟩, w2, k2, y.bind.mono (fun f st z => ?_) (fun _ _ _ z => z)⟩
      cases f with
      | nx =>
        intro σ3 H3 ⟨w3, e3, k3, s3⟩
        subst e3
        exact ⟨w3, k3, t2.trans k2 s3, z⟩
      | ct =>
        intro σ3 H3 ⟨w3, e3, k3, s3⟩
        subst e3
        exact ⟨w3, k3, t2.trans k2 s3, z⟩
      | bk =>
        intro σ3 H3 ⟨w3, e3, k3, s3⟩
        exact (show flP T w σ H D .nx st from z) σ3 H3 ⟨w3, e3, k3, t2.trans k2 s3⟩
      | rt d fr =>
        intro v H3 z3
        exact (show flP T w σ H D (.rt d fr) st from z) v H3 (z3.after k2 t2)
end
end Br
end

section
set_option Elab.async false
set_option linter.all false
set_option maxRecDepth 100000
set_option maxHeartbeats 1000000
/-! Br22: targets, walks, for. -/
namespace Br
open PySem PySem.Spec PySem.Calls PyProof.Rows L2
open PC (D E S Sl Cl Sg Gs Rs Re)

section
variable {X : Cx} {T : Tb} {G : PC.Gl} {cf : PC.CF} {th : Option (Gs → Re)} {w w1 w2 w3 w4 : Wd} {σ σ1 σ2 : L2.St} {H H1 H2 H3 H' : Hp} {D : Ends}
/-! ### targets -/
/-- only the target's names have changed -/
def Sm (own : List Nat) (σ σ' : L2.St) : Prop := σ'.length = σ.length ∧ ∀ i, i ∉ own → σ'[i]? = σ[i]?
theorem Sm.refl {own : List Nat} : Sm own σ σ := ⟨rfl, fun _ _ => rfl⟩
theorem Sm.trans {o1 o2 : List Nat} (a : Sm o1 σ σ1) (b : Sm o2 σ1 σ2) : Sm (o1 ++ o2) σ σ2 := ⟨b.1.trans a.1, fun i h => (b.2 i fun z => h (List.mem_append_right _ z)).trans (a.2 i fun z => h (List.mem_append_left _ z))⟩
/-- behind a target: what is owned is as it was -/
def SPk (T : Tb) (w : Wd) (σ : L2.St) (H : Hp) (st : PC.St) (σ' : L2.St) (H' : Hp) : Prop := ∃ w' : Wd, w'.st = st ∧ Ok T w' σ' H' ∧ Stp w σ H w' σ' H' ∧ KO w σ H w' H'
theorem SPk.after {st : PC.St} {σ' : L2.St} (k : Ok T w σ H) (k1 : Ok T w1 σ1 H1) (s1 : Stp w σ H w1 σ1 H1) (q : KO w σ H w1 H1) (h : SPk T w1 σ1 H1 st σ' H') : SPk T w σ H st σ' H' := by
  obtain ⟨w', e, k', s, q'⟩ := h
  exact ⟨w', e, k', s1.trans k1 s, q.trans k k' s q'⟩
/-- a value comes to a target -/
def gD (T : Tb) (t : PC.T) : TG := fun v σ H Q => ∃ w d, Ok T w σ H ∧ Rep T w.ι w.F v d ∧ ∃ z, PC.bindT t d w.st = some z ∧ ∀ σ' H', SPk T w σ H z σ' H' → Sm (PC.ownT t) σ σ' → Q σ' H'
def gDs (T : Tb) (ts : List PC.T) : TGs := fun vs σ H Q => ∃ w ds, Ok T w σ H ∧ Reps T w.ι w.F vs ds ∧ ∃ z, PC.bindTs ts ds w.st = some z ∧ ∀ σ' H', SPk T w σ H z σ' H' → Sm (PC.ownTs ts) σ σ' → Q σ' H'
theorem pgImp {e : Expr} {t t' : TG} (h : PG X e t) (i : ∀ v σ H Q, t' v σ H Q → t v σ H Q) : PG X e t' := ⟨fun pins s σ H v u Q I r q => h.run pins s σ H v u Q I r (i v σ H Q q)⟩
theorem pgsImp {e : List Expr} {t t' : TGs} (h : PGs X e t) (i : ∀ v σ H Q, t' v σ H Q → t v σ H Q) : PGs X e t' := ⟨fun pins s σ H v u Q I r q => h.run pins s σ H v u Q I r (i v σ H Q q)⟩
theorem pgOr {e : Expr} {t t' : TG} (h : PG X e t) (h' : PG X e t') : PG X e (fun v σ H Q => t v σ H Q ∨ t' v σ H Q) := ⟨fun pins s σ H v u Q I r q => q.elim (h.run pins s σ H v u Q I r) (h'.run pins s σ H v u Q I r)⟩
theorem pg_nameC {i : Nat} {x : Str} {pos : Pos} (hN : X.N.Nodup) (hi : X.N[i]? = some x) (hx : Loc X.env.scope x) (hf : X.fn x = true ∨ X.env.scope.names.lookup x = some .local) : PG X (.Name x pos) (gD T (.n i)) := by
  refine pgImp (pg_name hN hi hx hf) fun v σ H Q ⟨w, d, k, r, z, e, q⟩ => ?_
  simp only [PC.bindT] at e
  cases e
  exact q _ H ⟨w.slot i (.va d), rfl, k.setV i r, Stp.slot_va .refl i d _, (KO.refl k).to rfl⟩ ⟨List.length_set, fun j hj => List.getElem?_set_ne fun z => hj (by simp only [PC.ownT]; rw [z]; exact List.mem_cons_self)⟩
theorem assign_ne {e : Expr} (h : nSt e = true) (es : List Expr) (env : Env) : (assignEach (e :: es) env).map (·.2) = assign e env :: (assignEach es env).map (·.2) := by
  cases e <;> first | rfl | cases h
theorem assign_len (env : Env) : ∀ es : List Expr, (assignEach es env).length = es.length
  | [] => rfl
  | e :: es => by
    cases e <;> exact congrArg (· + 1) (assign_len env es)
theorem assign_no {env : Env} : ∀ {es : List Expr}, es.all nSt = true → (assignEach es env).findIdx? (·.1) = none
  | [], _ => rfl
  | e :: es, h => by
    have ih := assign_no (env := env) (qAnd h).2
    have h1 := (qAnd h).1
    cases e <;> first | (cases h1; done) | (show List.findIdx? _ (_ :: assignEach es env) = none; rw [List.findIdx?_cons]; simp [ih])
theorem pgs_nilC : PGs X [] (gDs T []) := by
  refine pgsImp pgs_nil fun vs σ H Q ⟨w, ds, k, r, z, e, q⟩ => ?_
  cases r with
  | nil =>
    simp only [PC.bindTs] at e
    cases e
    exact ⟨rfl, q σ H ⟨w, rfl, k, .refl, .refl k⟩ .refl⟩
  | cons _ _ => simp [PC.bindTs] at e
theorem pgs_consC {e : Expr} {es : List Expr} {t : PC.T} {ts : List PC.T} (h1 : PG X e (gD T t)) (h2 : PGs X es (gDs T ts)) (hs : nSt e = true) : PGs X (e :: es) (gDs T (t :: ts)) := by
  refine pgsImp (pgs_cons h1 h2 (assign_ne hs _ _)) fun vs σ H Q ⟨w, ds, k, r, z, e, q⟩ => ?_
  cases r with
  | nil => simp [PC.bindTs] at e
  | cons r rr =>
    simp only [PC.bindTs] at e
    obtain ⟨y, ey, ez⟩ := opt_bind_some e
    refine ⟨_, _, rfl, w, _, k, r, y, ey, fun σ' H' ⟨w1, e1, k1, s1, q1⟩ m1 => ?_⟩
    subst e1
    exact ⟨w1, _, k1, s1.reps rr, z, ez, fun σ2 H2 sp m2 => q σ2 H2 (sp.after k k1 s1 q1) (by simp only [PC.ownTs]; exact m1.trans m2)⟩
theorem bindTs_len {ts : List PC.T} : ∀ {ds : List PC.D} {s z : PC.St}, PC.bindTs ts ds s = some z → ts.length = ds.length := by
  induction ts with
  | nil =>
    intro ds s z h
    cases ds with
    | nil => rfl
    | cons _ _ => simp [PC.bindTs] at h
  | cons t ts ih =>
    intro ds s z h
    cases ds with
    | nil => simp [PC.bindTs] at h
    | cons d ds =>
      simp only [PC.bindTs] at h
      obtain ⟨y, _, h⟩ := opt_bind_some h
      exact congrArg (· + 1) (ih h)
theorem pg_tupC (hK : T.K = X.K) (hc : X.calm = true) {es : List Expr} {ts : List PC.T} {n : Nat} {pos : Pos} (h : PGs X es (gDs T ts)) (hs : es.all nSt = true) (hl : es.length = ts.length) : PG X (.Tuple es n pos) (gD T (.t ts)) := by
  refine pgImp (pgOr (pg_tup (n := es.length) hc h (assign_len _ _) (assign_no hs)) (pg_lst (n := es.length) hc h (assign_len _ _) (assign_no hs))) fun v σ H Q ⟨w, d, k, r, z, e, q⟩ => ?_
  cases d with
  | tup ds =>
    have e : PC.bindTs ts ds w.st = some z := by simpa only [PC.bindT] using e
    have cn : Cnt T w H v (.tup ds) := r.cnt k
    obtain ⟨a, vs, rfl, ha, rr⟩ := cn
    exact .inl ⟨a, vs, rfl, ha.sq hK k, by rw [rr.length, ← bindTs_len e, hl], w, ds, k, rr, z, e, by simpa only [PC.ownT] using q⟩
  | lst ds =>
    have e : PC.bindTs ts ds w.st = some z := by simpa only [PC.bindT] using e
    have cn : Cnt T w H v (.lst ds) := r.cnt k
    obtain ⟨a, vs, rfl, ha, rr⟩ := cn
    exact .inr ⟨a, vs, rfl, .inl (.of ha), by rw [rr.length, ← bindTs_len e, hl], w, ds, k, rr, z, e, by simpa only [PC.ownT] using q⟩
  | _ => simp [PC.bindT] at e
/-! ### walks -/
/-- what a walk gives in every later world: the items of xs (q: what is owned stays as it is) -/
structure Src (T : Tb) (w : Wd) (σ : L2.St) (H : Hp) (q : Bool) (J : It) (xs : List PC.D) : Prop where
  go : ∀ (w2 : Wd) (σ2 : L2.St) (H2 : Hp), Ok T w2 σ2 H2 → Stp w σ H w2 σ2 H2 → (q = true → ∀ a, Own w σ a → H2 a = H a) → ∀ (i : Nat) (d : PC.D), xs[i]? = some d → J.go i H2 ∧
    ∀ x H3, J.yld i H2 x H3 → ∃ w3 : Wd, w3.st = w2.st ∧ w3.ι = w2.ι ∧ Ok T w3 σ2 H3 ∧ Stp w2 σ2 H2 w3 σ2 H3 ∧ Keep H2 H3 ∧ Rep T w3.ι w3.F x d
  stop : ∀ (w2 : Wd) (σ2 : L2.St) (H2 : Hp), Ok T w2 σ2 H2 → Stp w σ H w2 σ2 H2 → (q = true → ∀ a, Own w σ a → H2 a = H a) → J.stop xs.length H2
def IPw (T : Tb) (w : Wd) (σ : L2.St) (H : Hp) (q qn : Bool) (xs : List PC.D) (st : PC.St) (J : It) (H' : Hp) : Prop :=
  ∃ w' : Wd, w'.st = st ∧ Ok T w' σ H' ∧ Stp w σ H w' σ H' ∧ (q = true → KO w σ H w' H') ∧ Src T w' σ H' qn J xs
/-- an expression that is walked; qn: it may be a name that is only looked at -/
def tI (T : Tb) (G : PC.Gl) (cf : PC.CF) (th : Option (Gs → Re)) (qn : Bool) (c : E) : TI := fun σ H R => ∃ w, Ok T w σ H ∧ Rp ((PC.lk qn c w.st (PC.evE G cf th c w.st)).bind fun r s1 => PC.opt (PC.walkS r.1) s1) (fun xs st => ∀ J H', IPw T w σ H (PC.quiet c) qn xs st J H' → R J H') noX
theorem piImp {tg e : Expr} {t t' : TI} (h : PI X tg e t) (i : ∀ σ H R, t' σ H R → t σ H R) : PI X tg e t' := ⟨fun pins s σ H R I q => h.run pins s σ H R I (i σ H R q)⟩
theorem piOr {tg e : Expr} {t t' : TI} (h : PI X tg e t) (h' : PI X tg e t') : PI X tg e (fun σ H R => t σ H R ∨ t' σ H R) := ⟨fun pins s σ H R I q => q.elim (h.run pins s σ H R I) (h'.run pins s σ H R I)⟩
theorem src_lst {K : PySem.W.Frag} {q : Bool} {a : Addr} {vs : List V} {ds : List PC.D} (ha : ∀ (w2 : Wd) (σ2 : L2.St) (H2 : Hp), Ok T w2 σ2 H2 → Stp w σ H w2 σ2 H2 → (q = true → ∀ a, Own w σ a → H2 a = H a) → H2 a = some (.lst vs)) (r : Reps T w.ι w.F vs ds) : Src T w σ H q (Itl K a) ds := by
  refine ⟨fun w2 σ2 H2 k2 hs2 ho i d hd => ?_, fun w2 σ2 H2 k2 hs2 ho => ?_⟩
  · obtain ⟨v, hv, rv⟩ := r.get hd
    have hs : SqL K H2 a vs := .inl (.of (ha w2 σ2 H2 k2 hs2 ho))
    refine ⟨⟨vs, v, hs, hv⟩, fun x H3 ⟨e, hx⟩ => ?_⟩
    subst e
    have hx := hx vs hs
    rw [hv] at hx
    cases hx
    exact ⟨w2, rfl, rfl, k2, .refl, .refl _, hs2.rep rv⟩
  · exact ⟨vs, .inl (.of (ha w2 σ2 H2 k2 hs2 ho)), by rw [r.length]; exact Nat.le_refl _⟩
theorem src_tup {K : PySem.W.Frag} {q : Bool} {a : Addr} {vs : List V} {ds : List PC.D} (hK : T.K = K) (ha : TupAt T w a vs ds) (r : Reps T w.ι w.F vs ds) : Src T w σ H q (Itt K a) ds := by
  refine ⟨fun w2 σ2 H2 k2 hs2 _ i d hd => ?_, fun w2 σ2 H2 k2 hs2 _ => ?_⟩
  · obtain ⟨v, hv, rv⟩ := r.get hd
    have hs : SqT K H2 a vs := TupAt.sq (w := w2) (ds := ds) hK k2 (ha.imp (hs2.F a _) id)
    refine ⟨⟨vs, v, hs, hv⟩, fun x H3 ⟨e, hx⟩ => ?_⟩
    subst e
    have hx := hx vs hs
    rw [hv] at hx
    cases hx
    exact ⟨w2, rfl, rfl, k2, .refl, .refl _, hs2.rep rv⟩
  · exact ⟨vs, TupAt.sq (w := w2) (ds := ds) hK k2 (ha.imp (hs2.F a _) id), by rw [r.length]; exact Nat.le_refl _⟩
theorem src_str {q : Bool} (x : Str) : Src T w σ H q (Its x) (x.cps.toList.map fun c => .str [c]) := by
  refine ⟨fun w2 σ2 H2 k2 hs2 _ i d hd => ?_, fun w2 σ2 H2 k2 hs2 _ => ?_⟩
  · rw [List.getElem?_map] at hd
    obtain ⟨c, hc, rfl⟩ := Option.map_eq_some_iff.mp hd
    rw [Array.getElem?_toList] at hc
    refine ⟨(Array.getElem?_eq_some_iff.mp hc).1, fun v H3 ⟨e, c', hc', hv⟩ => ?_⟩
    subst e hv
    rw [hc] at hc'
    cases hc'
    exact ⟨w2, rfl, rfl, k2, .refl, .refl _, rep_str rfl⟩
  · show x.cps.size ≤ _
    rw [List.length_map, Array.length_toList]
    exact Nat.le_refl _
/-- a walked operand -/
theorem lp_lst {K : PySem.W.Frag} {q qn : Bool} {ds : List PC.D} {b : Bool} {st : PC.St} {v : V} (p : LP T w σ H q qn (.lst ds, b) st v H1) : ∃ a, v = .ref a ∧ (∃ vs, SqL K H1 a vs) ∧ IPw T w σ H q qn ds st (Itl K a) H1 := by
  obtain ⟨w1, e1, k1, t1, q1, op, _⟩ := p
  rcases op with r | ⟨a, rfl, f, vs, c, r⟩ | ⟨hq, a, rfl, ow, vs, c, r⟩
  · cases r with
    | lst ha rs => exact ⟨_, rfl, ⟨_, .inl (.of (k1.ex ha rfl))⟩, w1, e1, k1, t1, q1, src_lst (fun w2 σ2 H2 k2 hs _ => k2.ex (hs.F _ _ ha) rfl) rs⟩
  · exact ⟨a, rfl, ⟨_, .inl (.of c)⟩, w1, e1, k1, t1, q1, src_lst (fun w2 σ2 H2 k2 hs _ => hs.kp _ _ c rfl f.i f.o) r⟩
  · exact ⟨a, rfl, ⟨_, .inl (.of c)⟩, w1, e1, k1, t1, q1, src_lst (fun w2 σ2 H2 k2 hs ho => (ho hq a ow).trans c) r⟩
theorem lp_tup {K : PySem.W.Frag} (hK : T.K = K) {q qn : Bool} {ds : List PC.D} {b : Bool} {st : PC.St} {v : V} (p : LP T w σ H q qn (.tup ds, b) st v H1) : ∃ a, v = .ref a ∧ (∃ vs, SqT K H1 a vs) ∧ IPw T w σ H q qn ds st (Itt K a) H1 := by
  obtain ⟨w1, e1, k1, t1, q1, op, _⟩ := p
  rcases op with r | ⟨a, rfl, f, c⟩ | ⟨hq, a, rfl, ow, c⟩
  · have cn : Cnt T w1 H1 v (.tup ds) := r.cnt k1
    obtain ⟨a, vs, rfl, ha, rs⟩ := cn
    exact ⟨a, rfl, ⟨vs, ha.sq hK k1⟩, w1, e1, k1, t1, q1, src_tup hK ha rs⟩
  · exact c.elim
  · exact c.elim
theorem lp_str {q qn : Bool} {y : List Nat} {b : Bool} {st : PC.St} {v : V} (p : LP T w σ H q qn (.str y, b) st v H1) : ∃ x, v = .str x ∧ IPw T w σ H q qn (y.map fun c => .str [c]) st (Its x) H1 := by
  obtain ⟨w1, e1, k1, t1, q1, op, _⟩ := p
  rcases op with r | ⟨a, rfl, f, c⟩ | ⟨hq, a, rfl, ow, c⟩
  · cases r with
    | str x => exact ⟨x, rfl, w1, e1, k1, t1, q1, src_str x⟩
  · exact c.elim
  · exact c.elim
theorem IPw.up {q qn b : Bool} {xs : List PC.D} {st : PC.St} {J : It} (h : IPw T w σ H q (qn && b) xs st J H1) : IPw T w σ H q qn xs st J H1 := by
  obtain ⟨w', e', k', s', q', g⟩ := h
  exact ⟨w', e', k', s', q', ⟨fun w2 σ2 H2 k2 hs ho => g.go w2 σ2 H2 k2 hs fun z => ho (qAnd z).1, fun w2 σ2 H2 k2 hs ho => g.stop w2 σ2 H2 k2 hs fun z => ho (qAnd z).1⟩⟩
/-- an expression that is walked (no dict) -/
theorem pi_of (hK : T.K = X.K) {tg e : Expr} {c : E} {qn : Bool} (he : PE X e (tL T G cf th none qn c)) : PI X tg e (tI T G cf th qn c) := by
  refine piImp (piOr (pi_list he) (piOr (pi_tup he) (pi_str he))) fun σ H R ⟨w, k, h⟩ => ?_
  have h := h.bind
  cases hv : PC.lk qn c w.st (PC.evE G cf th c w.st) with
  | no => rw [hv] at h; exact h.elim
  | ex C fs st => rw [hv] at h; exact h.elim
  | ok r s1 =>
    rw [hv] at h
    obtain ⟨xs, ex, hR⟩ := Rp.opt h
    obtain ⟨d, b⟩ := r
    cases d with
    | lst ds =>
      cases ex
      refine .inl ⟨w, k, ?_⟩
      rw [hv]
      intro v H1 p1
      obtain ⟨a, ea, sq, ip⟩ := lp_lst p1
      exact ⟨a, ea, sq, hR _ _ ip.up⟩
    | tup ds =>
      cases ex
      refine .inr (.inl ⟨w, k, ?_⟩)
      rw [hv]
      intro v H1 p1
      obtain ⟨a, ea, sq, ip⟩ := lp_tup hK p1
      exact ⟨a, ea, sq, hR _ _ ip.up⟩
    | str x =>
      cases ex
      refine .inr (.inr ⟨w, k, ?_⟩)
      rw [hv]
      intro v H1 p1
      obtain ⟨x, ex, ip⟩ := lp_str p1
      exact ⟨x, ex, hR _ _ ip.up⟩
    | _ => cases ex
/-! ### for -/
theorem for_core {J : It} {xs : List PC.D} {t : PC.T} {cb : List S} (src : Src T w1 σ H1 false J xs) (k1 : Ok T w1 σ H1)
    (y : Rp (PC.forL (fun x s3 => (PC.opt (PC.bindT t x s3) s3).bind fun z _ => PC.evSs G cf th cb z) xs w1.st) (flP T w1 σ H1 D) noX) :
    ∃ W : Nat → Nat → L2.St → Hp → Prop, (∃ m, W 0 m σ H1) ∧ ∀ i m σ H, W i m σ H → (J.stop i H ∧ D.nx σ H) ∨ (J.go i H ∧ ∃ N : L2.St → Hp → Prop, (∀ σ' H', N σ' H' → ∃ m', m' < m ∧ W (i + 1) m' σ' H') ∧
      ∀ x H', J.yld i H x H' → gD T t x σ H' fun σ2 H2 => tSs T G cf th cb { D with nx := N, ct := N, bk := D.nx } σ2 H2) := by
  refine ⟨fun i m σ2 H2 => ∃ w2, Ok T w2 σ2 H2 ∧ Stp w1 σ H1 w2 σ2 H2 ∧ i ≤ xs.length ∧ m = xs.length - i ∧
    Rp (PC.forL (fun x s3 => (PC.opt (PC.bindT t x s3) s3).bind fun z _ => PC.evSs G cf th cb z) (xs.drop i) w2.st) (flP T w1 σ H1 D) noX, ⟨xs.length, w1, k1, .refl, Nat.zero_le _, rfl, y⟩, ?_⟩
  rintro i m σ2 H2 ⟨w2, k2, s2, hle, rfl, h2⟩
  have ho : false = true → ∀ a, Own w1 σ a → H2 a = H1 a := fun z => by cases z
  by_cases hi : i < xs.length
  · right
    have hd : xs[i]? = some xs[i] := List.getElem?_eq_getElem hi
    obtain ⟨go, yld⟩ := src.go w2 σ2 H2 k2 s2 ho i _ hd
    rw [List.drop_eq_getElem_cons hi] at h2
    have h2 : Rp (((PC.opt (PC.bindT t xs[i] w2.st) w2.st).bind fun z _ => PC.evSs G cf th cb z).bind fun f s1 => (match f with
      | .nx => PC.forL (fun x s3 => (PC.opt (PC.bindT t x s3) s3).bind fun z _ => PC.evSs G cf th cb z) (xs.drop (i + 1)) s1
      | .ct => PC.forL (fun x s3 => (PC.opt (PC.bindT t x s3) s3).bind fun z _ => PC.evSs G cf th cb z) (xs.drop (i + 1)) s1
      | .bk => .ok .nx s1
      | .rt d fr => .ok (.rt d fr) s1)) (flP T w1 σ H1 D) noX := h2
    refine ⟨go, fun σ3 H3 => ∃ w3, Ok T w3 σ3 H3 ∧ Stp w1 σ H1 w3 σ3 H3 ∧
      Rp (PC.forL (fun x s3 => (PC.opt (PC.bindT t x s3) s3).bind fun z _ => PC.evSs G cf th cb z) (xs.drop (i + 1)) w3.st) (flP T w1 σ H1 D) noX, fun σ3 H3 ⟨w3, k3, s3, h3⟩ => ⟨_, by omega, w3, k3, s3, hi, rfl, h3⟩, fun x H3 hy => ?_⟩
    obtain ⟨w3, e3, i3, k3, s3, kp3, r3⟩ := yld x H3 hy
    rw [bind_as] at h2
    obtain ⟨z, ez, h3⟩ := Rp.opt (Rp.bind h2)
    have t3 := s2.trans k2 s3
    refine ⟨w3, _, k3, r3, z, by rw [e3]; exact ez, fun σ4 H4 ⟨w4, e4, k4, s4, _⟩ _ => ?_⟩
    subst e4
    have t4 := t3.trans k3 s4
    have h3 : Rp ((PC.evSs G cf th cb w4.st).bind _) (flP T w1 σ H1 D) noX := h3
    refine ⟨w4, k4, h3.bind.mono (fun f st z => ?_) (fun _ _ _ z => z)⟩
    cases f with
    | nx =>
      intro σ5 H5 ⟨w5, e5, k5, s5⟩
      subst e5
      exact ⟨w5, k5, t4.trans k4 s5, z⟩
    | ct =>
      intro σ5 H5 ⟨w5, e5, k5, s5⟩
      subst e5
      exact ⟨w5, k5, t4.trans k4 s5, z⟩
    | bk =>
      intro σ5 H5 ⟨w5, e5, k5, s5⟩
      exact (show flP T w1 σ H1 D .nx st from z) σ5 H5 ⟨w5, e5, k5, t4.trans k4 s5⟩
    | rt d fr =>
      intro v H5 z5
      exact (show flP T w1 σ H1 D (.rt d fr) st from z) v H5 (z5.after k4 t4)
  · left
    have he : i = xs.length := by omega
    subst he
    rw [List.drop_length] at h2
    exact ⟨src.stop w2 σ2 H2 k2 s2 ho, h2 σ2 H2 ⟨w2, rfl, k2, s2⟩⟩
theorem evS_for (t : PC.T) (it : E) (b : List S) (s : PC.St) : PC.evS G cf th (.for_ t it b) s = ((PC.evE G cf th it s).bind fun r s1 => PC.opt (PC.walkI it r.1) s1).bind fun xs s2 =>
      PC.forL (fun x s3 => (PC.opt (PC.bindT t x s3) s3).bind fun z _ => PC.evSs G cf th b z) xs s2 := by
  simp only [PC.evS, bind_as]
/-- for over what is no dict -/
theorem for_tail {tg iter : Expr} {t : PC.T} {c : E} {cb : List S} (h : ∃ w, Ok T w σ H ∧ Rp (((PC.evE G cf th c w.st).bind fun r s1 => PC.opt (PC.walkS r.1) s1).bind fun xs s2 => PC.forL (fun x s3 => (PC.opt (PC.bindT t x s3) s3).bind fun z _ => PC.evSs G cf th cb z) xs s2) (flP T w σ H D) noX) :
    tFor (tI T G cf th false c) (gD T t) (tSs T G cf th cb) D σ H := by
  obtain ⟨w, k, h⟩ := h
  refine ⟨w, k, h.bind.mono (fun xs st y J H1 ⟨w1, e1, k1, s1, q1, src⟩ => ?_) (fun _ _ _ y => y)⟩
  subst e1
  exact for_core src k1 (Rp.mono y (fun f st z => flP.after k1 s1 z) (fun _ _ _ z => z))
theorem ps_forC (hx : X.xe = fun _ _ => False) (hc : X.calm = true) {tg iter : Expr} {body : List Stmt} {t : PC.T} {c : E} {cb : List S} {pos : Pos} (hi : PI X tg iter (tI T G cf th false c)) (hg : PG X tg (gD T t)) (hb : PSs X body (tSs T G cf th cb)) (hs : nSet iter = true) (hv : ∀ d, PC.walkI c d = PC.walkS d) :
    PS X (.For tg iter body [] pos) (tS T G cf th (.for_ t c cb)) := by
  refine psImp (ps_for (by rw [hx]; exact PassesOwn.never) hc hi hg hb (fold_ne hs _)) fun D σ H ⟨w, k, h⟩ => ?_
  rw [evS_for] at h
  simp only [hv] at h
  exact for_tail (iter := iter) (tg := tg) ⟨w, k, h⟩
end
end Br
end

section
set_option Elab.async false
set_option linter.all false
set_option maxRecDepth 100000
set_option maxHeartbeats 1000000
/-! Br23: dicts walked by their names (locked meanwhile). -/
namespace Br
open PySem PySem.Spec PySem.Calls PyProof.Rows L2
open PC (D E S Sl Cl Sg Gs Rs Re)

section
variable {X : Cx} {T : Tb} {G : PC.Gl} {cf : PC.CF} {th : Option (Gs → Re)} {w w1 w2 w3 w4 : Wd} {σ σ1 σ2 : L2.St} {H H1 H2 H3 H' : Hp} {D : Ends} {d : Addr} {u : HO} {od : Obj}
theorem Ok.lock (k : Ok T w σ H) (hu : w.F d = some u) (hd : dctH u = true) : Ok T w σ (upd H d (.frz od u)) := by
  obtain ⟨ni, no⟩ := k.known hu
  refine ⟨k.len, k.nd, fun a v e => ?_, k.frz, fun n a c e1 e2 => ?_, k.sl, k.va, fun i x e => ?_, k.ap, tabs_upd k.tb fun v e => ?_⟩
  · by_cases z : a = d
    · subst z
      rw [hu] at e
      cases e
      exact .inr ⟨hd, od, upd_same⟩
    · rw [upd_ne z]
      exact k.sub a v e
  · obtain ⟨h1, h2⟩ := k.cel n a c e1 e2
    have z : a ≠ d := fun z => ni (z ▸ List.mem_of_getElem? e1)
    refine ⟨h1, ?_⟩
    cases c with
    | ref ds => exact h2.imp fun vs r => ⟨(upd_ne z).trans r.1, r.2⟩
    | inst C fs =>
      obtain ⟨o, dx, es, c, r⟩ := h2
      exact ⟨o, dx, es, (upd_ne z).trans c, r⟩
  · obtain ⟨a, h1, h2, h3, h4⟩ := k.ow i x e
    have z : a ≠ d := fun z => no ⟨i, x, e, z ▸ h1⟩
    exact ⟨a, h1, h2, h3, h4.at (upd_ne z)⟩
  · rcases k.sub d u hu with z | ⟨_, o, z⟩
    · rw [e] at z; cases z; cases u <;> first | rfl | cases hd
    · rw [e] at z; cases z; cases u <;> first | rfl | cases hd
theorem Ok.unlock (k : Ok T w σ H) (hu : w.F d = some u) (hd : dctH u = true) : Ok T w σ (upd H d u) := by
  obtain ⟨ni, no⟩ := k.known hu
  refine ⟨k.len, k.nd, fun a v e => ?_, k.frz, fun n a c e1 e2 => ?_, k.sl, k.va, fun i x e => ?_, k.ap, tabs_upd k.tb fun v e => ?_⟩
  · by_cases z : a = d
    · subst z
      rw [hu] at e
      cases e
      exact .inl upd_same
    · rw [upd_ne z]
      exact k.sub a v e
  · obtain ⟨h1, h2⟩ := k.cel n a c e1 e2
    have z : a ≠ d := fun z => ni (z ▸ List.mem_of_getElem? e1)
    refine ⟨h1, ?_⟩
    cases c with
    | ref ds => exact h2.imp fun vs r => ⟨(upd_ne z).trans r.1, r.2⟩
    | inst C fs =>
      obtain ⟨o, dx, es, c, r⟩ := h2
      exact ⟨o, dx, es, (upd_ne z).trans c, r⟩
  · obtain ⟨a, h1, h2, h3, h4⟩ := k.ow i x e
    have z : a ≠ d := fun z => no ⟨i, x, e, z ▸ h1⟩
    exact ⟨a, h1, h2, h3, h4.at (upd_ne z)⟩
  · rcases k.sub d u hu with z | ⟨_, o, z⟩
    · rw [e] at z; cases z; cases u <;> first | rfl | cases hd
    · rw [e] at z; cases z; cases u <;> first | rfl | cases hd
theorem Stp.unlock (k1 : Ok T w1 σ1 H1) (hu : w.F d = some u) (hd : H d = some u) (s : Stp w σ (upd H d (.frz od u)) w1 σ1 H1) : Stp w σ H w1 σ1 (upd H1 d u) := by
  have t : ∀ a, upd H d (.frz od u) a = none → H a = none := fun a e => by
    by_cases z : a = d
    · subst z
      rw [upd_same] at e
      cases e
    · rwa [upd_ne z] at e
  refine ⟨s.ι, s.F, fun a o e ht ni no => ?_, fun a o e nt f ni no => ?_, fun a e => ?_, fun a h => (s.nw a h).imp id (t a)⟩
  · by_cases z : a = d
    · subst z
      rw [upd_same, ← hd, e]
    · rw [upd_ne z]
      exact s.kp a o (by rw [upd_ne z]; exact e) ht ni no
  · have z : a ≠ d := fun z => by
      subst z
      rw [hu] at f
      cases f
    exact s.fr a o (by rw [upd_ne z]; exact e) (by rw [upd_ne z]; exact nt) f ni no
  · have z : a ≠ d := fun z => by
      subst z
      rw [upd_same] at e
      cases e
    rw [upd_ne z] at e
    exact t a (s.tr a e)
theorem frz_kept (k : Ok T w σ H) (hu : w.F d = some u) (s : Stp w σ (upd H d (.frz od u)) w1 σ1 H1) : H1 d = some (.frz od u) :=
  s.kp d _ upd_same rfl (k.known hu).1 (k.known hu).2
theorem SPw.unlock {st : PC.St} {σ' : L2.St} (k : Ok T w σ H) (hu : w.F d = some u) (dc : dctH u = true) (hd : H d = some u) (h : SPw T w σ (upd H d (.frz od u)) st σ' H') : H' d = some (.frz od u) ∧ SPw T w σ H st σ' (upd H' d u) := by
  obtain ⟨w', e, k', s⟩ := h
  exact ⟨frz_kept k hu s, w', e, k'.unlock (s.F _ _ hu) dc, s.unlock k' hu hd⟩
theorem CtL.keepU {ι : List Addr} {F : Hp} {a : Addr} {x : PC.D} (z : a ≠ d) (h : CtL T ι F H a x) : CtL T ι F (upd H d u) a x := h.at (upd_ne z)
theorem RtP.unlock {st : PC.St} {x : PC.D} {fr : Bool} {v : V} (k : Ok T w σ H) (hu : w.F d = some u) (dc : dctH u = true) (hd : H d = some u) (h : RtP T w σ (upd H d (.frz od u)) x fr st v H') : H' d = some (.frz od u) ∧ RtP T w σ H x fr st v (upd H' d u) := by
  obtain ⟨w', σ', e, k', s, h1, h2⟩ := h
  refine ⟨frz_kept k hu s, w', σ', e, k'.unlock (s.F _ _ hu) dc, s.unlock k' hu hd, h1, fun z => ?_⟩
  obtain ⟨a, ea, o, f, c⟩ := h2 z
  have za : a ≠ d := fun z => by
    have := f.f
    rw [z, s.F _ _ hu] at this
    cases this
  exact ⟨a, ea, o.imp (fun e => by rwa [upd_ne za] at e) id, ⟨f.f, f.i, f.o⟩, c.keepU za⟩
/-- the keys -/
theorem src_keys {q : Bool} {es : List (Key × V)} {kvs : List (PC.D × PC.D)} (hd : H d = some (.frz od (.dK es))) (hi : d ∉ w.ι) (ho : ¬ Own w σ d) (r : RepK T w.ι w.F es kvs) : Src T w σ H q (Itk d od es) (kvs.map (·.1)) := by
  have at' : ∀ {es : List (Key × V)} {kvs : List (PC.D × PC.D)} {i : Nat} {x : PC.D}, RepK T w.ι w.F es kvs → (kvs.map (·.1))[i]? = some x → ∃ kk v, es[i]? = some (kk, v) ∧ x = keyD kk := by
    intro es
    induction es with
    | nil =>
      intro kvs i x r h
      cases r
      simp at h
    | cons e es ih =>
      intro kvs i x r h
      cases r with
      | @cons kk v dd _ kvs' _ r' =>
        cases i with
        | zero =>
          simp at h
          exact ⟨_, _, rfl, h.symm⟩
        | succ i =>
          obtain ⟨kk, v, e1, e2⟩ := ih (i := i) r' (by simpa using h)
          exact ⟨kk, v, by simpa using e1, e2⟩
  have ln : ∀ {es : List (Key × V)} {kvs : List (PC.D × PC.D)}, RepK T w.ι w.F es kvs → es.length = kvs.length := by
    intro es
    induction es with
    | nil => intro kvs r; cases r; rfl
    | cons e es ih =>
      intro kvs r
      cases r with
      | cons _ r' => exact congrArg (· + 1) (ih r')
  refine ⟨fun w2 σ2 H2 k2 hs _ i x hx => ?_, fun w2 σ2 H2 k2 hs _ => ⟨hs.kp _ _ hd rfl hi ho, by rw [List.length_map, ln r]; exact Nat.le_refl _⟩⟩
  obtain ⟨kk, v, e1, rfl⟩ := at' r hx
  refine ⟨⟨hs.kp _ _ hd rfl hi ho, (List.getElem?_eq_some_iff.mp e1).1⟩, fun y H3 ⟨e, k', v', e2, ey⟩ => ?_⟩
  subst e ey
  rw [e1] at e2
  cases e2
  refine ⟨w2, rfl, rfl, k2, .refl, .refl _, ?_⟩
  cases kk with
  | inl i => exact .int i
  | inr x => exact .str x
theorem src_keysT {q : Bool} {es : List (List Key × V)} {kvs : List (PC.D × PC.D)} (hd : H d = some (.frz od (.dT es))) (hi : d ∉ w.ι) (ho : ¬ Own w σ d) (r : RepT T w.ι w.F es kvs) : Src T w σ H q (Itkt d od es) (kvs.map (·.1)) := by
  have at' : ∀ {es : List (List Key × V)} {kvs : List (PC.D × PC.D)} {i : Nat} {x : PC.D}, RepT T w.ι w.F es kvs → (kvs.map (·.1))[i]? = some x → ∃ kk v, es[i]? = some (kk, v) ∧ x = .tup (kk.map keyD) := by
    intro es
    induction es with
    | nil =>
      intro kvs i x r h
      cases r
      simp at h
    | cons e es ih =>
      intro kvs i x r h
      cases r with
      | @cons kk v dd _ kvs' _ r' =>
        cases i with
        | zero =>
          simp at h
          exact ⟨_, _, rfl, h.symm⟩
        | succ i =>
          obtain ⟨kk, v, e1, e2⟩ := ih (i := i) r' (by simpa using h)
          exact ⟨kk, v, by simpa using e1, e2⟩
  have ln : ∀ {es : List (List Key × V)} {kvs : List (PC.D × PC.D)}, RepT T w.ι w.F es kvs → es.length = kvs.length := by
    intro es
    induction es with
    | nil => intro kvs r; cases r; rfl
    | cons e es ih =>
      intro kvs r
      cases r with
      | cons _ r' => exact congrArg (· + 1) (ih r')
  refine ⟨fun w2 σ2 H2 k2 hs _ i x hx => ?_, fun w2 σ2 H2 k2 hs _ => ⟨hs.kp _ _ hd rfl hi ho, by rw [List.length_map, ln r]; exact Nat.le_refl _⟩⟩
  obtain ⟨kk, v, e1, rfl⟩ := at' r hx
  refine ⟨⟨hs.kp _ _ hd rfl hi ho, (List.getElem?_eq_some_iff.mp e1).1⟩, fun y H3 ⟨e, k', v', b, e2, ey, hb⟩ => ?_⟩
  subst e ey
  rw [e1] at e2
  cases e2
  obtain ⟨w3, e3, i3, k3, s3, r3⟩ := know_tups [b] [kk] k2 (.cons hb .nil)
  cases r3 with
  | cons r3 _ => exact ⟨w3, e3, i3, k3, s3, .refl _, r3⟩
/-- for over a dict's name -/
theorem ps_forN (hK : T.K = X.K) (hx : X.xe = fun _ _ => False) (hc : X.calm = true) {i : Nat} {x : Str} {p : Pos} {tg : Expr} {body : List Stmt} {t : PC.T} {cb : List S} {pos : Pos} (hN : X.N[i]? = some x) (hv : Vis X.env.scope x) (hd : (x == ("__debug__" : Str)) = false) (hcd : (x == ("__classdict__" : Str)) = false)
    (hg : PG X tg (gD T t)) (hb : PSs X body (tSs T G cf th cb)) : PS X (.For tg (.Name x p) body [] pos) (tS T G cf th (.for_ t (.v i) cb)) := by
  have nm : nSet (.Name x p) = true := rfl
  have h1 := ps_for (pos := pos) (by rw [hx]; exact PassesOwn.never) hc (pi_of hK (qn := false) (PE.opd (pe_name (T := T) (G := G) (cf := cf) (th := th) (W := none) (i := i) (pos := p) hN hv hd hcd) (.inl rfl))) hg hb (fold_ne nm _)
  have h3 := ps_for (pos := pos) (by rw [hx]; exact PassesOwn.never) hc (pi_keys (tg := tg) (pe_var (pos := p) hN hv hd hcd)) hg hb (fold_ne nm _)
  have h2 := ps_lock (ps_for (pos := pos) (by rw [hx]; exact PassesOwn.never) hc (pi_keys (tg := tg) (pe_var (pos := p) hN hv hd hcd)) hg hb (fold_ne nm _))
  refine ⟨fun pins s σ H D I ⟨w, k, h⟩ => ?_⟩
  rw [evS_for] at h
  have hr : Rp (PC.evE G cf th (.v i) w.st) _ noX := h.bind.bind
  rw [evE_v] at hr
  rcases rd_ok k i with e | ⟨r, st, v, e, hf, hs, w1, e1, k1, s1, i1, rp⟩
  · rw [e] at hr
    exact hr.elim
  obtain ⟨dd, b⟩ := r
  by_cases hdc : ∃ m, dd = .dct m
  · obtain ⟨m, rfl⟩ := hdc
    rw [evE_v, e] at h
    have h : Rp (PC.forL _ (m.map (·.1)) st) (flP T w σ H D) noX := h
    subst e1
    have h : Rp (PC.forL _ (m.map (·.1)) w1.st) (flP T w1 σ H D) noX := h.mono (fun f st z => flP.after k1 s1 z) (fun _ _ _ z => z)
    have lock : ∀ {a : Addr} {u : HO}, H a = some u → Mut (some u) → w1.F a = some u → dctH u = true → (∀ od D', Rp (PC.forL (fun x s3 => (PC.opt (PC.bindT t x s3) s3).bind fun z _ => PC.evSs G cf th cb z) (m.map (·.1)) w1.st) (flP T w1 σ (upd H a (.frz od u)) D') noX →
        tFor (iKeys (tVar i)) (gD T t) (tSs T G cf th cb) D' σ (upd H a (.frz od u))) → wpAny (model X.prog X.w) X.A (exec (.For tg (.Name x p) body [] pos) X.env) (SP X pins D) X.xe s := fun {a u} ha mu hF hu go => by
      refine h2.run pins s σ H D I ⟨a, u, ha, mu, fun od => go od _ (h.mono (fun f st z => ?_) (fun _ _ _ z => z))⟩
      cases f with
      | nx => exact fun σ' H' y => ⟨(y.unlock k1 hF hu ha).1, z _ _ (y.unlock k1 hF hu ha).2⟩
      | bk => exact fun σ' H' y => ⟨(y.unlock k1 hF hu ha).1, z _ _ (y.unlock k1 hF hu ha).2⟩
      | ct => exact fun σ' H' y => ⟨(y.unlock k1 hF hu ha).1, z _ _ (y.unlock k1 hF hu ha).2⟩
      | rt d fr => exact fun v H' y => ⟨(y.unlock k1 hF hu ha).1, z _ _ (y.unlock k1 hF hu ha).2⟩
    cases rp with
    | @dK a es _ hF r =>
      have goK : ∀ (H' : Hp) (od : Obj) D', Ok T w1 σ H' → H' a = some (.frz od (.dK es)) → Rp (PC.forL (fun x s3 => (PC.opt (PC.bindT t x s3) s3).bind fun z _ => PC.evSs G cf th cb z) (m.map (·.1)) w1.st) (flP T w1 σ H' D') noX →
          tFor (iKeys (tVar i)) (gD T t) (tSs T G cf th cb) D' σ H' := fun H' od D' k' e h => ⟨_, hs, a, od, rfl, .inl ⟨es, e, for_core (src_keys e (k'.known hF).1 (k'.known hF).2 r) k' h⟩⟩
      rcases k1.sub a _ hF with e | ⟨_, od, e⟩
      · exact lock e True.intro hF rfl fun od D' h => goK _ od D' (k1.lock hF rfl) upd_same h
      · exact h3.run pins s σ H D I (goK H od D k1 e h)
    | @dT a es _ hF r =>
      have goK : ∀ (H' : Hp) (od : Obj) D', Ok T w1 σ H' → H' a = some (.frz od (.dT es)) → Rp (PC.forL (fun x s3 => (PC.opt (PC.bindT t x s3) s3).bind fun z _ => PC.evSs G cf th cb z) (m.map (·.1)) w1.st) (flP T w1 σ H' D') noX →
          tFor (iKeys (tVar i)) (gD T t) (tSs T G cf th cb) D' σ H' := fun H' od D' k' e h => ⟨_, hs, a, od, rfl, .inr ⟨es, e, for_core (src_keysT e (k'.known hF).1 (k'.known hF).2 r) k' h⟩⟩
      rcases k1.sub a _ hF with e | ⟨_, od, e⟩
      · exact lock e True.intro hF rfl fun od D' h => goK _ od D' (k1.lock hF rfl) upd_same h
      · exact h3.run pins s σ H D I (goK H od D k1 e h)
  · refine h1.run pins s σ H D I (for_tail (iter := .Name x p) (tg := tg) ⟨w, k, ?_⟩)
    have hw : PC.walkI (.v i) dd = PC.walkS dd := by
      cases dd <;> first | rfl | exact absurd ⟨_, rfl⟩ hdc
    rw [evE_v, e] at h ⊢
    rw [show ((Rs.ok (dd, b) st).bind fun r s1 => PC.opt (PC.walkI (.v i) r.1) s1) = ((Rs.ok (dd, b) st).bind fun r s1 => PC.opt (PC.walkS r.1) s1) from by
      show PC.opt (PC.walkI (.v i) dd) st = PC.opt (PC.walkS dd) st
      rw [hw]] at h
    exact h
end
end Br
end

section
set_option Elab.async false
set_option linter.all false
set_option maxRecDepth 100000
set_option maxHeartbeats 1000000
/-! Br24: comprehensions. -/
namespace Br
open PySem PySem.Spec PySem.Calls PyProof.Rows L2
open PC (D E S Sl Cl Sg Gs Rs Re)

/-! ### a block's own names -/
theorem wip_len (own : List Nat) : ∀ s : Sg, (PC.wip own s).length = s.length := by
  unfold PC.wip
  induction own with
  | nil => intro s; rfl
  | cons j own ih => intro s; rw [List.foldl_cons, ih, List.length_set]
theorem wip_get (own : List Nat) (i : Nat) : ∀ s : Sg, (PC.wip own s)[i]? = if i ∈ own ∧ i < s.length then some .un else s[i]? := by
  unfold PC.wip
  induction own with
  | nil => intro s; simp
  | cons j own ih =>
    intro s
    rw [List.foldl_cons, ih, List.length_set, List.getElem?_set]
    by_cases h1 : i ∈ own
    · by_cases h2 : i < s.length
      · simp [h1, h2]
      · have : s[i]? = none := List.getElem?_eq_none (by omega)
        by_cases h3 : j = i
        · subst h3; simp [h2, this]
        · simp [h2, this, h3]
    · by_cases h3 : j = i
      · subst h3
        by_cases h2 : j < s.length
        · simp [h1, h2]
        · have : s[j]? = none := List.getElem?_eq_none (by omega)
          simp [h2, this]
      · have : ¬ i = j := fun z => h3 z.symm
        simp [h1, h3, this]
theorem back_len (own : List Nat) (s0 : Sg) : ∀ s : Sg, (PC.back own s0 s).length = s.length := by
  unfold PC.back
  induction own with
  | nil => intro s; rfl
  | cons j own ih => intro s; rw [List.foldl_cons, ih, List.length_set]
theorem back_get (own : List Nat) (s0 : Sg) (i : Nat) : ∀ s : Sg, (PC.back own s0 s)[i]? = if i ∈ own ∧ i < s.length then some (s0.getD i .un) else s[i]? := by
  unfold PC.back
  induction own with
  | nil => intro s; simp
  | cons j own ih =>
    intro s
    rw [List.foldl_cons, ih, List.length_set, List.getElem?_set]
    by_cases h1 : i ∈ own
    · by_cases h2 : i < s.length
      · simp [h1, h2]
      · have : s[i]? = none := List.getElem?_eq_none (by omega)
        by_cases h3 : j = i
        · subst h3; simp [h2, this]
        · simp [h2, this, h3]
    · by_cases h3 : j = i
      · subst h3
        by_cases h2 : j < s.length
        · simp [h1, h2]
        · have : s[j]? = none := List.getElem?_eq_none (by omega)
          simp [h2, this]
      · have : ¬ i = j := fun z => h3 z.symm
        simp [h1, h3, this]

section
variable {X : Cx} {T : Tb} {G : PC.Gl} {cf : PC.CF} {th : Option (Gs → Re)} {w w1 w2 w3 w4 : Wd} {σ σ1 σ2 : L2.St} {H H1 H2 H3 H' : Hp} {vs : List Nat}
def Wd.wip (w : Wd) (vs : List Nat) : Wd := { w with s := PC.wip vs w.s }
def Wd.back (w : Wd) (vs : List Nat) (s0 : Sg) : Wd := { w with s := PC.back vs s0 w.s }
theorem clr_no {s : Sg} (h : PC.clr vs s = true) {i : Nat} (hi : i ∈ vs) {d : PC.D} : s[i]? ≠ some (Sl.ow d) := fun e => by
  have q := List.all_eq_true.mp h i hi
  rw [e] at q
  cases q
theorem wip_sl {i : Nat} {x : Sl} (h : (w.wip vs).s[i]? = some x) (hx : x ≠ .un) : i ∉ vs ∧ w.s[i]? = some x := by
  have h : (PC.wip vs w.s)[i]? = some x := h
  rw [wip_get] at h
  split at h
  · exact absurd (Option.some.inj h).symm hx
  · rename_i n
    refine ⟨fun m => n ⟨m, ?_⟩, h⟩
    exact (List.getElem?_eq_some_iff.mp h).1
theorem Own.wip {a : Addr} (h : Own (w.wip vs) (wipe σ vs) a) : Own w σ a := by
  obtain ⟨i, d, h1, h2⟩ := h
  exact ⟨i, d, (wip_sl h1 (fun z => by cases z)).2, (wipe_some h2).1⟩
theorem Own.to_wip (hc : PC.clr vs w.s = true) {a : Addr} (h : Own w σ a) : Own (w.wip vs) (wipe σ vs) a := by
  obtain ⟨i, d, h1, h2⟩ := h
  have hi : i ∉ vs := fun m => clr_no hc m h1
  refine ⟨i, d, ?_, by rw [wipe_out hi]; exact h2⟩
  show (PC.wip vs w.s)[i]? = _
  rw [wip_get, if_neg (fun z => hi z.1)]
  exact h1
theorem Ok.wip (k : Ok T w σ H) : Ok T (w.wip vs) (wipe σ vs) H := by
  refine ⟨k.len, k.nd, k.sub, k.frz, k.cel, ?_, fun i d h => ?_, fun i d h => ?_, fun i j d e a h1 h2 h3 h4 => ?_, k.tb⟩
  · show (PC.wip vs w.s).length = _
    rw [wip_len, wipe_length]
    exact k.sl
  · obtain ⟨hi, h⟩ := wip_sl h (fun z => by cases z)
    rw [wipe_out hi]
    exact k.va i d h
  · obtain ⟨hi, h⟩ := wip_sl h (fun z => by cases z)
    rw [wipe_out hi]
    exact k.ow i d h
  · exact k.ap i j d e a (wip_sl h1 (fun z => by cases z)).2 (wip_sl h2 (fun z => by cases z)).2 (wipe_some h3).1 (wipe_some h4).1
/-- the turn's end: the block's own names as they were -/
structure Turned (T : Tb) (w : Wd) (σ : L2.St) (H : Hp) (vs : List Nat) (w5 : Wd) (σ5 : L2.St) (H5 : Hp) : Prop where
  k : Ok T w5 σ5 H5
  s : Stp (w.wip vs) (wipe σ vs) H w5 σ5 H5
  e : wipe σ5 vs = wipe σ vs
theorem back_sl {s0 : Sg} {i : Nat} {x : Sl} (h : (w.back vs s0).s[i]? = some x) (hx : x ≠ .un) : (i ∈ vs ∧ s0[i]? = some x) ∨ (i ∉ vs ∧ w.s[i]? = some x) := by
  have h : (PC.back vs s0 w.s)[i]? = some x := h
  rw [back_get] at h
  split at h
  · rename_i m
    refine .inl ⟨m.1, ?_⟩
    have h := Option.some.inj h
    rw [List.getD_eq_getElem?_getD] at h
    cases e : s0[i]? with
    | none => rw [e] at h; exact absurd h.symm hx
    | some y => rw [e] at h; exact congrArg some h
  · rename_i n
    exact .inr ⟨fun m => n ⟨m, (List.getElem?_eq_some_iff.mp h).1⟩, h⟩
theorem eq_out (e : wipe σ2 vs = wipe σ vs) {i : Nat} (hi : i ∉ vs) : σ2[i]? = σ[i]? := by
  rw [← wipe_out (σ := σ2) hi, e, wipe_out hi]
theorem Turned.ok (t : Turned T w σ H vs w1 σ1 H1) (k : Ok T w σ H) (hc : PC.clr vs w.s = true) : Ok T (w1.back vs w.s) σ H1 ∧ Stp w σ H (w1.back vs w.s) σ H1 := by
  have k1 := t.k
  have ow : ∀ {i : Nat} {d : PC.D}, (w1.back vs w.s).s[i]? = some (.ow d) → i ∉ vs ∧ w1.s[i]? = some (.ow d) := fun {i d} h => by
    rcases back_sl h (fun z => by cases z) with ⟨m, h⟩ | h
    · exact absurd h (clr_no hc m)
    · exact h
  have own : ∀ {a : Addr}, Own (w1.back vs w.s) σ a → Own w1 σ1 a := fun {a} ⟨i, d, h1, h2⟩ => by
    obtain ⟨m, h⟩ := ow h1
    exact ⟨i, d, h, by rw [eq_out t.e m]; exact h2⟩
  refine ⟨⟨k1.len, k1.nd, k1.sub, k1.frz, k1.cel, ?_, fun i d h => ?_, fun i d h => ?_, fun i j d e a h1 h2 h3 h4 => ?_, k1.tb⟩, ⟨t.s.ι, t.s.F, fun a o h ht ni no => t.s.kp a o h ht ni fun z => no z.wip, fun a o h nt f ni no => ?_, t.s.tr, fun a h => (t.s.nw a (own h)).imp (fun z => z.wip) id⟩⟩
  · show (PC.back vs w.s w1.s).length = _
    rw [back_len, k1.sl, ← wipe_length σ1 vs, t.e, wipe_length]
  · rcases back_sl h (fun z => by cases z) with ⟨m, h⟩ | ⟨m, h⟩
    · obtain ⟨v, hv, r⟩ := k.va i d h
      exact ⟨v, hv, r.mono t.s.ι t.s.F⟩
    · obtain ⟨v, hv, r⟩ := k1.va i d h
      exact ⟨v, by rw [← eq_out t.e m]; exact hv, r⟩
  · obtain ⟨m, h⟩ := ow h
    obtain ⟨a, h1, r⟩ := k1.ow i d h
    exact ⟨a, by rw [← eq_out t.e m]; exact h1, r⟩
  · obtain ⟨m1, h1⟩ := ow h1
    obtain ⟨m2, h2⟩ := ow h2
    exact k1.ap i j d e a h1 h2 (by rw [eq_out t.e m1]; exact h3) (by rw [eq_out t.e m2]; exact h4)
  · obtain ⟨h1, h2, h3⟩ := t.s.fr a o h nt f ni fun z => no z.wip
    exact ⟨h1, h2, fun z => h3 (own z)⟩
/-! ### tests -/
def tCs (T : Tb) (G : PC.Gl) (cf : PC.CF) (th : Option (Gs → Re)) (cs : List E) : TT := fun σ H Q => ∃ w, Ok T w σ H ∧ Rp (PC.evA G cf th cs w.st) (fun b st => ∀ H', BP T w σ H (PC.quietL cs) st H' → Q b H') noX
theorem ptsImp {es : List Expr} {t t' : TT} (h : PTs X es t) (i : ∀ σ H Q, t' σ H Q → t σ H Q) : PTs X es t' := ⟨fun pins s σ H Q I q => h.run pins s σ H Q I (i σ H Q q)⟩
theorem pts_nilC : PTs X [] (tCs T G cf th []) := by
  refine ptsImp pts_nil fun σ H Q ⟨w, k, h⟩ => ?_
  simp only [PC.evA] at h
  exact h H ⟨w, rfl, k, .refl, fun _ => .refl k⟩
theorem pts_oneC {e : Expr} {c : E} (he : PT X e (tTs T G cf th none c)) : PTs X [e] (tCs T G cf th [c]) := by
  refine ptsImp (pts_one he) fun σ H Q ⟨w, k, h⟩ => ⟨w, k, ?_⟩
  simp only [PC.evA, ← bind_as] at h
  refine h.bind.mono (fun b st z H' p => ?_) (fun _ _ _ z => z)
  have p : BP T w σ H (PC.quietL [c]) st H' := by
    obtain ⟨w', e, k', s, q⟩ := p
    exact ⟨w', e, k', s, fun z => q (by simp only [PC.quietL, Bool.and_true] at z; exact z)⟩
  cases b with
  | true => exact (show ∀ H', BP T w σ H _ st H' → Q true H' from z) H' p
  | false => exact (show ∀ H', BP T w σ H _ st H' → Q false H' from z) H' p
/-! ### list comprehensions -/
/-- a free thing has turned -/
theorem Ok.turn {p : Addr} {o : HO} (k : Ok T w σ H) (f : Free w σ H p) (hl : ∀ u, H p = some u → plO u = true) (ho : nT o = true := by rfl) : Ok T w σ (upd H p o) := by
  refine ⟨k.len, k.nd, fun a v e => ?_, k.frz, fun n a c e1 e2 => ?_, k.sl, k.va, fun i x e => ?_, k.ap, tabs_upd k.tb hl⟩
  · have z : a ≠ p := fun z => by rw [z, f.f] at e; cases e
    rw [upd_ne z]
    exact k.sub a v e
  · obtain ⟨h1, h2⟩ := k.cel n a c e1 e2
    have z : a ≠ p := fun z => f.i (z ▸ List.mem_of_getElem? e1)
    refine ⟨h1, ?_⟩
    cases c with
    | ref ds => exact h2.imp fun vs r => ⟨(upd_ne z).trans r.1, r.2⟩
    | inst C fs =>
      obtain ⟨o, dx, es, c, r⟩ := h2
      exact ⟨o, dx, es, (upd_ne z).trans c, r⟩
  · obtain ⟨a, h1, h2, h3, h4⟩ := k.ow i x e
    have z : a ≠ p := fun z => f.o ⟨i, x, e, z ▸ h1⟩
    exact ⟨a, h1, h2, h3, h4.at (upd_ne z)⟩
/-- .. that was not there at the start -/
theorem Stp.turn {p : Addr} {o : HO} (s : Stp w σ H w1 σ1 H1) (hp : H p = none) : Stp w σ H w1 σ1 (upd H1 p o) :=
  ⟨s.ι, s.F, fun a x e ht ni no => by rw [upd_ne (ne_of_none e hp)]; exact s.kp a x e ht ni no, fun a x e nt f ni no => s.fr a x e nt f ni no, fun a e => by
    by_cases z : a = p
    · rw [z]; exact hp
    · rw [upd_ne z] at e; exact s.tr a e, s.nw⟩
theorem KO.turn {p : Addr} {o : HO} (k : Ok T w σ H) (q : KO w σ H w1 H1) (hp : H p = none) : KO w σ H w1 (upd H1 p o) := fun a h => by
  obtain ⟨_, _, x, e, _⟩ := k.own_at h
  rw [upd_ne (ne_of_none e hp)]
  exact q a h
def lcStep (G : PC.Gl) (cf : PC.CF) (th : Option (Gs → Re)) (e : E) (t : PC.T) (cs : List E) : PC.D → PC.St → Rs (List PC.D) := fun x s2 => (PC.opt (PC.bindT t x ⟨PC.wip (PC.ownT t) s2.s, s2.g⟩) s2).bind fun z _ => (PC.evA G cf th cs z).bind fun k s4 => if k then (PC.evE G cf th e s4).bind fun y s5 => .ok [y.1] ⟨PC.back (PC.ownT t) s2.s s5.s, s5.g⟩ else .ok [] ⟨PC.back (PC.ownT t) s2.s s4.s, s4.g⟩
theorem evE_lc (e : E) (t : PC.T) (it : E) (cs : List E) (s : PC.St) : PC.evE G cf th (.lc e t it cs) s = ((PC.lk (PC.quiet e && PC.quietL cs && !PC.isDs it s) it s (PC.evE G cf th it s)).bind fun r s1 => PC.opt (if PC.clr (PC.ownT t) s1.s then PC.walkI it r.1 else none) s1).bind fun xs s1' =>
    (PC.lcL (lcStep G cf th e t cs) xs s1').bind fun ys s6 => PC.opt (PC.mkL ys) s6 := by
  simp only [PC.evE, bind_as]
  all_goals rfl
theorem clr_of {s : Sg} (h : ∀ (i : Nat) (d : PC.D), i ∈ vs → s[i]? ≠ some (Sl.ow d)) : PC.clr vs s = true := by
  refine List.all_eq_true.mpr fun i hi => ?_
  cases e : s[i]? with
  | none => rfl
  | some x =>
    cases x with
    | ow d => exact absurd e (h i d hi)
    | _ => rfl
theorem clr_back {s0 s : Sg} (h : PC.clr vs s0 = true) : PC.clr vs (PC.back vs s0 s) = true := by
  refine clr_of fun i d hi e => ?_
  rw [back_get] at e
  split at e
  · have e := Option.some.inj e
    rw [List.getD_eq_getElem?_getD] at e
    cases e0 : s0[i]? with
    | none => rw [e0] at e; cases e
    | some x => rw [e0] at e; exact clr_no h hi (d := d) (by rw [e0]; exact congrArg some e)
  · rename_i n
    exact n ⟨hi, (List.getElem?_eq_some_iff.mp e).1⟩
theorem lcL_len {step : PC.D → PC.St → Rs (List PC.D)} {xs acc : List PC.D} {s : PC.St} {okk : PC.D × Bool → PC.St → Prop} (h : Rp ((PC.lcL step xs s).bind fun ys s6 => PC.opt (PC.mkL (acc ++ ys)) s6) okk noX) : acc.length ≤ PC.big := by
  cases e : PC.lcL step xs s with
  | no => rw [e] at h; exact h.elim
  | ex C fs st => rw [e] at h; exact h.elim
  | ok ys st =>
    rw [e] at h
    obtain ⟨r, er, _⟩ := Rp.opt (show Rp (PC.opt (PC.mkL (acc ++ ys)) st) okk noX from h)
    unfold PC.mkL at er
    split at er
    · rename_i hl
      rw [List.length_append] at hl
      omega
    · cases er
theorem wipe_in {i : Nat} : ∀ {vs : List Nat}, i ∈ vs → (wipe σ vs)[i]? = if i < σ.length then some none else none
  | v :: vs, h => by
    unfold wipe
    rw [List.getElem?_set, wipe_length]
    by_cases e : v = i
    · subst e; simp
    · rw [if_neg e]
      rcases List.mem_cons.mp h with z | z
      · exact absurd z.symm e
      · exact wipe_in z
theorem wipe_sm (m : Sm vs (wipe σ vs) σ1) : wipe σ1 vs = wipe σ vs := by
  refine List.ext_getElem? fun i => ?_
  by_cases hi : i ∈ vs
  · rw [wipe_in hi, wipe_in hi, m.1, wipe_length]
  · rw [wipe_out hi, m.2 i hi]
theorem lc_tail {J : It} {xs : List PC.D} {t : PC.T} {cs : List E} {e : E} {qn q : Bool} {Q : VK} (src : Src T w1 σ H1 qn J xs) (k1 : Ok T w1 σ H1) (hc : PC.clr (PC.ownT t) w1.s = true) (hq : qn = true → q = true) (hqe : q = true → PC.quiet e = true ∧ PC.quietL cs = true)
    (y : Rp ((PC.lcL (lcStep G cf th e t cs) xs w1.st).bind fun ys s6 => PC.opt (PC.mkL ys) s6) (fun r st => ∀ v H', EP T w1 σ H1 q r st v H' → Q v H') noX) {p : Addr} (hp : H1 p = none) :
    ∃ W : Nat → Nat → Hp → Prop, (∃ m, W 0 m (upd H1 p (.lst []))) ∧ ∀ i m H, W i m H →
      (J.stop i H ∧ Q (.ref p) H) ∨ (J.go i H ∧ ∃ Nx : Hp → Prop, (∀ H', Nx H' → ∃ m', m' < m ∧ W (i + 1) m' H') ∧ ∀ x H', J.yld i H x H' → gD T t x (wipe σ (PC.ownT t)) H' fun σ2 H2 => wipe σ2 (PC.ownT t) = wipe σ (PC.ownT t) ∧ tCs T G cf th cs σ2 H2 fun b H3 =>
        if b = true then tE T G cf th none e σ2 H3 fun y H4 => ∃ acc, H4 p = some (.lst acc) ∧ acc.length < sizeLine ∧ Nx (upd H4 p (.lst (acc ++ [y]))) else Nx H3) := by
  let P : Nat → Hp → Prop := fun i H => ∃ (w2 : Wd) (acc : List V) (ds : List PC.D), Ok T w2 σ H ∧ Stp w1 σ H1 w2 σ H ∧ (q = true → KO w1 σ H1 w2 H) ∧ H p = some (.lst acc) ∧ Free w2 σ H p ∧ Reps T w2.ι w2.F acc ds ∧ PC.clr (PC.ownT t) w2.s = true ∧
    Rp ((PC.lcL (lcStep G cf th e t cs) (xs.drop i) w2.st).bind fun ys s6 => PC.opt (PC.mkL (ds ++ ys)) s6) (fun r st => ∀ v H', EP T w1 σ H1 q r st v H' → Q v H') noX
  have kp := Keep.new (o := .lst []) hp
  have f1 := k1.free_none hp
  refine ⟨fun i m H => P i H ∧ i ≤ xs.length ∧ m = xs.length - i, ⟨xs.length, ⟨w1, [], [], k1.grow kp, Stp.grow kp, fun _ => (KO.refl k1).grow k1 kp, upd_same, ⟨f1.f, f1.i, f1.o⟩, .nil, hc, y⟩, Nat.zero_le _, rfl⟩, ?_⟩
  rintro i m H2 ⟨⟨w2, acc, ds, k2, s2, q2, hacc, f2, rs, hc2, h2⟩, hle, rfl⟩
  have ho : qn = true → ∀ a, Own w1 σ a → H2 a = H1 a := fun z a o => (q2 (hq z) a o).1
  by_cases hi : i < xs.length
  · right
    have hd : xs[i]? = some xs[i] := List.getElem?_eq_getElem hi
    obtain ⟨go, yld⟩ := src.go w2 σ H2 k2 s2 ho i _ hd
    refine ⟨go, P (i + 1), fun H' z => ⟨_, by omega, z, hi, rfl⟩, fun x H3 hy => ?_⟩
    obtain ⟨w3, e3, i3, k3, s3, kp3, r3⟩ := yld x H3 hy
    have es3 : w3.s = w2.s := congrArg PC.St.s e3
    have eg3 : w3.g = w2.g := congrArg PC.St.g e3
    have hc3 : PC.clr (PC.ownT t) w3.s = true := by rw [es3]; exact hc2
    rw [List.drop_eq_getElem_cons hi] at h2
    simp only [PC.lcL, lcStep, bind_as] at h2
    obtain ⟨z, ez, h3⟩ := Rp.opt (Rp.bind h2)
    refine ⟨w3.wip (PC.ownT t), _, k3.wip, r3, z, by
      show PC.bindT t _ ⟨PC.wip (PC.ownT t) w3.s, w3.g⟩ = _
      rw [es3, eg3]
      exact ez, fun σ4 H4 ⟨w4, e4, k4, s4, q4⟩ sm => ⟨wipe_sm sm, ?_⟩⟩
    subst e4
    have t2 := s2.trans k2 s3
    refine ⟨w4, k4, Rp.mono (Rp.bind h3) (fun b st z H5 ⟨w5, e5, k5, s5, q5⟩ => ?_) (fun _ _ _ z => z)⟩
    subst e5
    -- the turn's end: w6 the world then
    have fin : ∀ {w6 : Wd} {H6 : Hp}, Ok T w6 σ4 H6 → Stp w5 σ4 H5 w6 σ4 H6 → (q = true → KO w5 σ4 H5 w6 H6) →
        Ok T (w6.back (PC.ownT t) w3.s) σ H6 ∧ Stp w1 σ H1 (w6.back (PC.ownT t) w3.s) σ H6 ∧ (q = true → KO w1 σ H1 (w6.back (PC.ownT t) w3.s) H6) ∧ H6 p = some (.lst acc) ∧ Free (w6.back (PC.ownT t) w3.s) σ H6 p ∧ Reps T w6.ι w6.F acc ds ∧ PC.clr (PC.ownT t) (w6.back (PC.ownT t) w3.s).s = true := fun {w6 H6} k6 s6 q6 => by
      have tu : Turned T w3 σ H3 (PC.ownT t) w6 σ4 H6 := ⟨k6, s4.trans k4 (s5.trans k5 s6), wipe_sm sm⟩
      obtain ⟨k7, s7⟩ := tu.ok k3 hc3
      have s37 := s3.trans k3 s7
      have ntp : ¬ isTup (H2 p) := fun ⟨us, z, t⟩ => by rw [hacc] at z; cases z; cases t
      have f7 := s37.fr p _ hacc ntp f2.f f2.i f2.o
      refine ⟨k7, s2.trans k2 s37, fun hq1 => ?_, s37.kp p _ hacc rfl f2.i f2.o, ⟨f7.1, f7.2.1, f7.2.2⟩, (s37.reps rs), clr_back hc3⟩
      have a : KO w2 σ H2 w3 H3 := ((KO.refl k2).grow k2 kp3).to i3
      have b : KO (w3.wip (PC.ownT t)) (wipe σ (PC.ownT t)) H3 w6 H6 := (q4.trans k3.wip k5 s5 (q5 (hqe hq1).2)).trans k3.wip k6 s6 (q6 hq1)
      have b' : KO w3 σ H3 (w6.back (PC.ownT t) w3.s) H6 := fun c h => b c (h.to_wip hc3)
      exact (q2 hq1).trans k1 k7 s37 (a.trans k2 k7 s7 b')
    cases b with
    | false =>
      rw [if_neg Bool.false_ne_true]
      obtain ⟨k7, s7, q7, a7, f7, r7, c7⟩ := fin k5 .refl (fun _ => .refl k5)
      refine ⟨_, acc, ds, k7, s7, q7, a7, f7, r7, c7, ?_⟩
      rw [if_neg Bool.false_ne_true, ← es3] at z
      exact z
    | true =>
      rw [if_pos rfl]
      rw [if_pos rfl, bind_as, ← es3] at z
      refine ⟨w5, k5, Rp.mono (Rp.bind z) (fun y st z v H6 ep => ?_) (fun _ _ _ z => z)⟩
      obtain ⟨w6, e6, k6, s6, q6, r6⟩ := ep.rep
      subst e6
      obtain ⟨k7, s7, q7, a7, f7, r7, c7⟩ := fin k6 s6 fun hq1 => q6 (hqe hq1).1
      have z : Rp ((PC.lcL (lcStep G cf th e t cs) (xs.drop (i + 1)) (w6.back (PC.ownT t) w3.s).st).bind fun ys s6 => PC.opt (PC.mkL (ds ++ ([y.1] ++ ys))) s6) (fun r st => ∀ v H', EP T w1 σ H1 q r st v H' → Q v H') noX := by
        have z : Rp ((PC.lcL (lcStep G cf th e t cs) (xs.drop (i + 1)) (w6.back (PC.ownT t) w3.s).st).bind fun a s => (Rs.ok ([y.1] ++ a) s).bind fun ys s6 => PC.opt (PC.mkL (ds ++ ys)) s6) (fun r st => ∀ v H', EP T w1 σ H1 q r st v H' → Q v H') noX := z
        exact z
      simp only [← List.append_assoc] at z
      have hl := lcL_len z
      rw [List.length_append, ← r7.length] at hl
      refine ⟨acc, a7, ?_, _, acc ++ [v], ds ++ [y.1], k7.turn f7 (fun u z => by rw [a7] at z; cases z; rfl), s7.turn hp, fun hq1 => (q7 hq1).turn k1 hp, upd_same, ⟨f7.f, f7.i, f7.o⟩, r7.append (.cons r6 .nil), c7, z⟩
      have hl : acc.length + 1 ≤ PC.big := hl
      have := big_le hl
      omega
  · left
    have he : i = xs.length := by omega
    subst he
    rw [List.drop_length] at h2
    refine ⟨src.stop w2 σ H2 k2 s2 ho, ?_⟩
    obtain ⟨r, er, h2⟩ := Rp.opt (show Rp (PC.opt (PC.mkL (ds ++ [])) w2.st) _ noX from h2)
    rw [List.append_nil] at er
    unfold PC.mkL at er
    split at er
    · cases er
      exact h2 _ _ ⟨w2, rfl, k2, s2, q2, (fun z => by cases z), fun _ => ⟨p, rfl, hp, f2, acc, hacc, rs⟩⟩
    · cases er
end
end Br
end

section
set_option Elab.async false
set_option linter.all false
set_option maxRecDepth 100000
set_option maxHeartbeats 1000000
/-! Br25: list comprehensions. -/
namespace Br
open PySem PySem.Spec PySem.Calls PyProof.Rows L2
open PC (D E S Sl Cl Sg Gs Rs Re)

section
variable {X : Cx} {T : Tb} {G : PC.Gl} {cf : PC.CF} {th : Option (Gs → Re)} {w w1 w2 w3 w4 : Wd} {σ σ1 σ2 : L2.St} {H H1 H2 H3 H' : Hp}
/-- behind the walked expression -/
theorem lc_of {t : PC.T} {cs : List E} {e c : E} {qn : Bool} {Q : VK} (k : Ok T w σ H) (hqn : qn = true → PC.quiet e = true ∧ PC.quietL cs = true)
    (h : Rp (((PC.lk qn c w.st (PC.evE G cf th c w.st)).bind fun r s1 => PC.opt (if PC.clr (PC.ownT t) s1.s then PC.walkS r.1 else none) s1).bind fun xs s1' => (PC.lcL (lcStep G cf th e t cs) xs s1').bind fun ys s6 => PC.opt (PC.mkL ys) s6)
      (fun r st => ∀ v H', EP T w σ H (PC.quiet e && PC.quiet c && PC.quietL cs) r st v H' → Q v H') noX) :
    tLc (tI T G cf th qn c) (gD T t) (tCs T G cf th cs) (tE T G cf th none e) (PC.ownT t) σ H Q := by
  refine ⟨w, k, ?_⟩
  cases hv : PC.lk qn c w.st (PC.evE G cf th c w.st) with
  | no => rw [hv] at h; exact h.elim
  | ex C fs st => rw [hv] at h; exact h.elim
  | ok r s1 =>
    rw [hv] at h
    obtain ⟨xs, ex, h⟩ := Rp.opt (Rp.bind (show Rp ((PC.opt (if PC.clr (PC.ownT t) s1.s then PC.walkS r.1 else none) s1).bind _) _ _ from h))
    split at ex
    · rename_i hc
      show Rp (PC.opt (PC.walkS r.1) s1) _ _
      rw [ex]
      intro J H1 ⟨w1, e1, k1, st1, q1, src⟩ p hp
      subst e1
      refine lc_tail (q := PC.quiet e && PC.quietL cs) src k1 hc (fun z => Bool.and_eq_true_iff.mpr (hqn z)) (fun z => qAnd z) (h.mono (fun r st y v H' ep => y v H' ?_) (fun _ _ _ z => z)) hp
      obtain ⟨w', e', k', s', q', r1, r2⟩ := ep
      refine ⟨w', e', k', st1.trans k1 s', fun z => ?_, r1, fun z => ?_⟩
      · have z1 := qAnd z
        have z2 := qAnd z1.1
        exact (q1 z2.2).trans k k' s' (q' (Bool.and_eq_true_iff.mpr ⟨z2.1, z1.2⟩))
      · obtain ⟨a, ea, hn, f, c⟩ := r2 z
        exact ⟨a, ea, st1.tr a hn, f, c⟩
    · cases ex
/-- a block's parts -/
structure LcB (X : Cx) (T : Tb) (G : PC.Gl) (cf : PC.CF) (th : Option (Gs → Re)) (scope : Scope) (elt tg : Expr) (ifs : List Expr) (e : E) (t : PC.T) (cs : List E) : Prop where
  g : ∀ (s : Shared) (H : Hp) (C : Addr) (cl : List (Str × Addr)) (fp : List Addr), PG (X.blk s H scope (compEnvC scope cl C X.env) fp) tg (gD T t)
  t : ∀ (s : Shared) (H : Hp) (C : Addr) (cl : List (Str × Addr)) (fp : List Addr), PTs (X.blk s H scope (compEnvC scope cl C X.env) fp) ifs (tCs T G cf th cs)
  e : ∀ (s : Shared) (H : Hp) (C : Addr) (cl : List (Str × Addr)) (fp : List Addr), PE (X.blk s H scope (compEnvC scope cl C X.env) fp) elt (tE T G cf th none e)
theorem lk_no {c : E} (hv : ∀ i, c ≠ .v i) (q : Bool) (s : PC.St) (r : Rs (PC.D × Bool)) : PC.lk q c s r = r := lk_of (.inr hv)
theorem walk_no {c : E} (hv : ∀ i, c ≠ .v i) (d : PC.D) : PC.walkI c d = PC.walkS d := by
  cases c <;> first | rfl | exact absurd rfl (hv _)
/-- over what is no name -/
theorem pe_lcC (hc : X.calm = true) (hN : X.N.Nodup) {elt tg iter : Expr} {ifs : List Expr} {scope : Scope} {own : List (Str × Nat)} {pos : Pos} {e c : E} {t : PC.T} {cs : List E} (hi : PI X tg iter (tI T G cf th false c)) (ok : BlkOk X.N X.env.scope scope own)
    (b : LcB X T G cf th scope elt tg ifs e t cs) (ho : own.map (·.2) = PC.ownT t) (hs : nSet iter = true) (hv : ∀ i, c ≠ .v i) : PE X (.ListComp elt [⟨tg, iter, ifs, 0⟩] scope pos) (tE T G cf th none (.lc e t c cs)) := by
  refine peImp (pe_lc hc hN hi ok b.g b.t b.e (fold_ne hs _)) fun σ H Q ⟨w, k, h⟩ => ?_
  rw [evE_lc, lk_no hv] at h
  rw [ho]
  refine lc_of k (fun z => by cases z) ?_
  rw [lk_no hv]
  simp only [walk_no hv] at h
  exact h
end
end Br
end

section
set_option Elab.async false
set_option linter.all false
set_option maxRecDepth 100000
set_option maxHeartbeats 1000000
/-! Br26: ranges; comprehensions over names; name = [..]. -/
namespace Br
open PySem PySem.Spec PySem.Calls PyProof.Rows L2
open PC (D E S Sl Cl Sg Gs Rs Re)

section
variable {X : Cx} {T : Tb} {G : PC.Gl} {cf : PC.CF} {th : Option (Gs → Re)} {w w1 w2 w3 w4 : Wd} {σ σ1 σ2 : L2.St} {H H1 H2 H3 H' : Hp}
/-! ### ranges -/
theorem src_rng {q : Bool} (lo : Int) (n : Nat) : Src T w σ H q (Itr lo n) ((List.range n).map fun (k : Nat) => PC.D.int (lo + k)) := by
  refine ⟨fun w2 σ2 H2 k2 _ _ i d hd => ?_, fun w2 σ2 H2 k2 _ _ => ?_⟩
  · rw [List.getElem?_map, Option.map_eq_some_iff] at hd
    obtain ⟨j, hj, rfl⟩ := hd
    have hi := (List.getElem?_eq_some_iff.mp hj)
    obtain ⟨hl, hj⟩ := hi
    rw [List.getElem_range] at hj
    subst hj
    rw [List.length_range] at hl
    refine ⟨hl, fun x H3 ⟨e, ex⟩ => ?_⟩
    subst e ex
    exact ⟨w2, rfl, rfl, k2, .refl, .refl _, .int _⟩
  · show n ≤ _
    rw [List.length_map, List.length_range]
    exact Nat.le_refl _
theorem evE_rng (es : List E) (s : PC.St) : PC.evE G cf th (.rng es) s = (PC.evL G cf th es s).bind fun xs s1 => PC.opt ((PC.rngD (xs.map (·.1))).bind PC.mkL) s1 := by simp only [PC.evE]
theorem reps_one {ι : List Addr} {F : Hp} {vs : List V} {i : Int} (r : Reps T ι F vs [.int i]) : vs = [.int i] := by
  cases r with
  | cons r t =>
    cases t
    cases r
    rfl
theorem reps_two {ι : List Addr} {F : Hp} {vs : List V} {i j : Int} (r : Reps T ι F vs [.int i, .int j]) : vs = [.int i, .int j] := by
  cases r with
  | cons r t =>
    cases t with
    | cons r' t =>
      cases t
      cases r
      cases r'
      rfl
theorem rng_of {cs : List E} {qn : Bool} {R : It → Hp → Prop} (h : tI T G cf th qn (.rng cs) σ H R) : tAs T G cf th none cs σ H fun vs H1 =>
    (∃ j : Int, vs = [.int j] ∧ (-1000000 < j ∧ j < 1000000) ∧ R (Itr 0 j.toNat) H1) ∨ ∃ i j : Int, vs = [.int i, .int j] ∧ (-1000000 < i ∧ i < 1000000 ∧ -1000000 < j ∧ j < 1000000) ∧ R (Itr i (j - i).toNat) H1 := by
  obtain ⟨w, k, h⟩ := h
  rw [lk_no (fun _ z => by cases z), evE_rng, bind_as] at h
  refine ⟨w, k, h.bind.mono (fun xs st y vs H1 p => ?_) (fun _ _ _ z => z)⟩
  obtain ⟨r, er, y⟩ := Rp.opt (Rp.bind y)
  obtain ⟨ys, ey, y⟩ := Rp.opt y
  obtain ⟨w1, e1, k1, s1, q1, rs⟩ := p.known
  obtain ⟨zs, ez, er⟩ := Option.bind_eq_some_iff.mp er
  have er := (mkL_eq er).2
  subst er
  obtain rfl : zs = ys := by cases ey; rfl
  have fin : ∀ lo n, zs = (List.range n).map (fun (k : Nat) => PC.D.int (lo + k)) → R (Itr lo n) H1 := fun lo n e => y _ _ ⟨w1, e1, k1, s1, q1, by rw [e]; exact src_rng lo n⟩
  unfold PC.rngD at ez
  split at ez
  · rename_i j hx
    rw [hx] at rs
    split at ez
    · rename_i hj
      cases ez
      exact .inl ⟨j, reps_one rs, hj, fin 0 _ (by simp)⟩
    · cases ez
  · rename_i i j hx
    rw [hx] at rs
    split at ez
    · rename_i hj
      cases ez
      exact .inr ⟨i, j, reps_two rs, hj, fin i _ rfl⟩
    · cases ez
  · cases ez
theorem as_ne {cs : List E} {n : Nat} (hn : cs.length = n) (hs : ∀ e ∈ cs, ∀ a, e ≠ .star a) {R : List V → Hp → Prop} (h : tAs T G cf th none cs σ H R) : tAs T G cf th none cs σ H fun vs H1 => vs.length = n ∧ R vs H1 := by
  obtain ⟨w, k, h⟩ := h
  refine ⟨w, k, ?_⟩
  cases e : PC.evL G cf th cs w.st with
  | no => rw [e] at h; exact h.elim
  | ex C fs st => rw [e] at h; exact h
  | ok xs st =>
    rw [e] at h
    have hl := evL_len hs e
    refine fun vs H1 p => ⟨?_, h vs H1 p⟩
    obtain ⟨_, _, _, _, _, r⟩ := p.known
    rw [r.length, List.length_map, hl, hn]
theorem pi_rng1 {tg a : Expr} {c : E} {qn : Bool} {p pos : Pos} (hg : Gl X "range") (hm : X.mg "range" = none) (hc : ∀ a, c ≠ .star a) (ha : PE X a (tE T G cf th none c)) (hs : nSt a = true) :
    PI X tg (.Call (.Name "range" p) [a] [] pos) (tI T G cf th qn (.rng [c])) := by
  have h1 : starEach [a] X.env = [(false, eval a X.env)] := by
    rw [star_ne hs]; rfl
  refine piImp (pi_range1 hg hm (pa_consC hc ha pa_nilC (by rw [star_ne hs])) h1) fun σ H R h => ?_
  obtain ⟨w, k, h⟩ := as_ne (n := 1) rfl (fun e he a => by simp at he; subst he; exact hc a) (rng_of h)
  refine ⟨w, k, h.mono (fun xs st y vs H1 p => ?_) (fun _ _ _ z => z)⟩
  obtain ⟨hl, y⟩ := y vs H1 p
  rcases y with ⟨j, e, ⟨b1, b2⟩, r⟩ | ⟨i, j, e, _, _⟩
  · exact ⟨j, e, by omega, by omega, r⟩
  · rw [e] at hl; cases hl
theorem pi_rng2 {tg a b : Expr} {c d : E} {qn : Bool} {p pos : Pos} (hg : Gl X "range") (hm : X.mg "range" = none) (hc : ∀ a, c ≠ .star a) (hd : ∀ a, d ≠ .star a) (ha : PE X a (tE T G cf th none c)) (hb : PE X b (tE T G cf th none d)) (hs : nSt a = true) (hs2 : nSt b = true) :
    PI X tg (.Call (.Name "range" p) [a, b] [] pos) (tI T G cf th qn (.rng [c, d])) := by
  have h2 : starEach [b] X.env = [(false, eval b X.env)] := by
    rw [star_ne hs2]; rfl
  have h1 : starEach [a, b] X.env = [(false, eval a X.env), (false, eval b X.env)] := by
    rw [star_ne hs, h2]
  refine piImp (pi_range2 hg hm (pa_consC hc ha (pa_consC hd hb pa_nilC (by rw [star_ne hs2])) (by rw [star_ne hs])) h1 h2) fun σ H R h => ?_
  obtain ⟨w, k, h⟩ := as_ne (n := 2) rfl (fun e he a => by
    simp at he
    rcases he with rfl | rfl
    · exact hc a
    · exact hd a) (rng_of h)
  refine ⟨w, k, h.mono (fun xs st y vs H1 p => ?_) (fun _ _ _ z => z)⟩
  obtain ⟨hl, y⟩ := y vs H1 p
  rcases y with ⟨j, e, _, _⟩ | ⟨i, j, e, ⟨b1, b2, b3, b4⟩, r⟩
  · rw [e] at hl; cases hl
  · exact ⟨i, j, e, ⟨by omega, by omega, by omega, by omega⟩, r⟩
end
end Br
end

section
set_option Elab.async false
set_option linter.all false
set_option maxRecDepth 100000
set_option maxHeartbeats 1000000
/-! Br27: comprehensions over names; name = [..]. -/
namespace Br
open PySem PySem.Spec PySem.Calls PyProof.Rows L2
open PC (D E S Sl Cl Sg Gs Rs Re)

section
variable {X : Cx} {T : Tb} {G : PC.Gl} {cf : PC.CF} {th : Option (Gs → Re)} {w w1 w2 w3 w4 : Wd} {σ σ1 σ2 : L2.St} {H H1 H2 H3 H' : Hp} {D : Ends} {d : Addr} {u : HO} {od : Obj}
theorem EP.unlock {q : Bool} {st : PC.St} {r : PC.D × Bool} {v : V} (k : Ok T w σ H) (hu : w.F d = some u) (dc : dctH u = true) (hd : H d = some u) (h : EP T w σ (upd H d (.frz od u)) q r st v H') : H' d = some (.frz od u) ∧ EP T w σ H q r st v (upd H' d u) := by
  obtain ⟨w', e, k', s, kq, h1, h2⟩ := h
  obtain ⟨ni, no⟩ := k.known hu
  refine ⟨frz_kept k hu s, w', e, k'.unlock (s.F _ _ hu) dc, s.unlock k' hu hd, fun z a o => ?_, h1, fun z => ?_⟩
  · have za : a ≠ d := fun z => no (z ▸ o)
    obtain ⟨e1, e2⟩ := kq z a o
    rw [upd_ne za] at e1 ⊢
    exact ⟨e1, e2⟩
  · obtain ⟨a, ea, o, f, c⟩ := h2 z
    have za : a ≠ d := fun z => by
      have := f.f
      rw [z, s.F _ _ hu] at this
      cases this
    rw [upd_ne za] at o
    exact ⟨a, ea, o, ⟨f.f, f.i, f.o⟩, c.keepU za⟩
/-- what a name holds: a dict, or no dict -/
theorem name_dct (k : Ok T w σ H) (i : Nat) (qb : Bool) : (∃ m st w1 v, PC.lk (qb && !PC.isDs (.v i) w.st) (.v i) w.st (PC.evE G cf th (.v i) w.st) = .ok (.dct m, false) st ∧ σ[i]? = some (some v) ∧ w1.st = st ∧ Ok T w1 σ H ∧ Stp w σ H w1 σ H ∧ KO w σ H w1 H ∧ Rep T w1.ι w1.F v (.dct m)) ∨
    (PC.isDs (.v i) w.st = false ∧ ∀ r st, PC.lk qb (.v i) w.st (PC.evE G cf th (.v i) w.st) = .ok r st → PC.walkI (.v i) r.1 = PC.walkS r.1) := by
  have hwk : ∀ d, (∀ m, d ≠ .dct m) → PC.walkI (.v i) d = PC.walkS d := fun d h => by
    cases d <;> first | rfl | exact absurd rfl (h _)
  cases e : w.s[i]? with
  | none =>
    right
    refine ⟨by simp [PC.isDs, e], fun r st z => ?_⟩
    rw [evE_v] at z
    cases qb <;> simp [PC.lk, PC.rd, PC.pk, e] at z
  | some x =>
    cases x with
    | un =>
      right
      refine ⟨by simp [PC.isDs, e], fun r st z => ?_⟩
      rw [evE_v] at z
      cases qb <;> simp [PC.lk, PC.rd, PC.pk, e] at z
    | va d =>
      have hz : ∀ b : Bool, PC.lk b (.v i) w.st (PC.evE G cf th (.v i) w.st) = .ok (d, false) w.st := fun b => by
        rw [evE_v]
        cases b <;> simp [PC.lk, PC.rd, PC.pk, e]
      obtain ⟨v, hv, r⟩ := k.va i d e
      by_cases hd : ∃ m, d = .dct m
      · obtain ⟨m, rfl⟩ := hd
        exact .inl ⟨m, w.st, w, v, hz _, hv, rfl, k, .refl, .refl k, r⟩
      · refine .inr ⟨by simp [PC.isDs, e], fun r st z => ?_⟩
        rw [hz] at z
        cases z
        exact hwk _ fun m z => hd ⟨m, z⟩
    | ow d =>
      by_cases hd : ∃ m, d = .dct m
      · obtain ⟨m, rfl⟩ := hd
        left
        have e1 : PC.isDs (.v i) w.st = true := by simp [PC.isDs, e]
        rw [e1, Bool.not_true, Bool.and_false]
        have hz : PC.lk false (.v i) w.st (PC.evE G cf th (.v i) w.st) = PC.rd i w.st := by rw [evE_v]; rfl
        rw [hz]
        rcases rd_ok k i with er | ⟨r, st, v, er, hf, hs, w1, e1, k1, s1, i1, rp⟩
        · simp [PC.rd, e] at er
        · have hr : PC.rd i w.st = .ok (.dct m, false) ⟨w.s.set i (.va (.dct m)), w.g⟩ := by simp [PC.rd, e]
          rw [hr] at er
          cases er
          exact ⟨m, _, w1, v, hr, hs, e1, k1, s1, (KO.refl k).to i1, rp⟩
      · have e1 : PC.isDs (.v i) w.st = false := by
          cases d <;> first | exact absurd ⟨_, rfl⟩ hd | simp [PC.isDs, e]
        refine .inr ⟨e1, fun r st z => ?_⟩
        rw [evE_v] at z
        have : r.1 = d := by
          cases qb with
          | false =>
            have z : PC.rd i w.st = .ok r st := z
            simp [PC.rd, e] at z
            rw [← z.1]
          | true =>
            have z : PC.pk i w.st = .ok r st := z
            simp [PC.pk, e] at z
            rw [← z.1]
        rw [this]
        exact hwk _ fun m z => hd ⟨m, z⟩
/-- what the reading asks: the walk as it is, the dict locked, the dict locked here -/
def rdN (T : Tb) (G : PC.Gl) (cf : PC.CF) (th : Option (Gs → Re)) (e : E) (t : PC.T) (cs : List E) (i : Nat) (vs : List Nat) : TE := fun σ H Q => (∃ qn, tLc (tI T G cf th qn (.v i)) (gD T t) (tCs T G cf th cs) (tE T G cf th none e) vs σ H Q) ∨
  tLc (iKeys (tVar i)) (gD T t) (tCs T G cf th cs) (tE T G cf th none e) vs σ H Q ∨ tLockE (tLc (iKeys (tVar i)) (gD T t) (tCs T G cf th cs) (tE T G cf th none e) vs) σ H Q
theorem lcN_read {e : E} {i : Nat} {t : PC.T} {cs : List E} {Q : VK} (k : Ok T w σ H) (h : Rp (PC.evE G cf th (.lc e t (.v i) cs) w.st) (fun r st => ∀ v H', EP T w σ H (PC.quiet (.lc e t (.v i) cs)) r st v H' → Q v H') noX) :
    rdN T G cf th e t cs i (PC.ownT t) σ H Q := by
  rw [evE_lc] at h
  rcases name_dct (G := G) (cf := cf) (th := th) k i (PC.quiet e && PC.quietL cs) with ⟨m, st, w1, v, ez, hs, e1, k1, s1, q1, rp⟩ | ⟨e0, hw⟩
  · rw [ez] at h
    obtain ⟨xs, ex, h⟩ := Rp.opt (Rp.bind (show Rp ((PC.opt (if PC.clr (PC.ownT t) st.s then PC.walkI (.v i) (.dct m) else none) st).bind _) _ _ from h))
    split at ex
    · rename_i hcl
      cases ex
      subst e1
      have h : Rp ((PC.lcL (lcStep G cf th e t cs) (m.map (·.1)) w1.st).bind fun ys s6 => PC.opt (PC.mkL ys) s6) (fun r st => ∀ v H', EP T w1 σ H (PC.quiet e && PC.quietL cs) r st v H' → Q v H') noX :=
        h.mono (fun r st y v H' ep => y v H' (ep.after k k1 s1 fun z => ⟨q1, by simp only [PC.quiet, Bool.and_true] at z; exact z⟩)) (fun _ _ _ z => z)
      have core : ∀ {H' : Hp} {Q' : VK} {J : It}, Ok T w1 σ H' → Src T w1 σ H' false J (m.map (·.1)) → Rp ((PC.lcL (lcStep G cf th e t cs) (m.map (·.1)) w1.st).bind fun ys s6 => PC.opt (PC.mkL ys) s6) (fun r st => ∀ v H2, EP T w1 σ H' (PC.quiet e && PC.quietL cs) r st v H2 → Q' v H2) noX →
          ∀ D, H' D = none → ∃ W : Nat → Nat → Hp → Prop, (∃ m, W 0 m (upd H' D (.lst []))) ∧ ∀ i m H, W i m H →
            (J.stop i H ∧ Q' (.ref D) H) ∨ (J.go i H ∧ ∃ Nx : Hp → Prop, (∀ H', Nx H' → ∃ m', m' < m ∧ W (i + 1) m' H') ∧ ∀ x H', J.yld i H x H' → gD T t x (wipe σ (PC.ownT t)) H' fun σ2 H2 => wipe σ2 (PC.ownT t) = wipe σ (PC.ownT t) ∧ tCs T G cf th cs σ2 H2 fun b H3 =>
              if b = true then tE T G cf th none e σ2 H3 fun y H4 => ∃ acc, H4 D = some (.lst acc) ∧ acc.length < sizeLine ∧ Nx (upd H4 D (.lst (acc ++ [y]))) else Nx H3) := fun {H' Q' J} k' src y D hD =>
        lc_tail (q := PC.quiet e && PC.quietL cs) src k' hcl (fun z => by cases z) (fun z => qAnd z) y hD
      have lock : ∀ {a : Addr} {u : HO}, H a = some u → Mut (some u) → w1.F a = some u → dctH u = true → (∀ od Q', Rp ((PC.lcL (lcStep G cf th e t cs) (m.map (·.1)) w1.st).bind fun ys s6 => PC.opt (PC.mkL ys) s6) (fun r st => ∀ v H2, EP T w1 σ (upd H a (.frz od u)) (PC.quiet e && PC.quietL cs) r st v H2 → Q' v H2) noX →
          tLc (iKeys (tVar i)) (gD T t) (tCs T G cf th cs) (tE T G cf th none e) (PC.ownT t) σ (upd H a (.frz od u)) Q') → tLockE (tLc (iKeys (tVar i)) (gD T t) (tCs T G cf th cs) (tE T G cf th none e) (PC.ownT t)) σ H Q := fun {a u} ha mu hF hu go => by
        refine ⟨a, u, ha, mu, fun od => go od _ (h.mono (fun r st z v H' y => ?_) (fun _ _ _ z => z))⟩
        exact ⟨(y.unlock k1 hF hu ha).1, z _ _ (y.unlock k1 hF hu ha).2⟩
      right
      cases rp with
      | @dK a es _ hF r =>
        rcases k1.sub a _ hF with ea | ⟨_, od, ea⟩
        · exact .inr (lock ea True.intro hF rfl fun od Q' h => ⟨_, hs, a, od, rfl, .inl ⟨es, upd_same, core (k1.lock hF rfl) (src_keys upd_same (k1.known hF).1 (k1.known hF).2 r) h⟩⟩)
        · exact .inl ⟨_, hs, a, od, rfl, .inl ⟨es, ea, core k1 (src_keys ea (k1.known hF).1 (k1.known hF).2 r) h⟩⟩
      | @dT a es _ hF r =>
        rcases k1.sub a _ hF with ea | ⟨_, od, ea⟩
        · exact .inr (lock ea True.intro hF rfl fun od Q' h => ⟨_, hs, a, od, rfl, .inr ⟨es, upd_same, core (k1.lock hF rfl) (src_keysT upd_same (k1.known hF).1 (k1.known hF).2 r) h⟩⟩)
        · exact .inl ⟨_, hs, a, od, rfl, .inr ⟨es, ea, core k1 (src_keysT ea (k1.known hF).1 (k1.known hF).2 r) h⟩⟩
    · cases ex
  · rw [e0, Bool.not_false, Bool.and_true] at h
    refine .inl ⟨PC.quiet e && PC.quietL cs, lc_of k (fun z => qAnd z) ?_⟩
    have hw2 : ((PC.lk (PC.quiet e && PC.quietL cs) (.v i) w.st (PC.evE G cf th (.v i) w.st)).bind fun r s1 => PC.opt (if PC.clr (PC.ownT t) s1.s then PC.walkI (.v i) r.1 else none) s1) = (PC.lk (PC.quiet e && PC.quietL cs) (.v i) w.st (PC.evE G cf th (.v i) w.st)).bind fun r s1 => PC.opt (if PC.clr (PC.ownT t) s1.s then PC.walkS r.1 else none) s1 := by
      cases ez : PC.lk (PC.quiet e && PC.quietL cs) (.v i) w.st (PC.evE G cf th (.v i) w.st) with
      | no => rfl
      | ex C fs st => rfl
      | ok r st =>
        show PC.opt (if PC.clr (PC.ownT t) st.s then PC.walkI (.v i) r.1 else none) st = PC.opt (if PC.clr (PC.ownT t) st.s then PC.walkS r.1 else none) st
        rw [hw r st ez]
    rw [hw2] at h
    exact h
theorem peEx {α : Type} {e : Expr} {t : α → TE} (h : ∀ c, PE X e (t c)) : PE X e (fun σ H Q => ∃ c, t c σ H Q) := ⟨fun pins s σ H Q I ⟨c, q⟩ => (h c).run pins s σ H Q I q⟩
theorem psEx {α : Type} {e : Stmt} {t : α → TS} (h : ∀ c, PS X e (t c)) : PS X e (fun D σ H => ∃ c, t c D σ H) := ⟨fun pins s σ H D I ⟨c, q⟩ => (h c).run pins s σ H D I q⟩
theorem psOr {e : Stmt} {t t' : TS} (h : PS X e t) (h' : PS X e t') : PS X e (fun D σ H => t D σ H ∨ t' D σ H) := ⟨fun pins s σ H D I q => q.elim (h.run pins s σ H D I) (h'.run pins s σ H D I)⟩
theorem he_name {i : Nat} {x : Str} {p : Pos} (hi : X.N[i]? = some x) (hv : Vis X.env.scope x) (hd : (x == ("__debug__" : Str)) = false) (hcd : (x == ("__classdict__" : Str)) = false) (qn : Bool) : PE X (.Name x p) (tL T G cf th none qn (.v i)) := by
  cases qn with
  | false => exact PE.opd (pe_name hi hv hd hcd) (.inl rfl)
  | true => exact pe_look hi hv hd hcd
/-- over a name -/
theorem pe_lcN (hK : T.K = X.K) (hc : X.calm = true) (hN : X.N.Nodup) {elt tg : Expr} {ifs : List Expr} {scope : Scope} {own : List (Str × Nat)} {pos p : Pos} {e : E} {i : Nat} {x : Str} {t : PC.T} {cs : List E} (hi : X.N[i]? = some x) (hv : Vis X.env.scope x) (hd : (x == ("__debug__" : Str)) = false) (hcd : (x == ("__classdict__" : Str)) = false)
    (ok : BlkOk X.N X.env.scope scope own) (b : LcB X T G cf th scope elt tg ifs e t cs) (ho : own.map (·.2) = PC.ownT t) : PE X (.ListComp elt [⟨tg, .Name x p, ifs, 0⟩] scope pos) (tE T G cf th none (.lc e t (.v i) cs)) := by
  have nm : nSet (.Name x p) = true := rfl
  have h1 := fun qn => pe_lc (pos := pos) hc hN (pi_of hK (tg := tg) (he_name (T := T) (G := G) (cf := cf) (th := th) (p := p) hi hv hd hcd qn)) ok b.g b.t b.e (fold_ne nm _)
  have h3 := pe_lc (pos := pos) hc hN (pi_keys (tg := tg) (pe_var (pos := p) hi hv hd hcd)) ok b.g b.t b.e (fold_ne nm _)
  rw [ho] at h3
  refine peImp (peOr (peEx h1) (peOr h3 (pe_lock h3))) fun σ H Q ⟨w, k, h⟩ => ?_
  rw [ho]
  exact lcN_read k h
/-! ### name = [..] -/
theorem swap_lc {elt : Expr} {gs : List Comprehension} {scope : Scope} {pos py : Pos} {y : Str} {l : Nat} (hk : X.env.scope.kind = .function) (hy : X.env.scope.names.lookup y = some .local) (hl : (py.line == pos.line) = true)
    (ha : (scope.names.any fun (n, k) => n == y && (k == .local || k == .cell)) = false) : swapsWith (.ListComp elt gs scope pos) (some (.Name y py)) l X.env = pure true := sw_true hk hy hl ha
theorem asgLc_of {j : Nat} {mk : Bool} {c : E} {R : TE} (h : tS T G cf th (.set j mk c) D σ H) (go : ∀ w Q, Ok T w σ H → Rp (PC.evE G cf th c w.st) (fun r st => ∀ v H', EP T w σ H (PC.quiet c) r st v H' → Q v H') noX → R σ H Q) : R σ H fun x H1 => D.nx (σ.set j (some x)) H1 := by
  obtain ⟨w, k, h⟩ := h
  rw [evS_set] at h
  exact go w _ k (h.bind.mono (fun r st z v H' p => z _ _ (put_ok j mk p)) (fun _ _ _ z => z))
theorem ps_setLcC (hc : X.calm = true) (hN : X.N.Nodup) {elt tg iter : Expr} {ifs : List Expr} {scope : Scope} {own : List (Str × Nat)} {pos spos py : Pos} {e c : E} {t : PC.T} {cs : List E} {j : Nat} {y : Str} {mk : Bool} (hy : X.N[j]? = some y) (hyl : X.env.scope.names.lookup y = some .local)
    (hk : X.env.scope.kind = .function) (hl : (py.line == pos.line) = true) (hw : (scope.names.any fun (n, k) => n == y && (k == .local || k == .cell)) = false)
    (hi : PI X tg iter (tI T G cf th false c)) (ok : BlkOk X.N X.env.scope scope own) (b : LcB X T G cf th scope elt tg ifs e t cs) (ho : own.map (·.2) = PC.ownT t) (hs : nSet iter = true) (hv : ∀ i, c ≠ .v i) :
    PS X (.Assign [.Name y py] (.ListComp elt [⟨tg, iter, ifs, 0⟩] scope pos) spos) (tS T G cf th (.set j mk (.lc e t c cs))) := by
  refine psImp (ps_setLc hc hN hy hyl (swap_lc hk hyl hl hw) hi ok b.g b.t b.e (fold_ne hs _)) fun D σ H h => ?_
  rw [ho]
  refine asgLc_of (R := tLc (tI T G cf th false c) (gD T t) (tCs T G cf th cs) (tE T G cf th none e) (PC.ownT t)) h fun w Q k h => ?_
  rw [evE_lc, lk_no hv] at h
  refine lc_of k (fun z => by cases z) ?_
  rw [lk_no hv]
  simp only [walk_no hv] at h
  exact h
theorem ps_setLcN (hK : T.K = X.K) (hc : X.calm = true) (hN : X.N.Nodup) {elt tg : Expr} {ifs : List Expr} {scope : Scope} {own : List (Str × Nat)} {pos p spos py : Pos} {e : E} {i j : Nat} {x y : Str} {mk : Bool} {t : PC.T} {cs : List E} (hy : X.N[j]? = some y) (hyl : X.env.scope.names.lookup y = some .local)
    (hk : X.env.scope.kind = .function) (hl : (py.line == pos.line) = true) (hw : (scope.names.any fun (n, k) => n == y && (k == .local || k == .cell)) = false)
    (hi : X.N[i]? = some x) (hv : Vis X.env.scope x) (hd : (x == ("__debug__" : Str)) = false) (hcd : (x == ("__classdict__" : Str)) = false)
    (ok : BlkOk X.N X.env.scope scope own) (b : LcB X T G cf th scope elt tg ifs e t cs) (ho : own.map (·.2) = PC.ownT t) : PS X (.Assign [.Name y py] (.ListComp elt [⟨tg, .Name x p, ifs, 0⟩] scope pos) spos) (tS T G cf th (.set j mk (.lc e t (.v i) cs))) := by
  have nm : nSet (.Name x p) = true := rfl
  have h1 := fun qn => ps_setLc (spos := spos) (pos := pos) hc hN hy hyl (swap_lc (X := X) (elt := elt) (gs := [⟨tg, .Name x p, ifs, 0⟩]) hk hyl hl hw) (pi_of hK (tg := tg) (he_name (T := T) (G := G) (cf := cf) (th := th) (p := p) hi hv hd hcd qn)) ok b.g b.t b.e (fold_ne nm _)
  have h3 := ps_setLc (spos := spos) (pos := pos) hc hN hy hyl (swap_lc (X := X) (elt := elt) (gs := [⟨tg, .Name x p, ifs, 0⟩]) hk hyl hl hw) (pi_keys (tg := tg) (pe_var (pos := p) hi hv hd hcd)) ok b.g b.t b.e (fold_ne nm _)
  rw [ho] at h3
  refine psImp (psOr (psEx h1) (psOr h3 (ps_lock h3))) fun D σ H h => ?_
  rw [ho]
  exact asgLc_of (R := rdN T G cf th e t cs i (PC.ownT t)) h fun w Q k h => lcN_read k h
end
end Br
end

section
set_option Elab.async false
set_option linter.all false
set_option maxRecDepth 100000
set_option maxHeartbeats 1000000
/-! Br28: things that change: x[i] = v, targets x[k], lists that grow. -/
namespace Br
open PySem PySem.Spec PySem.Calls PyProof.Rows L2
open PC (D E S Sl Cl Sg Gs Rs Re)

section
variable {X : Cx} {T : Tb} {G : PC.Gl} {cf : PC.CF} {th : Option (Gs → Re)} {w w1 w2 w3 w4 : Wd} {σ σ1 σ2 : L2.St} {H H1 H2 H3 H' : Hp} {D : Ends} {a : Addr} {o : HO}
/-! ### an owned thing changes, a cell changes -/
theorem ClAt.upd_ne {ι : List Addr} {F : Hp} {b : Addr} {c : Cl} (z : b ≠ a) (h : ClAt T ι F H b c) : ClAt T ι F (upd H a o) b c := by
  cases c with
  | ref ds => exact h.imp fun vs r => ⟨(L2.upd_ne z).trans r.1, r.2⟩
  | inst C fs =>
    obtain ⟨o, dx, es, c, r⟩ := h
    exact ⟨o, dx, es, (L2.upd_ne z).trans c, r⟩
theorem Own.chg {j : Nat} {d d' : PC.D} (hs : w.s[j]? = some (.ow d)) {b : Addr} (h : Own (w.slot j (.ow d')) σ b) : Own w σ b := by
  obtain ⟨i, x, h1, h2⟩ := h
  rcases set_get h1 with ⟨e, _, _⟩ | ⟨_, h1⟩
  · exact ⟨j, d, hs, by rw [← e]; exact h2⟩
  · exact ⟨i, x, h1, h2⟩
theorem Ok.chg (k : Ok T w σ H) {j : Nat} {d d' : PC.D} (hs : w.s[j]? = some (.ow d)) (hσ : σ[j]? = some (some (.ref a))) (c : CtL T w.ι w.F (upd H a o) a d') : Ok T (w.slot j (.ow d')) σ (upd H a o) ∧ Stp w σ H (w.slot j (.ow d')) σ (upd H a o) := by
  obtain ⟨a', hσ', hF, hi, c0⟩ := k.ow j d hs
  rw [hσ] at hσ'
  cases hσ'
  have own : Own w σ a := ⟨j, d, hs, hσ⟩
  have hp : ∀ u, H a = some u → plO u = true := fun u e => by
    cases d with
    | lst ds => obtain ⟨vs, q, _⟩ := c0; rw [q] at e; cases e; rfl
    | dct kvs => rcases c0 with ⟨es, q, _⟩ | ⟨es, q, _⟩ <;> (rw [q] at e; cases e; rfl)
    | _ => exact c0.elim
  have ho : nT o = true := by
    obtain ⟨u, hu, nt⟩ := c.there
    rw [upd_same] at hu
    cases hu
    exact nT_of upd_same nt
  have hsome : ∃ u, H a = some u := c0.there.imp fun _ h => h.1
  refine ⟨⟨k.len, k.nd, fun b u e => ?_, k.frz, fun n b c e1 e2 => ?_, by show (w.s.set j _).length = _; rw [List.length_set]; exact k.sl, fun i x h => ?_, fun i x h => ?_, fun i m x e b h1 h2 q1 q2 => ?_, tabs_upd k.tb hp⟩, ⟨fun _ _ h => h, fun _ _ h => h, fun b x e _ _ no => ?_, fun b x e t f ni no => ⟨f, ni, fun z => no (Own.chg hs z)⟩, fun b e => ?_, fun b h => .inl (Own.chg hs h)⟩⟩
  · have e : w.F b = some u := e
    have z : b ≠ a := fun z => by rw [z, hF] at e; cases e
    rw [L2.upd_ne z]
    exact k.sub b u e
  · obtain ⟨h1, h2⟩ := k.cel n b c e1 e2
    exact ⟨h1, h2.upd_ne fun z => hi (z ▸ List.mem_of_getElem? e1)⟩
  · rcases set_get h with ⟨_, h, _⟩ | ⟨_, h⟩
    · cases h
    · exact k.va i x h
  · rcases set_get h with ⟨e, h, _⟩ | ⟨n, h⟩
    · cases h
      subst e
      exact ⟨a, hσ, hF, hi, c⟩
    · obtain ⟨b, h1, h2, h3, h4⟩ := k.ow i x h
      have z : b ≠ a := fun z => n (k.ap i j x d b h hs h1 (by rw [z]; exact hσ))
      exact ⟨b, h1, h2, h3, h4.at (L2.upd_ne z)⟩
  · have p1 : ∃ y, w.s[i]? = some (.ow y) := by
      rcases set_get h1 with ⟨z, _, _⟩ | ⟨_, h1⟩
      · exact ⟨d, by rw [z]; exact hs⟩
      · exact ⟨_, h1⟩
    have p2 : ∃ y, w.s[m]? = some (.ow y) := by
      rcases set_get h2 with ⟨z, _, _⟩ | ⟨_, h2⟩
      · exact ⟨d, by rw [z]; exact hs⟩
      · exact ⟨_, h2⟩
    obtain ⟨y1, p1⟩ := p1
    obtain ⟨y2, p2⟩ := p2
    exact k.ap i m y1 y2 b p1 p2 q1 q2
  · rw [L2.upd_ne fun z => no (by rw [z]; exact own)]
    exact e
  · by_cases z : b = a
    · rw [z, upd_same] at e; cases e
    · rw [L2.upd_ne z] at e; exact e
def Wd.cst (w : Wd) (n : Nat) (c : Cl) : Wd := { w with g := w.g.set n c }
theorem Ok.chgC (k : Ok T w σ H) {n : Nat} {c c' : Cl} (hn : w.ι[n]? = some a) (hg : w.g[n]? = some c) (h : ClAt T w.ι w.F (upd H a o) a c') : Ok T (w.cst n c') σ (upd H a o) ∧ Stp w σ H (w.cst n c') σ (upd H a o) ∧ (∀ b, Own w σ b → upd H a o b = H b ∧ b ∉ w.ι) := by
  obtain ⟨hF, c0⟩ := k.cel n a c hn hg
  have mem : a ∈ w.ι := List.mem_of_getElem? hn
  have hp : ∀ u, H a = some u → plO u = true := fun u e => by
    cases c with
    | ref ds => obtain ⟨vs, q, _⟩ := c0; rw [q] at e; cases e; rfl
    | inst C fs => obtain ⟨_, dx, es, q, _⟩ := c0; rw [q] at e; cases e; rfl
  have ho : nT o = true := by
    cases c' with
    | ref ds =>
      obtain ⟨vs, q, _⟩ := h
      rw [upd_same] at q
      cases q
      rfl
    | inst C fs =>
      obtain ⟨_, dx, es, q, _⟩ := h
      rw [upd_same] at q
      cases q
      rfl
  have no : ∀ b, Own w σ b → b ≠ a := fun b h z => (k.own_at h).2.1 (z ▸ mem)
  have hl : n < w.g.length := (List.getElem?_eq_some_iff.mp hg).1
  refine ⟨⟨by show w.ι.length = (w.g.set n _).length; rw [List.length_set]; exact k.len, k.nd, fun b u e => ?_, k.frz, fun m b e e1 e2 => ?_, k.sl, k.va, fun i x h => ?_, k.ap, tabs_upd k.tb hp⟩, ⟨fun _ _ h => h, fun _ _ h => h, fun b x e _ ni _ => ?_, fun b x e t f ni no => ⟨f, ni, no⟩, fun b e => ?_, fun b h => .inl h⟩, fun b h => ⟨L2.upd_ne (no b h), (k.own_at h).2.1⟩⟩
  · have e : w.F b = some u := e
    have z : b ≠ a := fun z => by rw [z, hF] at e; cases e
    rw [L2.upd_ne z]
    exact k.sub b u e
  · have e2 : (w.g.set n c')[m]? = some e := e2
    by_cases q : n = m
    · subst q
      rw [List.getElem?_set_self hl] at e2
      cases e2
      have e1 : w.ι[n]? = some b := e1
      rw [hn] at e1
      cases e1
      exact ⟨hF, h⟩
    · rw [List.getElem?_set_ne q] at e2
      obtain ⟨h1, h2⟩ := k.cel m b e e1 e2
      refine ⟨h1, h2.upd_ne fun z => q ?_⟩
      subst z
      exact (List.getElem?_inj (List.getElem?_eq_some_iff.mp hn).1 k.nd).mp (hn.trans (show some b = w.ι[m]? from e1.symm))
  · obtain ⟨b, h1, h2, h3, h4⟩ := k.ow i x h
    exact ⟨b, h1, h2, h3, h4.at (L2.upd_ne (no b ⟨i, x, h, h1⟩))⟩
  · rw [L2.upd_ne fun z => ni (by rw [z]; exact mem)]
    exact e
  · by_cases z : b = a
    · rw [z, upd_same] at e; cases e
    · rw [L2.upd_ne z] at e; exact e
/-! ### x[i] = v -/
/-- d[y] = v, an empty dict of either kind -/
def DPut0 (H : Hp) (a : Addr) (y v : V) (H' : Hp) : Prop := DPut H a y v H' ∨ (H a = some (.dK []) ∧ ∃ k b, y = .ref b ∧ H b = some (.tup (k.map kV)) ∧ H' = upd H a (.dT [(k, v)])) ∨ (H a = some (.dT []) ∧ ∃ k, y = kV k ∧ H' = upd H a (.dK [(k, v)]))
theorem upd_twice (H : Hp) (a : Addr) (o u : HO) : upd (upd H a o) a u = upd H a u := by
  funext b
  by_cases z : b = a
  · rw [z, upd_same, upd_same]
  · rw [L2.upd_ne z, L2.upd_ne z, L2.upd_ne z]
theorem d_set0 (hu : X.A.units + 1 < cLine) {pins : List (Addr × Obj)} {s : Shared} {y v : V} {u r : Value} {Q : Unit → Shared → Prop} (I : Inv X pins σ H s) (g : DPut0 H a y v H') (ry : RelV y u) (rv : RelV v r) (h : ∀ s', Inv X pins σ H' s' → Q () s') :
    wpAny (model X.prog X.w) X.A (setItem (.ref a) u r) Q X.xe s := by
  rcases g with g | ⟨ha, k, b, rfl, hb, rfl⟩ | ⟨ha, k, rfl, rfl⟩
  · exact d_setItem hu I g ry rv h
  · obtain ⟨hd, en⟩ := len_entries (I.hok a _ ha)
    have I1 : Inv X pins σ (upd H a (.dT [])) s := by
      refine I.write (t' := s.toks) (h' := s.heap) (x := a) (e := a) (by rw [ha]; trivial) (.inl rfl) (fun _ _ _ z => z) ⟨_, en.choose_spec.choose_spec.choose_spec.1⟩ ?_
      obtain ⟨ob, es, ep, g, ex, e, z⟩ := en
      have e0 : es = #[] := Array.eq_empty_of_size_eq_zero z
      subst e0
      exact ⟨Nat.zero_le _, hd, [], .nil, ob, #[], ep, g, ex, e, rfl, List.nodup_nil⟩
    have hb1 : upd H a (.dT []) b = some (.tup (k.map kV)) := by
      rw [L2.upd_ne fun z => by rw [z, ha] at hb; cases hb]
      exact hb
    have g := DPut.t (v := v) (kvs := []) upd_same hb1 (by show 0 < sizeLine; rw [sizeLine_eq]; decide)
    rw [upd_twice] at g
    exact d_setItem hu I1 g ry rv h
  · obtain ⟨hd, en⟩ := len_entriesT (I.hok a _ ha)
    have I1 : Inv X pins σ (upd H a (.dK [])) s := by
      refine I.write (t' := s.toks) (h' := s.heap) (x := a) (e := a) (by rw [ha]; trivial) (.inl rfl) (fun _ _ _ z => z) ⟨_, en.choose_spec.choose_spec.choose_spec.1⟩ ?_
      exact ⟨Nat.zero_le _, hd, [], .nil, en.mapK⟩
    have g := DPut.k (v := v) (k := k) (kvs := []) (a := a) (H := upd H a (.dK [])) upd_same (by show 0 < sizeLine; rw [sizeLine_eq]; decide)
    rw [upd_twice] at g
    exact d_setItem hu I1 g ry rv h
def rSetO : TSet := fun o i v H Q => rSetL o i v H Q ∨ ∃ a H', o = .ref a ∧ DPut0 H a i v H' ∧ Q H'
theorem set_any (hu : X.A.units + 1 < cLine) : PSet X rSetO := by
  intro pins s σ H o i v ov iv u Q I ro ri rv h
  rcases h with h | ⟨a, H', eo, g, q⟩
  · exact set_list pins s σ H o i v ov iv u Q I ro ri rv h
  · subst eo
    cases (show ov = Value.ref a from ro)
    exact d_set0 hu I g ri rv fun s' I' => ⟨H', I', q⟩
/-- what a store makes of a thing -/
theorem set_read (k : Ok T w σ H) {d kd xd z : PC.D} {iv v : V} (c : CtL T w.ι w.F H a d) (ri : Rep T w.ι w.F iv kd) (rv : Rep T w.ι w.F v xd) (h : PC.setD d kd xd = some z) :
    ∃ o, CtL T w.ι w.F (upd H a o) a z ∧ ∀ Q : Hp → Prop, Q (upd H a o) → rSetO (.ref a) iv v H Q := by
  unfold PC.setD at h
  split at h
  · rename_i l i
    obtain ⟨n, hn, rfl⟩ := Option.map_eq_some_iff.mp h
    obtain ⟨vs, hv, rs⟩ := c
    cases ri
    rw [ixOf_eq, ← rs.length] at hn
    exact ⟨_, ⟨_, upd_same, rs.set rv n⟩, fun Q q => .inl ⟨a, vs, i, n, rfl, rfl, hv, hn, q⟩⟩
  · rename_i kvs
    split at h
    · rename_i hc
      obtain ⟨hc, hl⟩ := qAnd hc
      obtain ⟨hk, hnew⟩ := qAnd hc
      have hl : kvs.length < sizeLine := by
        rw [← big_eq]
        exact of_decide_eq_true hl
      obtain ⟨ko, kf⟩ := keyFor_ok hk
      cases h
      rcases (ri.cnt k).key k ko with ⟨kk, rfl, rfl⟩ | ⟨ks, b, rfl, rfl, tb⟩
      · rcases c with ⟨es, he, r⟩ | ⟨es, he, r⟩
        · exact ⟨_, .inl ⟨_, upd_same, repK_put rv r⟩, fun Q q => .inr ⟨a, _, rfl, .inl (DPut.k he (by rw [repK_len r]; exact hl)), q⟩⟩
        · cases r with
          | nil => exact ⟨.dK [(kk, v)], .inl ⟨_, upd_same, repK_put (es := []) rv .nil⟩, fun Q q => .inr ⟨a, _, rfl, .inr (.inr ⟨he, kk, rfl, rfl⟩), q⟩⟩
          | cons r t =>
            have := kf _ List.mem_cons_self
            rw [keyD_key] at this
            cases this
      · have hb : H b = some (.tup (ks.map kV)) := by
          rcases tb with f | ⟨_, kc⟩
          · exact k.ex f rfl
          · have : (!PC.kcs (ks.map keyD)) = true := hnew
            rw [kc] at this
            cases this
        rcases c with ⟨es, he, r⟩ | ⟨es, he, r⟩
        · cases r with
          | nil => exact ⟨.dT [(ks, v)], .inr ⟨_, upd_same, repT_put (es := []) rv .nil⟩, fun Q q => .inr ⟨a, _, rfl, .inr (.inl ⟨he, ks, b, rfl, hb, rfl⟩), q⟩⟩
          | cons r t =>
            have := kf _ List.mem_cons_self
            rw [keyD_key] at this
            cases this
        · exact ⟨_, .inr ⟨_, upd_same, repT_put rv r⟩, fun Q q => .inr ⟨a, _, rfl, .inl (DPut.t he hb (by rw [repT_len r]; exact hl)), q⟩⟩
    · cases h
  · cases h
theorem swap_sub {e ob ix : Expr} {p : Pos} (l : Nat) (env : Env) : swapsWithSole [.Subscript ob ix p] e l env = pure false := by
  show swapsWith e (some (.Subscript ob ix p)) l env = _
  cases e <;> rfl
theorem store_sub {e ob ix : Expr} {p : Pos} (env : Env) : swappedStores [.Subscript ob ix p] e env = pure none := rfl
theorem evS_setI (j : Nat) (i e : E) (s : PC.St) : PC.evS G cf th (.setI (.v j) i e) s = (PC.evE G cf th e s).bind fun x s1 => (match s1.s[j]? with
        | some (.ow _) => (PC.evE G cf th i s1).bind fun k s2 => (match s2.s[j]? with
          | some (.ow d2) => (PC.opt (PC.setD d2 k.1 x.1) s2).bind fun z s3 => .ok .nx ⟨s3.s.set j (.ow z), s3.g⟩
          | _ => .no)
        | some (.va (.cell n)) => (PC.evE G cf th i s1).bind fun k s2 => (match s2.g[n]? with
          | some (.ref l) => (PC.opt (PC.setD (.lst l) k.1 x.1) s2).bind fun z s3 => (match z with
            | .lst m => .ok .nx ⟨s3.s, s3.g.set n (.ref m)⟩
            | _ => .no)
          | some (.inst C _) => (PC.viaM G cf G.mSet [(.cell n, false), (k.1, false), (x.1, false)] C s2).bind fun _ s3 => .ok .nx s3
          | none => .no)
        | _ => .no) := by
  simp only [PC.evS]
  all_goals rfl
theorem sub_asg {ob ix : Expr} {p : Pos} {env : Env} (h : nSl ix = true) (v : Value) : assign (.Subscript ob ix p) env v = (do
      let ov ← holding [v] (eval ob env)
      let iv ← holding [v, ov] (eval ix env)
      standAt p
      holding [v, ov, iv] (setItem ov iv v)
      release [v, ov, iv] []) := by
  cases ix <;> first | rfl | cases h
theorem ps_setIC (hu : X.A.units + 1 < cLine) (hS : ∀ C, G.meth C G.mSet = none) {j : Nat} {x : Str} {p p2 pos : Pos} {ie e : Expr} {ci c : E} (hN : X.N[j]? = some x) (hv : Vis X.env.scope x) (hd : (x == ("__debug__" : Str)) = false) (hcd : (x == ("__classdict__" : Str)) = false)
    (hi : PE X ie (tE T G cf th none ci)) (hsl : nSl ie = true) (he : PE X e (tE T G cf th none c)) : PS X (.Assign [.Subscript (.Name x p) ie p2] e pos) (tS T G cf th (.setI (.v j) ci c)) := by
  refine psImp (ps_asg he (pg_sub (pe_var hN hv hd hcd) hi (set_any hu) (sub_asg hsl)) (swap_sub _ _) (store_sub _)) fun D σ H ⟨w, k, h⟩ => ?_
  rw [evS_setI] at h
  refine ⟨w, k, h.bind.mono (fun r st y v H1 ep => ?_) (fun _ _ _ z => z)⟩
  obtain ⟨w1, e1, k1, s1, _, rv⟩ := ep.rep
  subst e1
  cases es : w1.s[j]? with
  | none =>
    have y : Rp _ _ _ := y
    simp only [es] at y
    exact y.elim
  | some sl =>
    simp only [es] at y
    cases sl with
    | un => exact y.elim
    | ow d1 =>
      obtain ⟨a, ha, hF, hni, c1⟩ := k1.ow j d1 es
      refine ⟨_, ha, w1, k1, Rp.mono (Rp.bind y) (fun r2 st2 y iv H2 ep2 => ?_) (fun _ _ _ z => z)⟩
      obtain ⟨w2, e2, k2, s2, _, ri⟩ := ep2.rep
      subst e2
      cases es2 : w2.s[j]? with
      | none => simp only [es2] at y; exact y.elim
      | some sl2 =>
        simp only [es2] at y
        cases sl2 with
        | un => exact y.elim
        | va d => exact y.elim
        | ow d2 =>
          obtain ⟨z, ez, y⟩ := Rp.opt (Rp.bind y)
          obtain ⟨a', ha', hF2, hni2, c2⟩ := k2.ow j d2 es2
          rw [ha] at ha'
          cases ha'
          obtain ⟨o, co, go⟩ := set_read k2 c2 ri (s2.rep rv) ez
          obtain ⟨k3, s3⟩ := k2.chg es2 ha co
          exact go _ (y _ _ ⟨w2.slot j (.ow z), rfl, k3, s1.trans k1 (s2.trans k2 s3)⟩)
    | va d1 =>
      cases d1 with
      | cell n =>
        obtain ⟨v1, ha, r1⟩ := k1.va j _ es
        cases r1 with
        | @cell n a hn =>
          refine ⟨_, ha, w1, k1, Rp.mono (Rp.bind y) (fun r2 st2 y iv H2 ep2 => ?_) (fun _ _ _ z => z)⟩
          obtain ⟨w2, e2, k2, s2, _, ri⟩ := ep2.rep
          subst e2
          cases eg : w2.g[n]? with
          | none => simp only [eg] at y; exact y.elim
          | some cl =>
            simp only [eg] at y
            cases cl with
            | inst C fs =>
              unfold PC.viaM at y
              dsimp only at y
              rw [hS C] at y
              exact y.elim
            | ref l =>
              obtain ⟨z, ez, y⟩ := Rp.opt (Rp.bind y)
              cases z with
              | lst m =>
                have hn2 := s2.ι n a hn
                obtain ⟨hF2, vs, hvs, rvs⟩ := k2.cel n a _ hn2 eg
                obtain ⟨o, ⟨us, hus, rus⟩, go⟩ := set_read (a := a) k2 (d := .lst l) ⟨vs, hvs, rvs⟩ ri (s2.rep rv) ez
                obtain ⟨k3, s3, _⟩ := k2.chgC (c' := .ref m) hn2 eg ⟨us, hus, rus⟩
                exact go _ (y _ _ ⟨w2.cst n (.ref m), rfl, k3, s1.trans k1 (s2.trans k2 s3)⟩)
              | _ => exact y.elim
      | _ => exact y.elim
/-! ### a target x[k] -/
theorem pg_ixC {i k : Nat} {x : Str} {t : Tok} {p p2 pos : Pos} {ie : Expr} (hN : X.N[i]? = some x) (hv : Vis X.env.scope x) (hd : (x == ("__debug__" : Str)) = false) (hcd : (x == ("__classdict__" : Str)) = false) (hi : PE X ie (tC (.int k))) (hsl : nSl ie = true) : PG X (.Subscript (.Name x p) ie pos) (gD T (.ix i k)) := by
  refine pgImp (pg_sub (pe_var hN hv hd hcd) hi set_list (sub_asg hsl)) fun v σ H Q ⟨w, d, k0, r, z, hz, q⟩ => ?_
  unfold PC.bindT at hz
  split at hz
  · rename_i n es
    obtain ⟨g, hg, rfl⟩ := Option.map_eq_some_iff.mp hz
    unfold PC.setIx at hg
    split at hg
    · rename_i l eg
      split at hg
      · rename_i hl
        cases hg
        obtain ⟨v1, ha, r1⟩ := k0.va i _ es
        cases r1 with
        | @cell n a hn =>
          obtain ⟨hF, vs, hvs, rvs⟩ := k0.cel n a _ hn eg
          have hlen := rvs.length
          obtain ⟨k3, s3, q3⟩ := k0.chgC (c' := .ref (l.set k d)) (o := .lst (vs.set k v)) hn eg ⟨_, upd_same, rvs.set r k⟩
          refine ⟨_, ha, a, vs, (k : Int), k, rfl, rfl, hvs, ?_, q _ _ ⟨w.cst n (.ref (l.set k d)), rfl, k3, s3, q3⟩ .refl⟩
          rw [← ixOf_eq]
          unfold PC.ixOf
          rw [if_pos (by omega), if_pos (by omega)]
          rfl
      · cases hg
    · cases hg
  · cases hz
end
end Br
end

section
set_option Elab.async false
set_option linter.all false
set_option maxRecDepth 100000
set_option maxHeartbeats 1000000
/-! Br29: several targets; x.f = v; a, b = x, y; {}. -/
namespace Br
open PySem PySem.Spec PySem.Calls PyProof.Rows L2
open PC (D E S Sl Cl Sg Gs Rs Re)

section
variable {X : Cx} {T : Tb} {G : PC.Gl} {cf : PC.CF} {th : Option (Gs → Re)} {w w1 w2 w3 w4 : Wd} {σ σ0 σ1 σ2 : L2.St} {H H1 H2 H3 H' : Hp} {D : Ends} {a : Addr} {o : HO}
/-! ### targets = value -/
def nTup : Expr → Bool
  | .Tuple _ _ _ => false
  | _ => true
theorem swap_tup {e : Expr} {ts : List Expr} {n : Nat} {p : Pos} (l : Nat) (env : Env) : swapsWithSole [.Tuple ts n p] e l env = pure false := by
  show swapsWith e (some (.Tuple ts n p)) l env = _
  cases e <;> rfl
theorem store_tup {e : Expr} {ts : List Expr} {n : Nat} {p : Pos} (h : nTup e = true) (env : Env) : swappedStores [.Tuple ts n p] e env = pure none := by
  cases e <;> first | rfl | cases h
theorem evS_setT (t : PC.T) (e : E) (s : PC.St) : PC.evS G cf th (.setT t e) s = (PC.evE G cf th e s).bind fun r s1 => (PC.opt (PC.bindT t r.1 s1) s1).bind fun z _ => .ok .nx z := by simp only [PC.evS]
theorem setT_of {t : PC.T} {c : E} (h : tS T G cf th (.setT t c) D σ H) : tAsg (tE T G cf th none c) (gD T t) D σ H := by
  obtain ⟨w, k, h⟩ := h
  rw [evS_setT] at h
  refine ⟨w, k, h.bind.mono (fun r st y v H1 ep => ?_) (fun _ _ _ z => z)⟩
  obtain ⟨w1, e1, k1, s1, _, rv⟩ := ep.rep
  subst e1
  obtain ⟨z, ez, y⟩ := Rp.opt (Rp.bind y)
  exact ⟨w1, r.1, k1, rv, z, ez, fun σ' H' ⟨w2, e2, k2, s2, _⟩ _ => y _ _ ⟨w2, e2, k2, s1.trans k1 s2⟩⟩
theorem ps_setTC {es : List Expr} {n : Nat} {tp pos : Pos} {e : Expr} {c : E} {t : PC.T} (he : PE X e (tE T G cf th none c)) (hg : PG X (.Tuple es n tp) (gD T t)) (hn : nTup e = true) : PS X (.Assign [.Tuple es n tp] e pos) (tS T G cf th (.setT t c)) :=
  psImp (ps_asg he hg (swap_tup _ _) (store_tup hn _)) fun D σ H h => setT_of h
/-! ### x.f = v -/
theorem repF_put {ι : List Addr} {F : Hp} (N : NmF T) {f : Nat} (hf : T.fld f = true) {v : V} {d : PC.D} (r : Rep T ι F v d) : ∀ {es : List (Str × V)} {fs : List (Nat × PC.D)}, RepF T ι F es fs → RepF T ι F (putF (T.nm f) v es) (PC.fPut fs f d)
  | _, _, .nil => .cons hf r .nil
  | _, _, .cons (n := n) (v := u) (d := d') (es := es) (fs := fs) o q t => by
    show RepF T ι F (if T.nm n = T.nm f then (T.nm n, v) :: es else (T.nm n, u) :: putF (T.nm f) v es) (if n = f then (n, d) :: fs else (n, d') :: PC.fPut fs f d)
    by_cases e : n = f
    · subst e
      rw [if_pos rfl, if_pos rfl]
      exact .cons o r t
    · rw [if_neg e, if_neg fun z => e (N.inj _ _ o hf z)]
      exact .cons o q (repF_put N hf r t)
theorem repF_len {ι : List Addr} {F : Hp} : ∀ {es : List (Str × V)} {fs : List (Nat × PC.D)}, RepF T ι F es fs → es.length = fs.length
  | _, _, .nil => rfl
  | _, _, .cons _ _ t => congrArg (· + 1) (repF_len t)
/-- the own classes: their instances, their fields -/
structure ClsF (K : PySem.W.Frag) (T : Tb) : Prop where
  cls : ∀ C, T.own C = true → Cls K (T.clA C)
  att : ∀ C f, T.own C = true → T.fld f = true → NoAttr K (T.clA C) (T.nm f)
theorem evS_setF (o : E) (f : Nat) (e : E) (s : PC.St) : PC.evS G cf th (.setF o f e) s = (PC.evE G cf th e s).bind fun x s1 => (PC.evE G cf th o s1).bind fun y s2 => (match y.1 with
      | .cell n => (match s2.g[n]? with
        | some (.inst C fs) => if fs.length < 900 then .ok .nx ⟨s2.s, s2.g.set n (.inst C (PC.fPut fs f x.1))⟩ else .no
        | _ => .no)
      | _ => .no) := by
  simp only [PC.evS]
  all_goals rfl
theorem swap_attr (e o : Expr) (f : Str) (p : Pos) (l : Nat) (env : Env) : swapsWith e (some (.Attribute o f p)) l env = pure false := by cases e <;> rfl
theorem ps_setFC (N : NmF T) (A : ClsF X.K T) {ob e : Expr} {x : Str} {f : Nat} {p pos : Pos} {co c : E} (hf : T.fld f = true) (hx : x = T.nm f) (ho : PE X ob (tE T G cf th none co)) (he : PE X e (tE T G cf th none c)) : PS X (.Assign [.Attribute ob x p] e pos) (tS T G cf th (.setF co f c)) := by
  refine psImp (ps_fld ho he (swap_attr _ _ _ _ _ _)) fun D σ H ⟨w, k, h⟩ => ?_
  rw [evS_setF] at h
  refine ⟨w, k, h.bind.mono (fun r st y v H1 ep => ?_) (fun _ _ _ z => z)⟩
  obtain ⟨w1, e1, k1, s1, _, rv⟩ := ep.rep
  subst e1
  refine ⟨w1, k1, (Rp.bind y).mono (fun r2 st2 y u H2 ep2 => ?_) (fun _ _ _ z => z)⟩
  obtain ⟨w2, e2, k2, s2, _, ru⟩ := ep2.rep
  subst e2
  obtain ⟨d2, b2⟩ := r2
  cases ru with
  | @cell n a hn =>
    cases eg : w2.g[n]? with
    | none => simp only [eg] at y; exact y.elim
    | some cl =>
      simp only [eg] at y
      cases cl with
      | ref ds => exact y.elim
      | inst C fs =>
        dsimp only at y
        split at y
        · rename_i hl
          obtain ⟨hF, own, dx, es, ha, rf⟩ := k2.cel n a _ hn eg
          obtain ⟨k3, s3, _⟩ := k2.chgC (c' := .inst C (PC.fPut fs f r.1)) (o := .ins (T.clA C) dx (putF (T.nm f) v es)) hn eg ⟨own, dx, _, upd_same, repF_put N hf (s2.rep rv) rf⟩
          subst hx
          exact ⟨a, _, dx, es, rfl, ha, A.cls C own, A.att C f own hf, by rw [repF_len rf]; omega, y _ _ ⟨w2.cst n _, rfl, k3, s1.trans k1 (s2.trans k2 s3)⟩⟩
        · exact y.elim
  | _ => exact y.elim
/-! ### a, b = x, y -/
theorem AL.to {vs : List V} {xs : List (PC.D × Bool)} (h : AL T w σ H vs xs) (hi : w2.ι = w.ι) (hm : ∀ a u, w.F a = some u → w2.F a = some u) (hf : ∀ a ∈ frA vs xs, w2.F a = none ∧ ¬ Own w2 σ2 a) : AL T w2 σ2 H vs xs := by
  induction h with
  | nil => exact .nil
  | rep r _ ih => exact .rep (r.mono (fun n a h => by rw [hi]; exact h) hm) (ih (by rw [frA_rep] at hf; exact hf))
  | @new a d vs xs f c hn _ ih => exact .new ⟨(hf a List.mem_cons_self).1, by rw [hi]; exact f.i, (hf a List.mem_cons_self).2⟩ (c.mono (fun n a h => by rw [hi]; exact h) hm) hn (ih fun b hb => hf b (List.mem_cons_of_mem _ hb))
/-- the first one comes to its name -/
theorem put_one (k : Ok T w1 σ1 H1) (s : Stp w σ H w1 σ1 H1) {v : V} {r : PC.D × Bool} {vs : List V} {xs : List (PC.D × Bool)} (al : AL T w1 σ1 H1 (v :: vs) (r :: xs)) (hn : ∀ a ∈ frA (v :: vs) (r :: xs), H a = none) (i : Nat) (mk : Bool) :
    ∃ w2, w2.st = ⟨PC.put i mk r w1.s, w1.g⟩ ∧ Ok T w2 (σ1.set i (some v)) H1 ∧ Stp w σ H w2 (σ1.set i (some v)) H1 ∧ AL T w2 (σ1.set i (some v)) H1 vs xs ∧ ∀ a ∈ frA vs xs, H a = none := by
  cases al with
  | @rep _ d _ _ rv t =>
    rw [frA_rep] at hn
    refine ⟨w1.slot i (.va d), ?_, k.setV i rv, s.slot_va i d _, t.to rfl (fun _ _ h => h) fun a ha => ⟨(t.fr a ha).1.f, fun z => (t.fr a ha).1.o z.slot_va⟩, hn⟩
    show (⟨_, w1.g⟩ : PC.St) = ⟨PC.put i mk (d, false) w1.s, w1.g⟩
    unfold PC.put
    rw [if_neg (by simp)]
    rfl
  | @new p d _ _ f c hp t =>
    have hp0 := hn p List.mem_cons_self
    have hn' : ∀ a ∈ frA vs xs, H a = none := fun a ha => hn a (List.mem_cons_of_mem _ ha)
    have ne : ∀ a ∈ frA vs xs, a ≠ p := fun a ha z => hp (z ▸ ha)
    cases mk with
    | true =>
      refine ⟨w1.slot i (.ow d), rfl, k.setO i f c, ⟨s.ι, s.F, s.kp, fun b o e q fb h1 h2 => ?_, s.tr, fun b hb => ?_⟩, t.to rfl (fun _ _ h => h) fun a ha => ⟨(t.fr a ha).1.f, fun z => (Own.slot_ow z).elim (ne a ha) (t.fr a ha).1.o⟩, hn'⟩
      · obtain ⟨x1, x2, x3⟩ := s.fr b o e q fb h1 h2
        refine ⟨x1, x2, fun z => ?_⟩
        rcases Own.slot_ow z with z | z
        · rw [z, hp0] at e
          cases e
        · exact x3 z
      · rcases Own.slot_ow hb with z | z
        · exact .inr (by rw [z]; exact hp0)
        · exact s.nw b z
    | false =>
      obtain ⟨w2, e2, i2, k2, m2, n2, r2, u, hw2⟩ := k.know' f c
      have es2 : w2.s = w1.s := congrArg PC.St.s e2
      have eg2 : w2.g = w1.g := congrArg PC.St.g e2
      have s2 : Stp w σ H w2 σ1 H1 := by
        subst hw2
        exact s.know f.f (.inl hp0)
      refine ⟨w2.slot i (.va d), ?_, k2.setV i r2, s2.slot_va i d _, t.to i2 m2 fun a ha => ⟨(n2 a (ne a ha)).trans (t.fr a ha).1.f, fun z => (t.fr a ha).1.o ?_⟩, hn'⟩
      · show (⟨w2.s.set i _, w2.g⟩ : PC.St) = ⟨PC.put i false (d, true) w1.s, w1.g⟩
        rw [es2, eg2]
        rfl
      · obtain ⟨j, x, h1, h2⟩ := Own.slot_va z
        exact ⟨j, x, by rw [← es2]; exact h1, h2⟩
theorem evS_par (xs : List (Nat × Bool)) (es : List E) (s : PC.St) : PC.evS G cf th (.par xs es) s = (PC.evL G cf th es s).bind fun rs s1 => (PC.opt (PC.puts xs rs s1.s) s1).bind fun z s2 => .ok .nx ⟨z, s2.g⟩ := by simp only [PC.evS]
theorem AL.len0 {xs : List (PC.D × Bool)} (h : AL T w σ H [] xs) : xs = [] := by cases h; rfl
theorem ps_parC (hc : X.calm = true) (hN : X.N.Nodup) {i j : Nat} {mi mj : Bool} {x y : Str} {a b : Expr} {ca cb : E} {px py pt pos : Pos} {kt k2 : Nat} {pt2 : Pos} (hi : X.N[i]? = some x) (hj : X.N[j]? = some y) (hij : i ≠ j)
    (hx : X.env.scope.names.lookup x = some .local) (hy : X.env.scope.names.lookup y = some .local) (ha : PA X [a, b] (tAs T G cf th none [ca, cb]))
    (hw : swappedStores [.Tuple [.Name x px, .Name y py] kt pt] (.Tuple [a, b] k2 pt2) X.env = pure (some [x, y])) :
    PS X (.Assign [.Tuple [.Name x px, .Name y py] kt pt] (.Tuple [a, b] k2 pt2) pos) (tS T G cf th (.par [(i, mi), (j, mj)] [ca, cb])) := by
  refine psImp (ps_par hc hN hi hj hij hx hy ha hw (swap_tup _ _)) fun D σ H ⟨w, k, h⟩ => ?_
  rw [evS_par] at h
  refine ⟨w, k, h.bind.mono (fun rs st q vs H1 p => ?_) (fun _ _ _ z => z)⟩
  obtain ⟨z, ez, q⟩ := Rp.opt (Rp.bind q)
  obtain ⟨w1, e1, k1, s1, _, al, hn⟩ := p
  subst e1
  match rs, ez with
  | [], ez => cases ez
  | [_], ez => cases ez
  | _ :: _ :: _ :: _, ez => cases ez
  | [r1, r2], ez =>
    cases ez
    have hl := al.length
    match vs, hl with
    | [v1, v2], _ =>
      obtain ⟨w2, e2, k2, s2, al2, hn2⟩ := put_one k1 s1 al hn i mi
      obtain ⟨w3, e3, k3, s3, _, _⟩ := put_one k2 s2 al2 hn2 j mj
      refine ⟨v1, v2, rfl, q _ _ ⟨w3, ?_, k3, s3⟩⟩
      have es2 : w2.s = PC.put i mi r1 w1.s := congrArg PC.St.s e2
      have eg2 : w2.g = w1.g := congrArg PC.St.g e2
      rw [e3, es2, eg2]
theorem ps_par3C (hc : X.calm = true) (hN : X.N.Nodup) {i j l : Nat} {mi mj ml : Bool} {x y z : Str} {a b c : Expr} {ca cb cc : E} {px py pz pt pos : Pos} {kt k2 : Nat} {pt2 : Pos} (hi : X.N[i]? = some x) (hj : X.N[j]? = some y) (hl : X.N[l]? = some z) (hij : i ≠ j) (hil : i ≠ l) (hjl : j ≠ l)
    (hx : X.env.scope.names.lookup x = some .local) (hy : X.env.scope.names.lookup y = some .local) (hz : X.env.scope.names.lookup z = some .local) (ha : PA X [a, b, c] (tAs T G cf th none [ca, cb, cc]))
    (hw : swappedStores [.Tuple [.Name x px, .Name y py, .Name z pz] kt pt] (.Tuple [a, b, c] k2 pt2) X.env = pure (some [x, y, z])) :
    PS X (.Assign [.Tuple [.Name x px, .Name y py, .Name z pz] kt pt] (.Tuple [a, b, c] k2 pt2) pos) (tS T G cf th (.par [(i, mi), (j, mj), (l, ml)] [ca, cb, cc])) := by
  refine psImp (ps_par3 hc hN hi hj hl hij hil hjl hx hy hz ha hw (swap_tup _ _)) fun D σ H ⟨w, k, h⟩ => ?_
  rw [evS_par] at h
  refine ⟨w, k, h.bind.mono (fun rs st q vs H1 p => ?_) (fun _ _ _ z => z)⟩
  obtain ⟨z, ez, q⟩ := Rp.opt (Rp.bind q)
  obtain ⟨w1, e1, k1, s1, _, al, hn⟩ := p
  subst e1
  match rs, ez with
  | [], ez => cases ez
  | [_], ez => cases ez
  | [_, _], ez => cases ez
  | _ :: _ :: _ :: _ :: _, ez => cases ez
  | [r1, r2, r3], ez =>
    cases ez
    have hl := al.length
    match vs, hl with
    | [v1, v2, v3], _ =>
      obtain ⟨w2, e2, k2, s2, al2, hn2⟩ := put_one k1 s1 al hn i mi
      obtain ⟨w3, e3, k3, s3, al3, hn3⟩ := put_one k2 s2 al2 hn2 j mj
      obtain ⟨w4, e4, k4, s4, _, _⟩ := put_one k3 s3 al3 hn3 l ml
      refine ⟨v1, v2, v3, rfl, q _ _ ⟨w4, ?_, k4, s4⟩⟩
      have es2 : w2.s = PC.put i mi r1 w1.s := congrArg PC.St.s e2
      have eg2 : w2.g = w1.g := congrArg PC.St.g e2
      have es3 : w3.s = PC.put j mj r2 w2.s := congrArg PC.St.s e3
      have eg3 : w3.g = w2.g := congrArg PC.St.g e3
      rw [e4, es3, eg3, es2, eg2]
/-! ### {} -/
theorem pe_dct0 {W : Option WX} {pos : Pos} : PE X (.Dict [] [] pos) (tE T G cf th W (.dct [])) := by
  refine peImp pe_dnewK fun σ H Q ⟨w, k, h⟩ p hp => ?_
  simp only [PC.evE, PC.evL] at h
  have h : ∀ v H', EP T w σ H _ (.dct [], true) w.st v H' → Q v H' := h
  have kp := Keep.new (o := .dK []) hp
  have f := k.free_none hp
  exact h _ _ ⟨w, rfl, k.grow kp, .grow kp, fun _ => (KO.refl k).grow k kp, (fun z => by cases z), fun _ => ⟨p, rfl, hp, ⟨f.f, f.i, f.o⟩, .inl ⟨_, upd_same, .nil⟩⟩⟩
end
end Br
end

section
set_option Elab.async false
set_option linter.all false
set_option maxRecDepth 100000
set_option maxHeartbeats 1000000
/-! Br30: methods of texts and lists. -/
namespace Br
open PySem PySem.Spec PySem.Calls PyProof.Rows L2
open PC (D E S Sl Cl Sg Gs Rs Re)

section
variable {X : Cx} {T : Tb} {G : PC.Gl} {cf : PC.CF} {th : Option (Gs → Re)} {W : Option WX} {w w1 w2 w3 w4 : Wd} {σ σ0 σ1 σ2 : L2.St} {H H1 H2 H3 H' : Hp} {D : Ends} {a : Addr} {o : HO}
theorem evE_bm1 {m : PC.Bm} (hm : PC.isMut m = false) (o e : E) (s : PC.St) : PC.evE G cf th (.bm m o [e]) s = (PC.lk (PC.quiet e) o s (PC.evE G cf th o s)).bind fun x s1 => (PC.lk true e s1 (PC.evE G cf th e s1)).bind fun y s2 => PC.opt (PC.bmD m (PC.drf s2.g x.1) [y.1]) s2 := by
  simp only [PC.evE, hm, PC.quietL, Bool.and_true]
  all_goals rfl
theorem evE_bmL {m : PC.Bm} (hm : PC.isMut m = false) (o : E) {es : List E} (h : es.length ≠ 1) (s : PC.St) : PC.evE G cf th (.bm m o es) s = (PC.lk (PC.quietL es) o s (PC.evE G cf th o s)).bind fun x s1 => (PC.evL G cf th es s1).bind fun xs s2 => PC.opt (PC.bmD m (PC.drf s2.g x.1) (xs.map (·.1))) s2 := by
  match es, h with
  | [], _ => simp only [PC.evE, hm]; rfl
  | _ :: _ :: _, _ => simp only [PC.evE, hm]; rfl
theorem drf_str {g : Gs} {d : PC.D} {x : List Nat} (h : PC.drf g d = .str x) : d = .str x := by
  unfold PC.drf at h
  split at h
  · split at h <;> cases h
  · exact h
/-- methods of texts -/
def strM (m : PC.Bm) : Prop := ∀ d xs r, PC.bmD m d xs = some r → ∃ x, d = .str x
theorem strM_split : strM .split := fun d xs r h => by
  cases d with
  | str x => exact ⟨x, rfl⟩
  | _ => unfold PC.bmD at h; split at h <;> first | contradiction | cases h
theorem strM_join : strM .join := fun d xs r h => by
  cases d with
  | str x => exact ⟨x, rfl⟩
  | _ => unfold PC.bmD at h; split at h <;> first | contradiction | cases h
theorem strM_replace : strM .replace := fun d xs r h => by
  cases d with
  | str x => exact ⟨x, rfl⟩
  | _ => unfold PC.bmD at h; split at h <;> first | contradiction | cases h
theorem strM_upper : strM .upper := fun d xs r h => by
  cases d with
  | str x => exact ⟨x, rfl⟩
  | _ => unfold PC.bmD at h; split at h <;> first | contradiction | cases h
/-- a text's method of one value -/
theorem str1_of {m : PC.Bm} (hs : strM m) (hm : PC.isMut m = false) {co ce : E} {Q : VK} (h : tE T G cf th none (.bm m co [ce]) σ H Q) :
    tL T G cf th none (PC.quiet ce) co σ H fun x H1 => (∃ a, x = .str a) ∧ tL T G cf th none true ce σ H1 fun y H2 => ∃ (w : Wd) (σ0 : L2.St) (a : Str) (d : PC.D) (rd : PC.D × Bool), x = .str a ∧ Ok T w σ0 H2 ∧ ((∀ n, d ≠ .cell n) → Cnt T w H2 y d) ∧ PC.bmD m (.str a.cps.toList) [d] = some rd ∧ ∀ v H', RN T w H2 rd v H' → Q v H' := by
  obtain ⟨w, k, h⟩ := h
  rw [evE_bm1 hm] at h
  refine ⟨w, k, h.bind.mono (fun r st y v H1 p => ?_) (fun _ _ _ z => z)⟩
  obtain ⟨w1, e1, k1, s1, q1, op, _⟩ := p
  subst e1
  obtain ⟨d0, b0⟩ := r
  have hd : ∃ x, d0 = .str x := by
    refine Classical.byContradiction fun no => rp_false (y.bind.mono (fun r2 st2 z => ?_) fun C fs st2 z => z)
    obtain ⟨rd, e, _⟩ := Rp.opt z
    obtain ⟨x, ex⟩ := hs _ _ _ e
    exact no ⟨x, drf_str ex⟩
  obtain ⟨x, rfl⟩ := hd
  have ra : ∃ a : Str, v = .str a ∧ a.cps.toList = x := by
    rcases op with r | ⟨_, _, _, c⟩ | ⟨_, _, _, _, c⟩
    · cases r; exact ⟨_, rfl, rfl⟩
    · exact c.elim
    · exact c.elim
  obtain ⟨a, rfl, rfl⟩ := ra
  refine ⟨⟨a, rfl⟩, w1, k1, y.bind.mono (fun r2 st2 z u H2 p2 => ?_) (fun C fs st z => z)⟩
  obtain ⟨w2, e2, k2, s2, q2, op2, _⟩ := p2
  subst e2
  obtain ⟨rd, e, z⟩ := Rp.opt z
  have hq : ∀ z, PC.quiet (.bm m co [ce]) = z → z = true → PC.quiet co = true ∧ PC.quiet ce = true := fun z e h => by
    subst h
    simp only [PC.quiet, PC.quietL, Bool.and_true, Bool.and_eq_true] at e
    exact ⟨e.1.2, e.2⟩
  have hc : (∀ n, r2.1 ≠ .cell n) → Cnt T w2 H2 u r2.1 := fun no => by
    have q := op2.cnt k2
    rwa [show PC.drf w2.g r2.1 = r2.1 from by
      cases hz : r2.1 <;> first | rfl | exact absurd hz (no _)] at q
  refine ⟨w2, σ, a, r2.1, rd, rfl, k2, hc, e, fun v H' rn => z v H' ?_⟩
  exact RN.ep k k2 (s1.trans k1 s2) (fun y => by
    obtain ⟨y1, y2⟩ := hq _ rfl y
    exact (q1 y1).trans k k2 s2 (q2 y2)) rn
/-! ### split -/
theorem splS_eq (S : List Nat) : ∀ (k : Nat) (acc l : List Nat), PC.splS S k acc l = TL.spl S k acc l
  | k, acc, [] => by cases k <;> rfl
  | 0, acc, c :: r => by
    unfold PC.splS TL.spl
    rw [splS_eq S _ _ r, splS_eq S _ _ r]
    rfl
  | k + 1, acc, c :: r => by
    unfold PC.splS TL.spl
    exact splS_eq S k acc r
theorem reps_strs {ι : List Addr} {F : Hp} : ∀ ys : List Str, Reps T ι F (ys.map V.str) ((ys.map TL.tl).map PC.D.str)
  | [] => .nil
  | y :: ys => .cons (.str y) (reps_strs ys)
theorem pe_splitC {ob e : Expr} {co ce : E} {ap pos : Pos} (ho : PE X ob (tL T G cf th none (PC.quiet ce) co)) (he : PE X e (tL T G cf th none true ce)) (hs : nSt e = true) (hb : pBase ob = true) (hl : (ap.endLine == pos.line) = true) :
    PE X (.Call (.Attribute ob "split" ap) [e] [] pos) (tE T G cf th none (.bm .split co [ce])) := by
  refine peImp (pe_split ho he (by rw [star_ne hs]; rfl) (base_ne hb _ _ _) hl) fun σ H Q h => ?_
  obtain ⟨w, k, h⟩ := str1_of strM_split rfl h
  refine ⟨w, k, h.mono (fun r st y v H1 p => ?_) (fun _ _ _ z => z)⟩
  obtain ⟨ha, w1, k1, y⟩ := y v H1 p
  refine ⟨ha, w1, k1, y.mono (fun r st y u H2 p => ?_) (fun _ _ _ z => z)⟩
  obtain ⟨w2, σ0, a, d, rd, rfl, k2, c, e, go⟩ := y u H2 p
  unfold PC.bmD at e
  cases d with
  | str s =>
    dsimp only at e
    split at e
    · rename_i hc
      obtain ⟨hc, h3⟩ := qAnd hc
      obtain ⟨h1, h2⟩ := qAnd hc
      obtain ⟨_, rfl⟩ := mkL_eq e
      have c := c (fun _ z => by cases z)
      cases c with
      | str b =>
        have hb1 : TL.tl b ≠ [] := fun z => by
          have z : b.cps.toList = [] := z
          rw [z] at h1
          cases h1
        have hk : b.cps.all (· < 256) = true := by
          rw [Array.all_eq_true']
          intro x hx
          have := List.all_eq_true.mp h2 x (by simpa using hx)
          simpa using this
        have h3 : a.cps.toList.length + 2 ≤ sizeLine := big_le (of_decide_eq_true h3)
        refine ⟨a, b, rfl, rfl, ?_, by rw [len_str]; exact h3, fun p hp => ?_⟩
        · rw [len_str]
          cases hz : b.cps.toList with
          | nil => exact absurd hz hb1
          | cons _ _ => rfl
        · refine go _ _ (RN.lst hp ?_)
          have es : PC.splitL b.cps.toList a.cps.toList = (Txt.split a b).map TL.tl := by
            rw [TL.split_spl a b hb1 (TL.kind_ok hk)]
            exact splS_eq _ _ _ _
          rw [es]
          exact reps_strs _
    · cases e
  | _ => cases e
/-! ### join -/
theorem joinL_eq (S : List Nat) : ∀ l : List (List Nat), PC.joinL S l = TL.joinL S l
  | [] => rfl
  | [_] => rfl
  | p :: q :: r => by
    unfold PC.joinL TL.joinL
    rw [joinL_eq S (q :: r)]
theorem strs_rep {ι : List Addr} {F : Hp} : ∀ {vs : List V} {ds : List PC.D} {ts : List (List Nat)}, Reps T ι F vs ds → PC.strsO ds = some ts → ∃ ys : List Str, vs = ys.map V.str ∧ ys.map TL.tl = ts
  | _, _, _, .nil, h => by
    cases h
    exact ⟨[], rfl, rfl⟩
  | _, _, _, .cons (d := d) r t, h => by
    unfold PC.strsO at h
    split at h
    · rename_i e; cases e
    · rename_i x r' e
      cases e
      obtain ⟨ts, e1, rfl⟩ := Option.map_eq_some_iff.mp h
      obtain ⟨ys, rfl, rfl⟩ := strs_rep t e1
      cases r with
      | str y => exact ⟨y :: ys, rfl, rfl⟩
    · cases h
theorem pe_joinC (hK : T.K = X.K) {ob e : Expr} {co ce : E} {ap pos : Pos} (ho : PE X ob (tL T G cf th none (PC.quiet ce) co)) (he : PE X e (tL T G cf th none true ce)) (hs : nSt e = true) (hb : pBase ob = true) (hl : (ap.endLine == pos.line) = true) :
    PE X (.Call (.Attribute ob "join" ap) [e] [] pos) (tE T G cf th none (.bm .join co [ce])) := by
  refine peImp (pe_join ho he (by rw [star_ne hs]; rfl) (base_ne hb _ _ _) hl) fun σ H Q h => ?_
  obtain ⟨w, k, h⟩ := str1_of strM_join rfl h
  refine ⟨w, k, h.mono (fun r st y v H1 p => ?_) (fun _ _ _ z => z)⟩
  obtain ⟨ha, w1, k1, y⟩ := y v H1 p
  refine ⟨ha, w1, k1, y.mono (fun r st y u H2 p => ?_) (fun _ _ _ z => z)⟩
  obtain ⟨w2, σ0, a, d, rd, rfl, k2, c, e, go⟩ := y u H2 p
  have fin : ∀ (p : Addr) (vs : List V) (ds : List PC.D), u = .ref p → (SqL X.K H2 p vs ∨ SqT X.K H2 p vs) → Reps T w2.ι w2.F vs ds →
      ((PC.strsO ds).bind fun ts => if (ts.map List.length).sum + ts.length * a.cps.toList.length ≤ PC.big then some (PC.D.str (PC.joinL a.cps.toList ts), false) else none) = some rd → ∃ (a' : Str) (p : Addr) (ys : List Str), V.str a = .str a' ∧ [u] = [.ref p] ∧ (SqL X.K H2 p (ys.map V.str) ∨ SqT X.K H2 p (ys.map V.str)) ∧ (ys.map (·.length)).sum + ys.length * a'.length ≤ 16777216 ∧ Q (.str (Txt.join a' ys)) H2 := fun p vs ds eu sq rs e => by
    obtain ⟨ts, et, e⟩ := Option.bind_eq_some_iff.mp e
    obtain ⟨ys, rfl, rfl⟩ := strs_rep rs et
    split at e
    · rename_i hz
      cases e
      have e1 : ((ys.map TL.tl).map List.length) = ys.map (·.length) := by
        rw [List.map_map]
        exact List.map_congr_left fun y _ => (len_str y).symm
      rw [e1, List.length_map, ← len_str] at hz
      refine ⟨a, p, ys, rfl, by rw [eu], sq, hz, go _ _ (RN.rep (rep_str ?_))⟩
      rw [TL.join_eq, joinL_eq]
      exact TL.tl_join a ys
    · cases e
  cases d with
  | lst ds =>
    obtain ⟨pa, vs, rfl, hp, rs⟩ := c (fun _ z => by cases z)
    exact fin pa vs ds rfl (.inl (.inl (.of hp))) rs e
  | tup ds =>
    obtain ⟨pa, vs, rfl, hp, rs⟩ := c (fun _ z => by cases z)
    exact fin pa vs ds rfl (.inr (hp.sq hK k2)) rs e
  | _ => cases e
/-! ### append -/
theorem evE_app (i : Nat) (es : List E) (s : PC.St) : PC.evE G cf th (.bm .append (.v i) es) s = if !PC.isLs s i then .no else (PC.evL G cf th es s).bind fun xs s1 => (match s1.s[i]? with
        | some (.ow d) => (PC.opt (PC.mutD .append d (xs.map (·.1))) s1).bind fun r s2 => .ok (r.2, false) ⟨s2.s.set i (.ow r.1), s2.g⟩
        | some (.va (.cell n)) => (match s1.g[n]? with
          | some (.ref l) => (PC.opt (PC.mutD .append (.lst l) (xs.map (·.1))) s1).bind fun r s2 => (match r.1 with
            | .lst l2 => .ok (r.2, false) ⟨s2.s, s2.g.set n (.ref l2)⟩
            | _ => .no)
          | _ => .no)
        | _ => .no) := by
  simp only [PC.evE, PC.isMut]
  all_goals rfl
theorem ls_at (k : Ok T w σ H) {i : Nat} (h : PC.isLs w.st i = true) : ∃ a vs, σ[i]? = some (some (.ref a)) ∧ H a = some (.lst vs) := by
  unfold PC.isLs at h
  split at h
  · rename_i l e
    obtain ⟨a, h1, _, _, vs, hv, _⟩ := k.ow i _ e
    exact ⟨a, vs, h1, hv⟩
  · rename_i n e
    split at h
    · rename_i xs eg
      obtain ⟨v, h1, r⟩ := k.va i _ e
      cases r with
      | @cell n a hn =>
        obtain ⟨_, vs, hv, _⟩ := k.cel n a _ hn eg
        exact ⟨a, vs, h1, hv⟩
    · cases h
  · cases h
theorem mut_app {d : PC.D} {xs : List PC.D} {r : PC.D × PC.D} (h : PC.mutD .append d xs = some r) : ∃ l x, d = .lst l ∧ xs = [x] ∧ l.length < PC.big ∧ r = (.lst (l ++ [x]), .non) := by
  cases d with
  | lst l =>
    match xs, h with
    | [x], h =>
      have h : (if l.length < PC.big then some (PC.D.lst (l ++ [x]), PC.D.non) else none) = some r := h
      split at h
      · rename_i hz
        cases h
        exact ⟨l, x, rfl, rfl, hz, rfl⟩
      · cases h
    | [], h => cases h
    | _ :: _ :: _, h => cases h
  | _ => unfold PC.mutD at h; split at h <;> first | contradiction | cases h
theorem pe_appC {i : Nat} {x : Str} {p ap pos : Pos} {e : Expr} {c : E} (hi : X.N[i]? = some x) (hv : Vis X.env.scope x) (hd : (x == ("__debug__" : Str)) = false) (hcd : (x == ("__classdict__" : Str)) = false)
    (hc : ∀ a, c ≠ .star a) (he : PE X e (tE T G cf th none c)) (hs : nSt e = true) (hl : (ap.endLine == pos.line) = true) :
    PE X (.Call (.Attribute (.Name x p) "append" ap) [e] [] pos) (tE T G cf th none (.bm .append (.v i) [c])) := by
  have hst : [e].all nSt = true := by simp [hs]
  refine peImp (pe_bm PySem.F.plainAttrs_list PySem.F.slot_list_append PySem.F.type_list_append mt_append (pe_var hi hv hd hcd) (pa_consC hc he pa_nilC (by rw [star_ne hs])) (base_ne (o := .Name x p) rfl _ _ _) (few_no hst (by show 1 < 29; decide)) hl (star_ne hs _ _) rfl) fun σ H Q ⟨w, k, h⟩ => ?_
  rw [evE_app] at h
  split at h
  · exact h.elim
  rename_i hls
  have hls : PC.isLs w.st i = true := by simpa using hls
  obtain ⟨a, vs0, ha, hva⟩ := ls_at k hls
  refine ⟨_, ha, Or.inl ⟨rfl, _, Or.inl (Or.inl hva)⟩, w, k, h.bind.mono (fun xs st y us H1 p => ?_) (fun _ _ _ z => z)⟩
  obtain ⟨w1, e1, k1, s1, q1, rs⟩ := p.known
  subst e1
  cases es : w1.s[i]? with
  | none => simp only [es] at y; exact y.elim
  | some sl =>
    simp only [es] at y
    have hq : ∀ {b : Bool}, PC.quiet (.bm .append (.v i) [c]) = true → b = true := fun z => by simp [PC.quiet, PC.isMut] at z
    cases sl with
    | un => exact y.elim
    | ow d =>
      obtain ⟨rr, er, y⟩ := Rp.opt (Rp.bind y)
      obtain ⟨a', ha', hF, hi', cc⟩ := k1.ow i d es
      rw [ha] at ha'
      cases ha'
      obtain ⟨l, x, rfl, hx, hz, rfl⟩ := mut_app er
      rw [hx] at rs
      cases rs with
      | cons r t =>
        cases t
        obtain ⟨vs, hvs, rl⟩ := cc
        obtain ⟨k2, s2⟩ := k1.chg (d' := .lst (l ++ [x])) (o := .lst (vs ++ [_])) es ha ⟨_, upd_same, rl.append (.cons r .nil)⟩
        refine ⟨a, vs, _, rfl, rfl, hvs, by rw [rl.length, ← big_eq]; exact hz, y _ _ ⟨_, rfl, k2, s1.trans k1 s2, fun z => ?_, fun _ => .non, fun z => by cases z⟩⟩
        exact Bool.noConfusion (hq (b := false) z)
    | va d =>
      cases d with
      | cell n =>
        dsimp only at y
        cases eg : w1.g[n]? with
        | none => simp only [eg] at y; exact y.elim
        | some cl =>
          simp only [eg] at y
          cases cl with
          | inst C fs => exact y.elim
          | ref l =>
            obtain ⟨rr, er, y⟩ := Rp.opt (Rp.bind y)
            obtain ⟨v1, ha1, r1⟩ := k1.va i _ es
            cases r1 with
            | @cell n a1 hn =>
              rw [ha] at ha1
              cases ha1
              obtain ⟨l', x, el, hx, hz, rfl⟩ := mut_app er
              cases el
              rw [hx] at rs
              cases rs with
              | cons r t =>
                cases t
                obtain ⟨hF, vs, hvs, rl⟩ := k1.cel n a _ hn eg
                obtain ⟨k2, s2, _⟩ := k1.chgC (c' := .ref (l ++ [x])) (o := .lst (vs ++ [_])) hn eg ⟨_, upd_same, rl.append (.cons r .nil)⟩
                refine ⟨a, vs, _, rfl, rfl, hvs, by rw [rl.length, ← big_eq]; exact hz, y _ _ ⟨_, rfl, k2, s1.trans k1 s2, fun z => ?_, fun _ => .non, fun z => by cases z⟩⟩
                exact Bool.noConfusion (hq (b := false) z)
      | _ => exact y.elim
end
end Br
end

section
set_option Elab.async false
set_option linter.all false
set_option maxRecDepth 100000
set_option maxHeartbeats 1000000
/-! Br31: dict comprehensions, keys of any kind. -/
namespace Br
open PySem PySem.Spec PySem.Calls PyProof.Rows L2
open PC (D E S Sl Cl Sg Gs Rs Re)

section
variable {X : Cx} {pins : List (Addr × Obj)} {σ : L2.St} {H : Hp} {s : Shared} {a : Addr}
/-- an empty dict is one of the other kind, too -/
theorem dct_kind (I : Inv X pins σ H s) (h : H a = some (.dK []) ∨ H a = some (.dT [])) : Inv X pins σ (upd H a (.dT [])) s ∧ Inv X pins σ (upd H a (.dK [])) s := by
  have en : (a == sysModules) = false ∧ DEnt s.heap a 0 := by
    rcases h with h | h
    · exact len_entries (I.hok a _ h)
    · exact len_entriesT (I.hok a _ h)
  obtain ⟨hd, en⟩ := en
  have mu : Mut (H a) := by rcases h with h | h <;> (rw [h]; trivial)
  constructor
  · refine I.write (t' := s.toks) (h' := s.heap) (x := a) (e := a) mu (.inl rfl) (fun _ _ _ z => z) ⟨_, en.choose_spec.choose_spec.choose_spec.1⟩ ?_
    obtain ⟨ob, es, ep, g, ex, e, z⟩ := en
    have e0 : es = #[] := Array.eq_empty_of_size_eq_zero z
    subst e0
    exact ⟨Nat.zero_le _, hd, [], .nil, ob, #[], ep, g, ex, e, rfl, List.nodup_nil⟩
  · refine I.write (t' := s.toks) (h' := s.heap) (x := a) (e := a) mu (.inl rfl) (fun _ _ _ z => z) ⟨_, en.choose_spec.choose_spec.choose_spec.1⟩ ?_
    exact ⟨Nat.zero_le _, hd, [], .nil, en.mapK⟩
theorem dset_t (hu : X.A.units + 1 < cLine) {es : List (List Key × V)} {k : List Key} {b : Addr} {v : V} {r : Value} {E : Value → Shared → Prop} {Q : Unit → Shared → Prop} (I : Inv X pins σ H s) (ha : H a = some (.dT es)) (hb : H b = some (.tup (k.map kV))) (hz : es.length < sizeLine)
    (rv : RelV v r) (go : ∀ t, Inv X pins σ (upd H a (.dT (putK es k v))) t → Q () t) : wpAny (model X.prog X.w) X.A (dictSet a (.ref b) r) Q E s := by
  obtain ⟨_, hd, xs, rel, dd⟩ := dt_of I.hok ha
  have l1 : xs.length ≤ sizeLine := by
    rw [← Paired.length rel]
    exact Nat.le_of_lt hz
  have l2 : (putK es k v).length ≤ sizeLine := by
    have := length_putK es k v
    omega
  refine wpAny_dictSet_heap (hsz := l1) (show X.A.units < cLine by omega) (L2.key_of I.hok hb) dd fun h2 d2 same => go _ ?_
  · obtain ⟨q, es2, ep, hq, p2, p3, p4, _, p5⟩ := d2
    have mu : Mut (H a) := by rw [ha]; trivial
    refine d_write I mu same ⟨q, hq⟩ ⟨l2, hd, _, (rel.put k hb rv).keeps fun c ys ec => ?_, q, es2, ep, hq, p2, p3, p4, p5⟩
    rw [L2.upd_ne fun z => by rw [z, ha] at ec; cases ec]
    exact ec
theorem dset_0 (hu : X.A.units + 1 < cLine) {y v : V} {u r : Value} {H' : Hp} {E : Value → Shared → Prop} {Q : Unit → Shared → Prop} (I : Inv X pins σ H s) (g : DPut0 H a y v H') (ry : RelV y u) (rv : RelV v r) (go : ∀ t, Inv X pins σ H' t → Q () t) :
    wpAny (model X.prog X.w) X.A (dictSet a u r) Q E s := by
  have z0 : 0 < sizeLine := by rw [sizeLine_eq]; decide
  rcases g with (⟨es, k, e, rfl, l, rfl⟩ | ⟨es, k, b, e, rfl, eb, l, rfl⟩) | ⟨ha, k, b, rfl, hb, rfl⟩ | ⟨ha, k, rfl, rfl⟩
  · exact d_dictSet I e l ry rv go
  · cases (show u = Value.ref b from ry)
    exact dset_t hu I e eb l rv go
  · cases (show u = Value.ref b from ry)
    have hb1 : upd H a (.dT []) b = some (.tup (k.map kV)) := by
      rw [L2.upd_ne fun z => by rw [z, ha] at hb; cases hb]
      exact hb
    refine dset_t hu (dct_kind I (.inl ha)).1 upd_same hb1 z0 rv fun t I2 => go t ?_
    rw [upd_twice] at I2
    exact I2
  · refine d_dictSet (dct_kind I (.inr ha)).2 upd_same z0 ry rv fun t I2 => go t ?_
    rw [upd_twice] at I2
    exact I2
/-- {k: v for target in iter if ..}: the new dict may turn to the other kind -/
def tDcO (wi : TI) (g : TG) (tt : TT) (tk tv : TE) (vs : List Nat) : TE := fun σ H Q => wi σ H fun J H1 => ∀ nd, H1 nd = none → ∃ W : Nat → Nat → Hp → Prop, (∃ m, W 0 m (upd H1 nd (.dK []))) ∧ ∀ i m H, W i m H →
  (J.stop i H ∧ Q (.ref nd) H) ∨ (J.go i H ∧ ∃ Nx : Hp → Prop, (∀ H', Nx H' → ∃ m', m' < m ∧ W (i + 1) m' H') ∧ ∀ x H', J.yld i H x H' → g x (wipe σ vs) H' fun σ2 H2 => wipe σ2 vs = wipe σ vs ∧ tt σ2 H2 fun b H3 =>
    if b = true then tk σ2 H3 fun y H4 => tv σ2 H4 fun z H5 => ∃ H6, DPut0 H5 nd y z H6 ∧ Nx H6 else Nx H3)
/-- a rule of the block's parts, in the block's own context -/
abbrev InBlk (X : Cx) (scope : Scope) (P : Cx → Prop) : Prop := ∀ (s : Shared) (H : Hp) (C : Addr) (cl : List (Str × Addr)) (fp : List Addr), P (X.blk s H scope (compEnvC scope cl C X.env) fp)
theorem pe_dcO (hu : X.A.units + 1 < cLine) {kx vx tg iter : Expr} {ifs : List Expr} {scope : Scope} {own : List (Str × Nat)} {pos : Pos} {wi : TI} {g : TG} {tt : TT} {tk tv : TE} (hc : X.calm = true) (hN : X.N.Nodup) (hi : PI X tg iter wi) (ok : BlkOk X.N X.env.scope scope own)
    (hg : InBlk X scope fun Y => PG Y tg g) (ht : InBlk X scope fun Y => PTs Y ifs tt) (hk : InBlk X scope fun Y => PE Y kx tk) (he : InBlk X scope fun Y => PE Y vx tv) (hs : ∀ x, foldedSetIterable iter X.env x = pure x) :
    PE X (.DictComp kx vx [⟨tg, iter, ifs, 0⟩] scope pos) (tDcO wi g tt tk tv (own.map (·.2))) := by
  refine ⟨fun pins s σ H Q I h => ?_⟩
  rw [arm_eval_DictComp]
  have caught : ∀ p ∈ scope.names, p.2 = .free → ∃ c, X.env.cells.lookup p.1 = some c := fun p hp e => (ok.free p hp e).elim (fun k => I.ok.has _ (.inl k)) fun k => I.ok.has _ (.inr k)
  refine wpAny_comprehension_free (use := none) rfl hs (closure_ok caught) ok.kind (fun p hp e => by rw [ok.uniq p hp, e]) ?_
  refine thn (hi.run pins s σ H _ I h) fun xv s1 hx => thn hx fun itv t2 w2 => ?_
  obtain ⟨it, ps, tn, J, H2, rfl, I2, T, at0, f2, q⟩ := w2
  refine wpAny_newObj_type (newEnv_comp ?_)
  generalize en : t2.heap.objs.size = nd
  have fresh : H2 nd = none := I2.hok.fresh (Nat.le_of_eq en)
  obtain ⟨W, ⟨m0, w0⟩, turn⟩ := q nd fresh
  generalize e3 : ({ t2 with heap := t2.heap.push { cls := .type "dict", data := .dict #[] } } : Shared) = t3
  have I3 : Inv X pins σ (upd H2 nd (.dK [])) t3 := by
    rw [← e3]
    refine I2.laid (t' := t2.toks) (fun b o e => Heap.get?_push_of_some _ e) (Nat.le_of_eq en) ?_
    rw [← en]
    exact dk_empty t2.heap I2.big
  have hp3 : t3.heap = t2.heap.push { cls := .type "dict", data := .dict #[] } := by rw [← e3]
  have f3 : ∀ b ∈ ps, FpOk X pins (upd H2 nd (.dK [])) b ∧ b < t3.heap.objs.size := fun b hb => by
    obtain ⟨ob, eo, _⟩ := T.obj _ _ at0 b hb
    have lt := Heap.lt_size eo
    have z := f2 b hb
    refine ⟨⟨?_, z.2⟩, by rw [hp3, Heap.size_push]; exact Nat.lt_succ_of_lt lt⟩
    rw [L2.upd_ne fun y => by rw [y, ← en] at lt; exact Nat.lt_irrefl _ lt]
    exact z.1
  have at3 : tn 0 t3.heap := T.keep _ _ _ at0 fun b _ ob e => by rw [hp3]; exact Heap.get?_push_of_some _ e
  have I4 := block_start I3 ok hN f3
  show codeAny _ _ (.compStart (.DictComp kx vx [⟨tg, iter, ifs, 0⟩] scope pos) 0 (.ref it) (.ref nd) (compEnvC scope (cellsFrom (t3.heap.objs.size + 1) scope.names (cloFrom X.env.cells scope.names [])) t3.heap.objs.size X.env)) (compPost (model X.prog X.w) X.A X.xe none _ (.ref nd) t3.heap.objs.size) { t3 with heap := pushCells (t3.heap.push { cls := .type "dict", data := .dict #[] }) scope.names }
  have parts := And.intro (hg t3 (upd H2 nd (.dK [])) t3.heap.objs.size (cellsFrom (t3.heap.objs.size + 1) scope.names (cloFrom X.env.cells scope.names [])) ps) (And.intro (ht t3 (upd H2 nd (.dK [])) t3.heap.objs.size (cellsFrom (t3.heap.objs.size + 1) scope.names (cloFrom X.env.cells scope.names [])) ps)
    (And.intro (hk t3 (upd H2 nd (.dK [])) t3.heap.objs.size (cellsFrom (t3.heap.objs.size + 1) scope.names (cloFrom X.env.cells scope.names [])) ps) (he t3 (upd H2 nd (.dK [])) t3.heap.objs.size (cellsFrom (t3.heap.objs.size + 1) scope.names (cloFrom X.env.cells scope.names [])) ps)))
  have none3 : ∀ b ∈ ps, (upd H2 nd (.dK [])) b = none := fun b hb => (f3 b hb).1.1
  generalize ec : compEnvC scope (cellsFrom (t3.heap.objs.size + 1) scope.names (cloFrom X.env.cells scope.names [])) t3.heap.objs.size X.env = ce at I4 parts ⊢
  obtain ⟨pg, pt, pk, pv⟩ := parts
  have locals : ce.locals = t3.heap.objs.size := by
    rw [← ec]
    rfl
  generalize eH : upd H2 nd (.dK []) = H3 at I3 I4 pg pt pk pv w0 none3 f3
  generalize e4 : ({ t3 with heap := pushCells (t3.heap.push { cls := .type "dict", data := .dict #[] }) scope.names } : Shared) = t4 at I4 ⊢
  have at4 : tn 0 t4.heap := T.keep _ _ _ at3 fun b _ ob e => by rw [← e4]; exact pushCells_keeps _ _ _ _ (Heap.get?_push_of_some _ e)
  have own4 : ∀ {σ' : L2.St} {H' : Hp} {s' : Shared}, Inv (X.blk t3 H3 scope ce ps) [] σ' H' s' → (∀ b ∈ ps, H' b = none) → ∀ b ∈ ps, FpOk (X.blk t3 H3 scope ce ps) [] H' b := fun {σ' H' s'} J' no b hb => by
    have z := J'.ok.exf b hb
    exact ⟨no b hb, z.1, J'.ok.exfs b hb, .inl hb, fun x c e => z.2 x c e, fun p hp => absurd (show p ∈ ([] : List (Addr × Obj)) ++ [] from hp) (by simp)⟩
  refine codeAny_compStart_dict ?_ (T.self X.A 0 _ _ _ at4 ?_)
  all_goals
    refine compLoop_anyD (fun n s' => ∃ i H', Inv (X.blk t3 H3 scope ce ps) [] (wipe σ (own.map (·.2))) H' s' ∧ tn i s'.heap ∧ (∀ b ∈ ps, H' b = none) ∧ W i n H') ?_ m0 ⟨0, H3, I4, at4, none3, w0⟩
    rintro n t5 ⟨i, H5, I5, at5, none5, w5⟩
    rcases turn i n H5 w5 with ⟨stop, fin⟩ | ⟨more, Nx, hNx, step⟩
    · refine thnF (T.done (X.blk t3 H3 scope ce ps) rfl rfl rfl hc i [] t5 _ H5 (fun _ _ => False) I5 (own4 I5 none5) at5 stop) fun r t6 ⟨hr, I6⟩ => ?_
      subst hr
      have I7 : Inv X pins σ H5 t6 := I3.call' (ch := ps) I6.os I6.base I6.hok I6.bare fun b hb => by
        have z := (f3 b hb).1.2
        exact ⟨z.2.2.1, z.1, z.2.2.2.1, z.2.2.2.2⟩
      have nC : H5 t3.heap.objs.size = none := by
        rw [← locals]
        exact I6.free
      obtain ⟨m, hn, _⟩ := I6.loc
      have hn : t6.heap.Ns ce.locals m := hn
      rw [locals] at hn
      refine ⟨m, hn, fun h'' sb => ?_⟩
      obtain ⟨g0, g1, g2, g3, g4, g5⟩ := I3.fpOk (Nat.le_refl _) nC
      exact ⟨.ref nd, H5, I7.turned (t' := t6.toks) (fun b o hb e => (sb.2 b hb).trans e) g0 g1 g3 g4 g5, rfl, fin⟩
    · refine thnF (T.item (X.blk t3 H3 scope ce ps) rfl rfl rfl hc i [] t5 _ H5 (fun _ _ => False) I5 (own4 I5 none5) at5 more) fun r t6 ⟨u, hr, w6⟩ => ?_
      subst hr
      refine thnF w6 fun _ t7 ⟨x, H7, I7, r7, y7, at7, none7⟩ => ?_
      refine thnF (pg.run _ t7 _ H7 x u _ (I7.pinned (own4 I7 none7) (T.obj _ _ at7)) r7 (step x H7 y7)) fun _ t8 ⟨σ8, H8, I8, hw8, q8⟩ => ?_
      refine thnF (pt.run _ t8 σ8 H8 _ I8 q8) fun b t9 ⟨H9, I9, q9⟩ => ?_
      have last : ∀ {s' : Shared} {H' : Hp}, Inv (X.blk t3 H3 scope ce ps) ([] ++ pinsAt ps t7.heap) σ8 H' s' → Nx H' → ∃ m, m < n ∧ ∃ i H', Inv (X.blk t3 H3 scope ce ps) [] (wipe σ (own.map (·.2))) H' s' ∧ tn i s'.heap ∧ (∀ b ∈ ps, H' b = none) ∧ W i m H' := fun {s' H'} J' nx => by
        obtain ⟨m', lt, w'⟩ := hNx H' nx
        have kept : ∀ b ∈ ps, ∀ ob, t7.heap.get? b = some ob → s'.heap.get? b = some ob ∧ H' b = none := fun b hb ob e => by
          have z := J'.pin (b, ob) (List.mem_append_right _ (List.mem_append_right _ (mem_pinsAt hb e)))
          exact ⟨z.1, z.2.1⟩
        refine ⟨m', lt, i + 1, H', (J'.unpinned (pins := [])).weak (by rw [← hw8, wipe_length]) (fun j v e => ?_), T.keep _ _ _ at7 fun b hb ob e => (kept b hb ob e).1, fun b hb => ?_, w'⟩
        · rw [← hw8] at e
          exact (wipe_some e).1
        · obtain ⟨ob, e, _⟩ := T.obj _ _ at7 b hb
          exact (kept b hb ob e).2
      cases b with
      | false =>
        rw [if_neg Bool.false_ne_true] at q9
        rw [if_neg Bool.false_ne_true]
        exact last I9 q9
      | true =>
        rw [if_pos rfl] at q9
        rw [if_pos rfl]
        refine thnF (pk.run _ t9 σ8 H9 _ I9 q9) fun zk t10 ⟨yk, H10, I10, r10, q10⟩ => ?_
        refine thnF (pv.run _ t10 σ8 H10 _ I10 q10) fun zv t11 ⟨yv, H11, I11, r11, H12, put, nx⟩ => ?_
        exact dset_0 (X := X.blk t3 H3 scope ce ps) hu I11 put r10 r11 fun t12 I12 => last I12 nx
end
end Br
end

section
set_option Elab.async false
set_option linter.all false
set_option maxRecDepth 100000
set_option maxHeartbeats 1000000
/-! Br32: dict comprehensions by the core. -/
namespace Br
open PySem PySem.Spec PySem.Calls PyProof.Rows L2
open PC (D E S Sl Cl Sg Gs Rs Re)

section
variable {X : Cx} {T : Tb} {G : PC.Gl} {cf : PC.CF} {th : Option (Gs → Re)} {w w1 w2 w3 w4 : Wd} {σ σ0 σ1 σ2 : L2.St} {H H1 H2 H3 H' : Hp} {D : Ends} {a : Addr} {o : HO}
def dcStep (G : PC.Gl) (cf : PC.CF) (th : Option (Gs → Re)) (ck e : E) (t : PC.T) (cs : List E) : PC.D → List (PC.D × PC.D) → PC.St → Rs (List (PC.D × PC.D)) := fun x acc s2 => (PC.opt (PC.bindT t x ⟨PC.wip (PC.ownT t) s2.s, s2.g⟩) s2).bind fun z _ => (PC.evA G cf th cs z).bind fun b s4 => if b then
          (PC.evE G cf th ck s4).bind fun y s5 => (PC.evE G cf th e s5).bind fun w s6 => (PC.opt (PC.setD (.dct acc) y.1 w.1) s6).bind fun d s7 => (match d with
            | .dct m => .ok m ⟨PC.back (PC.ownT t) s2.s s7.s, s7.g⟩
            | _ => .no)
        else .ok acc ⟨PC.back (PC.ownT t) s2.s s4.s, s4.g⟩
theorem evE_dc (ck e : E) (t : PC.T) (it : E) (cs : List E) (s : PC.St) : PC.evE G cf th (.dc ck e t it cs) s = ((PC.evE G cf th it s).bind fun r s1 => PC.opt (if PC.clr (PC.ownT t) s1.s then PC.walkI it r.1 else none) s1).bind fun xs s1' =>
    (PC.lcK (dcStep G cf th ck e t cs) xs [] s1').bind fun m s8 => .ok (.dct m, true) s8 := by
  simp only [PC.evE, bind_as]
  all_goals rfl
theorem set_dct {acc : List (PC.D × PC.D)} {y x z : PC.D} (h : PC.setD (.dct acc) y x = some z) : ∃ m, z = .dct m := by
  have h : (if (PC.keyFor acc y && PC.keyNew y && decide (acc.length < PC.big)) = true then some (PC.D.dct (PC.dPut acc y x)) else none) = some z := h
  split at h
  · cases h; exact ⟨_, rfl⟩
  · cases h
/-- a store into an empty or a filled dict, as the rule asks -/
theorem set_put (k : Ok T w σ H) {acc : List (PC.D × PC.D)} {kd xd z : PC.D} {iv v : V} (c : CtL T w.ι w.F H a (.dct acc)) (ri : Rep T w.ι w.F iv kd) (rv : Rep T w.ι w.F v xd) (h : PC.setD (.dct acc) kd xd = some z) :
    ∃ o, CtL T w.ι w.F (upd H a o) a z ∧ DPut0 H a iv v (upd H a o) := by
  obtain ⟨o, c2, go⟩ := set_read k c ri rv h
  refine ⟨o, c2, ?_⟩
  rcases go (fun H' => H' = upd H a o) rfl with ⟨p, xs, i, j, e1, _, e3, _⟩ | ⟨b, H', e1, g, e2⟩
  · cases e1
    rcases c with ⟨es, z, _⟩ | ⟨es, z, _⟩ <;> (rw [z] at e3; cases e3)
  · cases e1
    rw [e2] at g
    exact g
theorem dc_tail {J : It} {xs : List PC.D} {t : PC.T} {cs : List E} {ck e : E} {Q : VK} (src : Src T w1 σ H1 false J xs) (k1 : Ok T w1 σ H1) (hc : PC.clr (PC.ownT t) w1.s = true)
    (y : Rp ((PC.lcK (dcStep G cf th ck e t cs) xs [] w1.st).bind fun m s8 => .ok (PC.D.dct m, true) s8) (fun r st => ∀ v H', EP T w1 σ H1 false r st v H' → Q v H') noX) {p : Addr} (hp : H1 p = none) :
    ∃ W : Nat → Nat → Hp → Prop, (∃ m, W 0 m (upd H1 p (.dK []))) ∧ ∀ i m H, W i m H →
      (J.stop i H ∧ Q (.ref p) H) ∨ (J.go i H ∧ ∃ Nx : Hp → Prop, (∀ H', Nx H' → ∃ m', m' < m ∧ W (i + 1) m' H') ∧ ∀ x H', J.yld i H x H' → gD T t x (wipe σ (PC.ownT t)) H' fun σ2 H2 => wipe σ2 (PC.ownT t) = wipe σ (PC.ownT t) ∧ tCs T G cf th cs σ2 H2 fun b H3 =>
        if b = true then tE T G cf th none ck σ2 H3 fun y H4 => tE T G cf th none e σ2 H4 fun z H5 => ∃ H6, DPut0 H5 p y z H6 ∧ Nx H6 else Nx H3) := by
  let P : Nat → Hp → Prop := fun i H => ∃ (w2 : Wd) (acc : List (PC.D × PC.D)), Ok T w2 σ H ∧ Stp w1 σ H1 w2 σ H ∧ CtL T w2.ι w2.F H p (.dct acc) ∧ Free w2 σ H p ∧ PC.clr (PC.ownT t) w2.s = true ∧
    Rp ((PC.lcK (dcStep G cf th ck e t cs) (xs.drop i) acc w2.st).bind fun m s8 => .ok (PC.D.dct m, true) s8) (fun r st => ∀ v H', EP T w1 σ H1 false r st v H' → Q v H') noX
  have kp := Keep.new (o := .dK []) hp
  have f1 := k1.free_none hp
  refine ⟨fun i m H => P i H ∧ i ≤ xs.length ∧ m = xs.length - i, ⟨xs.length, ⟨w1, [], k1.grow kp, Stp.grow kp, .inl ⟨_, upd_same, .nil⟩, ⟨f1.f, f1.i, f1.o⟩, hc, y⟩, Nat.zero_le _, rfl⟩, ?_⟩
  rintro i m H2 ⟨⟨w2, acc, k2, s2, cacc, f2, hc2, h2⟩, hle, rfl⟩
  have ho : false = true → ∀ a, Own w1 σ a → H2 a = H1 a := fun z => by cases z
  by_cases hi : i < xs.length
  · right
    have hd : xs[i]? = some xs[i] := List.getElem?_eq_getElem hi
    obtain ⟨go, yld⟩ := src.go w2 σ H2 k2 s2 ho i _ hd
    refine ⟨go, P (i + 1), fun H' z => ⟨_, by omega, z, hi, rfl⟩, fun x H3 hy => ?_⟩
    obtain ⟨w3, e3, i3, k3, s3, kp3, r3⟩ := yld x H3 hy
    have es3 : w3.s = w2.s := congrArg PC.St.s e3
    have eg3 : w3.g = w2.g := congrArg PC.St.g e3
    have hc3 : PC.clr (PC.ownT t) w3.s = true := by rw [es3]; exact hc2
    rw [List.drop_eq_getElem_cons hi] at h2
    simp only [PC.lcK, dcStep, bind_as] at h2
    obtain ⟨z, ez, h3⟩ := Rp.opt (Rp.bind h2)
    refine ⟨w3.wip (PC.ownT t), _, k3.wip, r3, z, by
      show PC.bindT t _ ⟨PC.wip (PC.ownT t) w3.s, w3.g⟩ = _
      rw [es3, eg3]
      exact ez, fun σ4 H4 ⟨w4, e4, k4, s4, q4⟩ sm => ⟨wipe_sm sm, ?_⟩⟩
    subst e4
    refine ⟨w4, k4, Rp.mono (Rp.bind h3) (fun b st z H5 ⟨w5, e5, k5, s5, q5⟩ => ?_) (fun _ _ _ z => z)⟩
    subst e5
    have fin : ∀ {w6 : Wd} {H6 : Hp}, Ok T w6 σ4 H6 → Stp w5 σ4 H5 w6 σ4 H6 →
        Ok T (w6.back (PC.ownT t) w3.s) σ H6 ∧ Stp w1 σ H1 (w6.back (PC.ownT t) w3.s) σ H6 ∧ CtL T w6.ι w6.F H6 p (.dct acc) ∧ Free (w6.back (PC.ownT t) w3.s) σ H6 p ∧ PC.clr (PC.ownT t) (w6.back (PC.ownT t) w3.s).s = true := fun {w6 H6} k6 s6 => by
      have tu : Turned T w3 σ H3 (PC.ownT t) w6 σ4 H6 := ⟨k6, s4.trans k4 (s5.trans k5 s6), wipe_sm sm⟩
      obtain ⟨k7, s7⟩ := tu.ok k3 hc3
      have s37 := s3.trans k3 s7
      obtain ⟨f7, c7⟩ := f2.later cacc s37
      exact ⟨k7, s2.trans k2 s37, c7, f7, clr_back hc3⟩
    cases b with
    | false =>
      rw [if_neg Bool.false_ne_true]
      obtain ⟨k7, s7, c7, f7, cl7⟩ := fin k5 .refl
      refine ⟨_, acc, k7, s7, c7, f7, cl7, ?_⟩
      rw [if_neg Bool.false_ne_true, ← es3] at z
      exact z
    | true =>
      rw [if_pos rfl]
      rw [if_pos rfl, bind_as, ← es3] at z
      refine ⟨w5, k5, Rp.mono (Rp.bind z) (fun y1 st z v1 H6 ep => ?_) (fun _ _ _ z => z)⟩
      obtain ⟨w6, e6, k6, s6, _, r6⟩ := ep.rep
      subst e6
      rw [bind_as] at z
      refine ⟨w6, k6, Rp.mono (Rp.bind z) (fun y2 st z v2 H7 ep => ?_) (fun _ _ _ z => z)⟩
      obtain ⟨w7, e7, k7, s7, _, r7⟩ := ep.rep
      subst e7
      rw [bind_as] at z
      obtain ⟨d, ed, z⟩ := Rp.opt (Rp.bind z)
      obtain ⟨m, rfl⟩ := set_dct ed
      obtain ⟨k8, s8, c8, f8, cl8⟩ := fin k7 (s6.trans k6 s7)
      obtain ⟨o, co, put⟩ := set_put (a := p) k7 c8 (s7.rep r6) r7 ed
      refine ⟨_, put, w7.back (PC.ownT t) w3.s, m, k8.turn f8 (fun u q => ?_) ?_, s8.turn hp, co, ⟨f8.f, f8.i, f8.o⟩, cl8, z⟩
      · rcases c8 with ⟨es, q', _⟩ | ⟨es, q', _⟩ <;> (rw [q'] at q; cases q; rfl)
      · obtain ⟨u, hu, nt⟩ := co.there
        rw [upd_same] at hu
        cases hu
        exact nT_of upd_same nt
  · left
    have he : i = xs.length := by omega
    subst he
    rw [List.drop_length] at h2
    refine ⟨src.stop w2 σ H2 k2 s2 ho, ?_⟩
    have h2 : ∀ v H', EP T w1 σ H1 false (.dct acc, true) w2.st v H' → Q v H' := h2
    exact h2 _ _ ⟨w2, rfl, k2, s2, (fun z => by cases z), (fun z => by cases z), fun _ => ⟨p, rfl, hp, f2, cacc⟩⟩
/-- a block's parts -/
structure DcB (X : Cx) (T : Tb) (G : PC.Gl) (cf : PC.CF) (th : Option (Gs → Re)) (scope : Scope) (kx vx tg : Expr) (ifs : List Expr) (ck e : E) (t : PC.T) (cs : List E) : Prop where
  g : InBlk X scope fun Y => PG Y tg (gD T t)
  t : InBlk X scope fun Y => PTs Y ifs (tCs T G cf th cs)
  k : InBlk X scope fun Y => PE Y kx (tE T G cf th none ck)
  e : InBlk X scope fun Y => PE Y vx (tE T G cf th none e)
theorem pe_dcC (hu : X.A.units + 1 < cLine) (hc : X.calm = true) (hN : X.N.Nodup) {kx vx tg iter : Expr} {ifs : List Expr} {scope : Scope} {own : List (Str × Nat)} {pos : Pos} {ck e c : E} {t : PC.T} {cs : List E} (hi : PI X tg iter (tI T G cf th false c)) (ok : BlkOk X.N X.env.scope scope own)
    (b : DcB X T G cf th scope kx vx tg ifs ck e t cs) (ho : own.map (·.2) = PC.ownT t) (hs : nSet iter = true) (hv : ∀ i, c ≠ .v i) : PE X (.DictComp kx vx [⟨tg, iter, ifs, 0⟩] scope pos) (tE T G cf th none (.dc ck e t c cs)) := by
  refine peImp (pe_dcO hu hc hN hi ok b.g b.t b.k b.e (fold_ne hs _)) fun σ H Q ⟨w, k, h⟩ => ?_
  rw [evE_dc] at h
  simp only [walk_no hv] at h
  rw [ho]
  refine ⟨w, k, ?_⟩
  rw [lk_no hv]
  cases hev : PC.evE G cf th c w.st with
  | no => rw [hev] at h; exact h.elim
  | ex C fs st => rw [hev] at h; exact h.elim
  | ok r s1 =>
    rw [hev] at h
    obtain ⟨xs, ex, h⟩ := Rp.opt (Rp.bind (show Rp ((PC.opt (if PC.clr (PC.ownT t) s1.s then PC.walkS r.1 else none) s1).bind _) _ _ from h))
    split at ex
    · rename_i hcl
      show Rp (PC.opt (PC.walkS r.1) s1) _ _
      rw [ex]
      intro J H1 ⟨w1, e1, k1, st1, q1, src⟩ p hp
      subst e1
      refine dc_tail src k1 hcl (h.mono (fun r st y v H' ep => y v H' ?_) (fun _ _ _ z => z)) hp
      obtain ⟨w', e', k', s', q', r1, r2⟩ := ep
      refine ⟨w', e', k', st1.trans k1 s', (fun z => by simp [PC.quiet] at z), r1, fun z => ?_⟩
      obtain ⟨a, ea, hn, f, c⟩ := r2 z
      exact ⟨a, ea, st1.tr a hn, f, c⟩
    · cases ex
end
end Br
end

section
set_option Elab.async false
set_option linter.all false
set_option maxRecDepth 100000
set_option maxHeartbeats 1000000
/-! Br33: own special methods: ==, !=, str; in over lists of the store. -/
namespace Br
open PySem PySem.Spec PySem.Calls PyProof.Rows L2
open PC (D E S Sl Cl Sg Gs Rs Re)

/-! ### object.__ne__ over an own == -/
section
variable {prog : Program} {w : World} {M : Model} {A : Around} {E : Value → Shared → Prop} {s : Shared} {K : PySem.W.Frag} {x C f : Addr} {ox : Obj} {od : Option Obj} {b tb : Value}
theorem bound_blt {name : Str} {id : String} {args : List Value} {Q : Option Value → Shared → Prop} (X : K.In s.heap) (I : PySem.W.InstAt s.heap x ox C od) (hs : PySem.W.findIn K (.ref C) name = some (some (.builtin id)))
    (hb : ∀ self, bindSpecial (.builtin id) self = pure (.builtin id, [self])) (h : wpAny M A (call (.builtin id) (.ref x :: args)) (fun v => Q (some v)) E s) : wpAny M A (callSpecialIfBound? (.ref x) name args) Q E s := by
  simp only [callSpecialIfBound?, bindSpecialIfBound?]
  refine wpAny_holding (wpAny_bind (wpAny_bind (wpAny_bind (I.type.here ((PySem.W.looks_findIn X hs).here ?_)))))
  refine wpAny_bind (wpAny_askSetting (wpAny_ite ?_))
  have fin : wpAny M A (call (.builtin id) ([.ref x] ++ args) >>= fun v => pure (some v)) Q E s := wpAny_bind (wpAny_mono h (fun v s' h' => wpAny_pure h') fun _ _ h' => h')
  split
  · exact wpAny_bind ((PySem.W.Looks.of_pure (hb _)).here (wpAny_pure (by exact fin)))
  · exact wpAny_tryCatch (wpAny_bind ((PySem.W.Looks.of_pure (hb _)).here (wpAny_pure (by exact fin))))
def NeBack (Q : Value → Shared → Prop) (v : Value) (s' : Shared) : Prop := ∃ k, v = .bool k ∧ Q (.bool (!k)) s'
theorem cmp_ne {Q : Value → Shared → Prop} (hu : A.units + 1 < cLine) (X : K.In s.heap) (I : PySem.W.InstAt s.heap x ox C od) (hm : PySem.W.mroIn K C (.type "object") = some true) (hb : PySem.W.Looks (model prog w) s.heap (typeOf b) tb) (hn : PySem.W.notFirst K C tb = true)
    (hne : PySem.W.findIn K (.ref C) "__ne__" = some (some (.builtin "object.__ne__"))) (hs : PySem.W.findIn K (.ref C) "__eq__" = some (some (.ref f))) (hf : PySem.W.isFn K (.ref f) = true)
    (h : wpAny (model prog w) A.in1 (call (.ref f) [.ref x, b]) (NeBack Q) E s) : wpAny (model prog w) A (richCompare .NotEq (.ref x) b) Q E s := by
  have one : wpAny (model prog w) A (tryCompare (.ref x) "__ne__" b) (fun r s' => ∃ v, r = some v ∧ Q v s') E s := by
    unfold tryCompare
    refine wpAny_bind (bound_blt X I hne PySem.F.cmp_object.ne.bind (wpAny_call (codeAny_call_builtin PySem.F.cmp_object.ne.plain PySem.F.cmpEntry_ne (PySem.W.check_slot (i := "object.__ne__") (owner := "object") (n := "__ne__") (by decide +kernel) (by decide +kernel) (I.type.andThen (PySem.W.looks_mroIn X hm)) (PySem.F.cmpArgs_ne _ _) ?_))))
    unfold Builtin.«object.__ne__»
    refine wpAny_bind (m := slotArgs "__ne__" 1 _) (wpAny_pure ?_)
    refine wpAny_bind (m := cRoomFor _ _) (wpAny_cRoomFor (show A.in1.units < cLine from hu) ?_)
    refine wpAny_bind (m := callSpecialIfBound? (.ref x) (Str.ofString "__eq__") _) (PySem.W.ifBound_K X I hs hf (wpAny_mono h (fun r s' hq => ?_) fun _ _ y => y))
    obtain ⟨k, rfl, hq⟩ := hq
    refine wpAny_bind (m := truthy (.bool _)) (wpAny_truthy_bool ?_)
    exact wpAny_pure (wpAny_pure ⟨_, rfl, hq⟩)
  unfold richCompare
  simp only [oneThing_ref]
  refine wpAny_holding (wpAny_bind (wpAny_cRoomFor (Nat.lt_of_succ_lt hu) ?_))
  refine wpAny_bind (I.type.here (wpAny_bind (hb.here ?_)))
  rw [cmpInfo_NotEq]
  split
  · rename_i q
    have e : PySem.W.subIn K tb (.ref C) = some false := by
      rcases Bool.or_eq_true_iff.mp hn with e | e
      · rw [beq_iff_eq.mp e] at q
        simp at q
      · exact beq_iff_eq.mp e
    refine wpAny_bind ((PySem.W.looks_subIn X e).here ?_)
    simp only [Bool.false_eq_true, if_false]
    refine wpAny_bind (wpAny_mono one (fun r s' z => ?_) fun _ _ e => e)
    obtain ⟨v, rfl, hq⟩ := z
    exact wpAny_pure hq
  · refine wpAny_bind (wpAny_pure ?_)
    simp only [Bool.false_eq_true, if_false]
    refine wpAny_bind (wpAny_mono one (fun r s' z => ?_) fun _ _ e => e)
    obtain ⟨v, rfl, hq⟩ := z
    exact wpAny_pure hq
end
end Br
end

section
set_option Elab.async false
set_option linter.all false
set_option maxRecDepth 100000
set_option maxHeartbeats 1000000
/-! Br34: own special methods by the core. -/
namespace Br
open PySem PySem.Spec PySem.Calls PyProof.Rows L2
open PC (D E S Sl Cl Sg Gs Rs Re)

section
variable {X : Cx} {T : Tb} {G : PC.Gl} {cf : PC.CF} {th : Option (Gs → Re)} {w w1 w2 w3 w4 : Wd} {σ σ0 σ1 σ2 : L2.St} {H H1 H2 H3 H' : Hp} {D : Ends} {a : Addr} {o : HO}
/-- what a value's type may be -/
def TvOk (T : Tb) (tv : Value) : Prop := (∃ n ∈ ["NoneType", "bool", "int", "str", "list", "tuple", "dict"], tv = .type n) ∨ ∃ C, T.own C = true ∧ tv = .ref (T.clA C)
theorem ty_one (F : IsF T) (k : Ok T w σ H) {v : V} {d : PC.D} (r : Rep T w.ι w.F v d) : ∃ tv, TyZ T.K H v tv ∧ TvOk T tv := by
  have b : ∀ n ∈ ["NoneType", "bool", "int", "str", "list", "tuple", "dict"], TvOk T (.type n) := fun n h => .inl ⟨n, h, rfl⟩
  cases r with
  | non => exact ⟨_, .inl (.base .non), b _ (by decide)⟩
  | bl b' => exact ⟨_, .inl (.base (.bl b')), b _ (by decide)⟩
  | int i => exact ⟨_, .inl (.base (.int i)), b _ (by decide)⟩
  | str x => exact ⟨_, .inl (.base (.str x)), b _ (by decide)⟩
  | lst h r => exact ⟨_, .inl (.base (.lst (k.ex h rfl))), b _ (by decide)⟩
  | tup h r => exact ⟨_, .inl (.base (.tup (k.ex h rfl))), b _ (by decide)⟩
  | kt h c r =>
    obtain ⟨o, its, n, lk, cl, _⟩ := h
    exact ⟨_, .inl (.kTuple lk cl), b _ (by decide)⟩
  | dK h r =>
    rcases k.rd h with e | ⟨o, e⟩
    · exact ⟨.type "dict", .inl (.base (.dK e)), b _ (by decide)⟩
    · exact ⟨.type "dict", .inl (.fDict e), b _ (by decide)⟩
  | dT h r =>
    rcases k.rd h with e | ⟨o, e⟩
    · exact ⟨.type "dict", .inl (.base (.dT e)), b _ (by decide)⟩
    · exact ⟨.type "dict", .inr ⟨_, o, _, rfl, e, rfl⟩, b _ (by decide)⟩
  | scrF h => exact ⟨_, .inl (.base (.lst (k.ex h rfl))), b _ (by decide)⟩
  | scr h =>
    rcases k.tb.s _ _ h with ⟨o, e⟩ | ⟨o, its, n, e, c, _⟩
    · exact ⟨_, .inl (.base (.frz e)), b _ (by decide)⟩
    · exact ⟨_, .inl (.kList e c), b _ (by decide)⟩
  | obj o h r => exact ⟨_, .inl (.base (.ins (k.ex h rfl) (F.cls _ o) (F.cl _ o) F.gs F.tk (F.mro _ o))), .inr ⟨_, o, rfl⟩⟩
  | @cell n a h =>
    have hl : n < w.g.length := by rw [← k.len]; exact (List.getElem?_eq_some_iff.mp h).1
    obtain ⟨_, c⟩ := k.cel n a _ h (List.getElem?_eq_getElem hl)
    cases e : w.g[n] with
    | ref xs =>
      rw [e] at c
      obtain ⟨vs, c, _⟩ := c
      exact ⟨_, .inl (.base (.lst c)), b _ (by decide)⟩
    | inst C fs =>
      rw [e] at c
      obtain ⟨o, dx, es, c, _⟩ := c
      exact ⟨_, .inl (.base (.ins c (F.cls _ o) (F.cl _ o) F.gs F.tk (F.mro _ o))), .inr ⟨_, o, rfl⟩⟩
/-- the own methods under a name -/
structure OwnM (X : Cx) (T : Tb) (G : PC.Gl) (n k m : Nat) (nm : Str) : Prop where
  ok : ∀ C f, T.own C = true → G.meth C m = some f → ∃ fd dat ps, G.fn f = some fd ∧ PySem.W.findIn X.K (.ref (T.clA C)) nm = some (some (.ref (T.fnA f))) ∧ PySem.W.isFn X.K (.ref (T.fnA f)) = true ∧ Binds X.K dat ps [] ∧
    FnOk X.prog X.w X.K X.mg X.base CX0 k (T.fnA f) dat ps (spL T G n fd)
/-- a def runs in the surroundings A -/
theorem run_own {k : Nat} {A : Around} {f : Addr} {dat : FuncData} {ps : List Str} {sp : Sp} {pins : List (Addr × Obj)} {s : Shared} {vs : List V} {us : List Value} {Q : VK} (F : FnOk X.prog X.w X.K X.mg X.base CX0 k f dat ps sp) (sb : Sub X k A) (hb : Binds X.K dat ps []) (I : Inv X pins σ H s) (r : Vals vs us)
    (h : sp vs H Q (fun _ _ _ => False)) : wpAny (model X.prog X.w) A (call (.ref f) us) (L2.EP X pins σ Q) X.xe s := by
  have e := I.env0
  have e0 : Env0 X.prog X.w X.K X.mg X.base A X.stack s H := ⟨by rw [sb.fr]; exact e.frames, e.mod, e.bs, e.bsz, e.funs, e.frf, e.hok, e.bare⟩
  have bd : BindsTo s dat ⟨us, []⟩ (ps.zip us) := by
    have z := hb s us I.kIn (by rw [List.append_nil, ← r.length]; exact F.len _ _ _ _ h)
    rwa [List.append_nil] at z
  refine wpAny_call (codeAny_mono (F.run A X.stack s H ⟨us, []⟩ us vs Q _ sb.room e0 bd r h) fun x s' hq => ?_)
  cases x with
  | error e => exact (pass0 : Passes CX0 X _) pins σ H s e s' I hq
  | ok fl => cases fl <;> first | exact I.after hq | exact False.elim hq
/-- an own method that the core calls keeps its promise -/
theorem own_call {n k m : Nat} {nm : Str} (O : OwnM X T G n k m nm) {C : Nat} {xs : List V} {ds : List PC.D} {Q : VK} (kk : Ok T w σ H) (hC : T.own C = true) (rs : Reps T w.ι w.F xs ds)
    (h : Rp (PC.viaM G (PC.evFn G n) m (ds.map fun d => (d, false)) C w.st) (fun r st => ∀ v' H', EP T w σ H true r st v' H' → Q v' H') (exK T none w σ H)) :
    ∃ f fd dat ps, PySem.W.findIn X.K (.ref (T.clA C)) nm = some (some (.ref (T.fnA f))) ∧ PySem.W.isFn X.K (.ref (T.fnA f)) = true ∧ Binds X.K dat ps [] ∧ FnOk X.prog X.w X.K X.mg X.base CX0 k (T.fnA f) dat ps (spL T G n fd) ∧ spL T G n fd xs H Q (fun _ _ _ => False) := by
  unfold PC.viaM at h
  cases hm : G.meth C m with
  | none => rw [hm] at h; exact h.elim
  | some f =>
    rw [hm] at h
    obtain ⟨fd, dat, ps, hf, h1, h2, h3, h4⟩ := O.ok C f hC hm
    have al : AL T w σ H xs (ds.map fun d => (d, false)) := rs.al
    obtain ⟨fd', hf', q⟩ := call_core (E := fun _ _ _ => False) kk kk .refl (fun _ => KO.refl kk) al (fun a ha => by rw [frA_reps rs.length] at ha; cases ha) h
    rw [hf] at hf'
    cases hf'
    exact ⟨f, fd, dat, ps, h1, h2, h3, h4, q⟩
/-- what == and != ask of the own classes -/
structure CmpF (T : Tb) : Prop where
  nf : ∀ C tv, T.own C = true → TvOk T tv → PySem.W.notFirst T.K (T.clA C) tv = true
  ne : ∀ C, T.own C = true → PySem.W.findIn T.K (.ref (T.clA C)) "__ne__" = some (some (.builtin "object.__ne__"))
theorem back_any' {pins : List (Addr × Obj)} {Q : VK} {v : Value} {s : Shared} (h : L2.EP X pins σ Q v s) : PySem.W.CmpBack (L2.EP X pins σ Q) v s := by
  obtain ⟨v', H', I, r, q⟩ := h
  exact SlX.cmpback r ⟨v', H', I, r, q⟩
/-- what an instance answers is a truth -/
theorem ret_bool {Q : VK} {R : Rs (PC.D × Bool)} (h : Rp (PC.notB R) (fun r st => ∀ v' H', EP T w σ H true r st v' H' → Q v' H') (exK T none w σ H)) :
    Rp R (fun r st => ∀ v' H', EP T w σ H true r st v' H' → ∃ b, v' = .bl b ∧ Q (.bl (!b)) H') (exK T none w σ H) := by
  refine (Rp.bind h).mono (fun r st z v' H' ep => ?_) (fun _ _ _ z => z)
  obtain ⟨b, e, z⟩ := toB_ok (Rp.bind z)
  obtain ⟨rfl, bp⟩ := ep.bool e
  exact ⟨b, rfl, z _ _ bp.ep⟩
theorem inst_look (k : Ok T w σ H) {pins : List (Addr × Obj)} {σ' : L2.St} {s : Shared} {v : V} {u : Value} {d : PC.D} {C : Nat} (I : Inv X pins σ' H s) (r : Rep T w.ι w.F v d) (hc : PC.clsOf w.g d = some C) (rx : RelV v u) :
    T.own C = true ∧ ∃ a dx od, u = .ref a ∧ v = .ref a ∧ PySem.W.InstAt s.heap a (PySem.W.instObj (T.clA C) dx) (T.clA C) (some od) := by
  obtain ⟨ho, a, dx, es, fs, rfl, ha, _⟩ := inst_at k r hc
  obtain ⟨mA, J, _⟩ := ins_get I.hok ha
  obtain ⟨od, J, _⟩ := J.look
  exact ⟨ho, a, dx, od, rx, rfl, J⟩
theorem in_cls {o : PC.COp} (ho : o = .eq ∨ o = .ne) {g : Gs} {x y : PC.D} (h : PC.inC o g x y = true) : ∃ C, PC.clsOf g x = some C := by
  rcases ho with rfl | rfl <;> exact Option.isSome_iff_exists.mp h
/-- cells are no instances to be compared -/
theorem no_plain (hV : ∀ C, T.own C = true → G.value C = true) (k : Ok T w σ H) {v : V} {d : PC.D} (r : Rep T w.ι w.F v d) : PC.plainC G w.g d = false := by
  unfold PC.plainC
  cases hc : PC.clsOf w.g d with
  | none => rfl
  | some C =>
    obtain ⟨ho, _⟩ := inst_at k r hc
    simp [hV C ho]
theorem op_eqIn {n k : Nat} (hK : T.K = X.K) (F : IsF T) (M : CmpF T) (hV : ∀ C, T.own C = true → G.value C = true) (O : OwnM X T G n k G.mEq "__eq__") (hr : Room k X.A) : OpR X (compareOp (cOp .eq)) (rCmpIn T G (PC.evFn G n) none .eq) := by
  intro pins s σ' H x y v u Q I rx ry ⟨w, σ, d, e, kk, r1, r2, hi, h⟩
  obtain ⟨C, hc⟩ := in_cls (.inl rfl) hi
  obtain ⟨ho, a, dx, od, rfl, rfl, J⟩ := inst_look kk I r1 hc rx
  obtain ⟨d, b1⟩ := d
  obtain ⟨e, b2⟩ := e
  cases d with
  | obj B fs =>
    have hc : some B = some C := hc
    cases hc
    have h : Rp (PC.viaM G (PC.evFn G n) G.mEq ([PC.D.obj C fs, e].map fun d => (d, false)) C w.st) _ _ := h
    obtain ⟨f, fd, dat, ps, h1, h2, h3, h4, sp⟩ := own_call O kk ho (.cons r1 (.cons r2 .nil)) h
    obtain ⟨tv, ty, tok⟩ := ty_one F kk r2
    rw [hK] at ty
    obtain ⟨P, Z, p, _⟩ := kit_z I ry ty
    obtain ⟨m, fr⟩ := I.fr
    refine PySem.W.cmp_K (op := .Eq) hr.units0 fr I.ok.mod.kin J (Z.ty _ _ I.kIn p) (hK ▸ M.nf _ tv ho tok) h1 h2 ?_
    exact wpAny_mono (run_own h4 ⟨hr, rfl⟩ h3 I (.cons (show RelV (.ref a) (.ref a) from rfl) (.cons ry .nil)) sp) (fun r s' z => back_any' z) fun _ _ z => z
  | cell j =>
    cases e with
    | cell j2 =>
      have h : Rp (if PC.plainC G w.g (.cell j) then Rs.ok (PC.D.bl (j == j2), false) w.st else .no) _ _ := h
      rw [no_plain hV kk r1] at h
      exact h.elim
    | _ => exact h.elim
  | _ => cases hc
theorem op_neIn {n k : Nat} (hK : T.K = X.K) (F : IsF T) (M : CmpF T) (hV : ∀ C, T.own C = true → G.value C = true) (O : OwnM X T G n k G.mEq "__eq__") (hr : Room (k + 1) X.A) : OpR X (compareOp (cOp .ne)) (rCmpIn T G (PC.evFn G n) none .ne) := by
  intro pins s σ' H x y v u Q I rx ry ⟨w, σ, d, e, kk, r1, r2, hi, h⟩
  obtain ⟨C, hc⟩ := in_cls (.inr rfl) hi
  obtain ⟨ho, a, dx, od, rfl, rfl, J⟩ := inst_look kk I r1 hc rx
  obtain ⟨d, b1⟩ := d
  obtain ⟨e, b2⟩ := e
  cases d with
  | obj B fs =>
    have hc : some B = some C := hc
    cases hc
    have h : Rp (PC.notB (PC.viaM G (PC.evFn G n) G.mEq ([PC.D.obj C fs, e].map fun d => (d, false)) C w.st)) _ _ := h
    obtain ⟨f, fd, dat, ps, h1, h2, h3, h4, sp⟩ := own_call O kk ho (.cons r1 (.cons r2 .nil)) (ret_bool h)
    obtain ⟨tv, ty, tok⟩ := ty_one F kk r2
    rw [hK] at ty
    obtain ⟨P, Z, p, _⟩ := kit_z I ry ty
    have hu : X.A.units + 1 < cLine := by have := hr.un; omega
    refine cmp_ne hu I.kIn J (hK ▸ F.mro _ ho) (Z.ty _ _ I.kIn p) (hK ▸ M.nf _ tv ho tok) (hK ▸ M.ne _ ho) h1 h2 ?_
    refine wpAny_mono (run_own h4 ⟨hr.in1, rfl⟩ h3 I (.cons (show RelV (.ref a) (.ref a) from rfl) (.cons ry .nil)) sp) (fun r s' z => ?_) fun _ _ z => z
    obtain ⟨v', H', I', rv, b, rfl, q⟩ := z
    cases (show r = Value.bool b from rv)
    exact ⟨b, rfl, .bl (!b), H', I', rfl, q⟩
  | cell j =>
    cases e with
    | cell j2 =>
      have h : Rp (if PC.plainC G w.g (.cell j) then Rs.ok (PC.D.bl (!(j == j2)), false) w.st else .no) _ _ := h
      rw [no_plain hV kk r1] at h
      exact h.elim
    | _ => exact h.elim
  | _ => cases hc
theorem op_neither {o : PC.COp} (h1 : o ≠ .eq) (h2 : o ≠ .ne) (h3 : o ≠ .in_) (h4 : o ≠ .nin) : OpR X (compareOp (cOp o)) (rCmpIn T G cf W o) := by
  intro pins s σ H x y v u Q I rx ry ⟨w, σ0, d, e, _, _, _, hi, _⟩
  cases o <;> first | contradiction | cases hi
/-- in, over a list of the store -/
theorem op_inIn (hK : T.K = X.K) (hu : X.A.units + 65 < cLine) {o : PC.COp} (ho : o = .in_ ∨ o = .nin) (hM : ∀ C, G.meth C G.mIn = none) : OpR X (compareOp (cOp o)) (rCmpIn T G cf none o) := by
  intro pins s σ' H x y v u Q I rx ry ⟨w, σ, d, e, kk, r1, r2, hi, h⟩
  obtain ⟨d, b1⟩ := d
  obtain ⟨e, b2⟩ := e
  have go : ∀ {n : Nat}, e = .cell n → PC.clsOf w.g (.cell n) = none → Rp ((PC.opt (PC.cmpD o d (PC.drf w.g (.cell n))) w.st).bind fun k s1 => Rs.ok (PC.D.bl k, false) s1) (fun r st => ∀ v' H', EP T w σ H true r st v' H' → Q v' H') (exK T none w σ H) → wpAny (model X.prog X.w) X.A (compareOp (cOp o) v u) (L2.EP X pins σ' Q) X.xe s := fun {n} en hn hh => by
    subst en
    obtain ⟨b, hb, q⟩ := Rp.opt (Rp.bind hh)
    refine op_cmp hK hu o pins s σ' H x y v u Q I rx ry ⟨w, σ, d, _, b, kk, r1.cnt kk, r2.cntC kk, hb, q _ _ (BP.refl kk).ep⟩
  cases e with
  | cell n =>
    rcases ho with rfl | rfl
    · cases hc : PC.clsOf w.g (.cell n) with
      | some C =>
        have h : Rp (PC.cmpV G cf .in_ (d, b1) (.cell n, b2) w.st) _ _ := h
        unfold PC.cmpV at h
        simp only [hc, PC.viaM, hM] at h
        exact h.elim
      | none =>
        have h : Rp (PC.cmpV G cf .in_ (d, b1) (.cell n, b2) w.st) _ _ := h
        unfold PC.cmpV at h
        simp only [hc] at h
        exact go rfl hc h
    · cases hc : PC.clsOf w.g (.cell n) with
      | some C =>
        have h : Rp (PC.cmpV G cf .nin (d, b1) (.cell n, b2) w.st) _ _ := h
        unfold PC.cmpV at h
        simp only [hc, PC.viaM, hM] at h
        exact h.elim
      | none =>
        have h : Rp (PC.cmpV G cf .nin (d, b1) (.cell n, b2) w.st) _ _ := h
        unfold PC.cmpV at h
        simp only [hc] at h
        exact go rfl hc h
  | _ => rcases ho with rfl | rfl <;> cases hi
/-- x[i] of an instance: none has it -/
theorem ix_inNo (hM : ∀ C, G.meth C G.mGet = none) : IxR X (rIxIn T G cf W) := by
  intro va sl pins s σ' H x y v u Q I rx ry ⟨w, σ, d, e, C, kk, r1, r2, hc, h⟩ _
  obtain ⟨d, b⟩ := d
  cases d with
  | cell n =>
    unfold PC.idxV at h
    have hc : PC.clsOf w.st.g (.cell n) = some C := hc
    simp only [hc, PC.viaM, hM] at h
    exact h.elim
  | obj B fs => exact (show False from h).elim
  | _ => cases hc
/-- a built-in of an instance without the method -/
theorem in_none {f : Value} {b : PC.Bi} {m : Nat} (hb : b = .len ∧ m = G.mLen ∨ b = .bool ∧ m = G.mBool ∨ b = .str ∧ m = G.mStr ∨ b = .repr ∧ m = G.mRepr) (hM : ∀ C, G.meth C m = none) : CallR X f (rIn T G cf W b) := by
  intro pins s σ' H xs us Q I rx ⟨w, σ, v, d, C, ex, kk, r1, hc, h⟩
  unfold PC.biV at h
  have hc : PC.clsOf w.st.g d.1 = some C := hc
  rw [hc] at h
  rcases hb with ⟨rfl, rfl⟩ | ⟨rfl, rfl⟩ | ⟨rfl, rfl⟩ | ⟨rfl, rfl⟩ <;> (simp only [PC.viaM, hM] at h; exact h.elim)
/-- str(x), an own __str__ that gives a text -/
theorem text_back {pins : List (Addr × Obj)} {Q : VK} {v : Value} {s : Shared} (h : L2.EP X pins σ (fun v' H' => (∃ b, v' = .str b) ∧ Q v' H') v s) : PySem.W.StrBack (L2.EP X pins σ Q) v s := by
  obtain ⟨v', H', I, r, ⟨b, rfl⟩, q⟩ := h
  obtain ⟨t, rfl⟩ := (show ∃ t, v = Value.str b t from r)
  exact ⟨.str b, H', I, ⟨t, rfl⟩, q⟩
theorem EP.text {q : Bool} {r : PC.D × Bool} {st : PC.St} {v : V} {H' : Hp} (h : EP T w σ H q r st v H') (e : PC.okB .str r.1 = true) : ∃ b, v = .str b := by
  obtain ⟨w', _, _, _, _, h1, h2⟩ := h
  obtain ⟨d, fr⟩ := r
  cases d with
  | str x =>
    cases fr with
    | true =>
      obtain ⟨a, _, _, _, c⟩ := h2 rfl
      exact c.elim
    | false =>
      cases h1 rfl
      exact ⟨_, rfl⟩
  | _ => cases e
theorem in_str {n k : Nat} (O : OwnM X T G n k G.mStr "__str__") (hr : Room (k + 2) X.A) : CallR X (.type "str") (rIn T G (PC.evFn G n) none .str) := by
  intro pins s σ' H xs us Q I rx ⟨w, σ, v, d, C, ex, kk, r1, hc, h⟩
  unfold PC.biV at h
  have hc' : PC.clsOf w.st.g d.1 = some C := hc
  rw [hc'] at h
  subst ex
  cases rx with
  | cons rx t =>
    cases t
    obtain ⟨ho, a, dx, od, rfl, rfl, J⟩ := inst_look kk I r1 hc rx
    have h : Rp (PC.viaM G (PC.evFn G n) G.mStr ([d.1].map fun d => (d, false)) C w.st) (fun r st => ∀ v' H', EP T w σ H true r st v' H' → (∃ b, v' = .str b) ∧ Q v' H') (exK T none w σ H) := by
      refine (Rp.bind h).mono (fun r st z v' H' ep => ?_) (fun _ _ _ z => z)
      split at z
      · rename_i ok
        exact ⟨ep.text ok, z v' H' ep⟩
      · exact z.elim
    obtain ⟨f, fd, dat, ps, h1, h2, h3, h4, sp⟩ := own_call O kk ho (.cons r1 .nil) h
    have r2 := hr.in1.in1
    refine PySem.W.kso_call r2.units0 I.kIn J h1 h2 ?_
    exact wpAny_mono (run_own h4 ⟨r2, rfl⟩ h3 I (.cons (show RelV (.ref a) (.ref a) from rfl) .nil) sp) (fun r s' z => text_back z) fun _ _ z => z
end
end Br
end

section
set_option Elab.async false
set_option linter.all false
set_option maxRecDepth 100000
set_option maxHeartbeats 1000000
/-! Br35: int, str. -/
namespace Br
open PySem PySem.Spec PySem.Calls PyProof.Rows L2 PySem.NumText
open PC (D E S Sl Cl Sg Gs Rs Re)

section
variable {X : Cx} {T : Tb} {G : PC.Gl} {cf : PC.CF} {th : Option (Gs → Re)} {w w1 w2 w3 w4 : Wd} {σ σ0 σ1 σ2 : L2.St} {H H1 H2 H3 H' : Hp} {D : Ends} {a : Addr} {o : HO}
theorem read_digits : ∀ (l : List Nat) (n : Nat) {k : Nat}, PC.readNat l n = some k → AllDigits l ∧ l.foldl (fun acc c => acc * 10 + (c - 48)) n = k
  | [], n, k, h => by
    cases h
    exact ⟨(fun c hc => by cases hc), rfl⟩
  | c :: r, n, k, h => by
    have h : (PC.digitVal c).bind (fun d => PC.readNat r (n * 10 + d)) = some k := h
    obtain ⟨d, hd, h⟩ := Option.bind_eq_some_iff.mp h
    unfold PC.digitVal at hd
    split at hd
    · rename_i hc
      cases hd
      obtain ⟨h1, h2⟩ := read_digits r _ h
      exact ⟨fun x hx => (List.mem_cons.mp hx).elim (fun e => by rw [e]; exact hc) (h1 x), h2⟩
    · cases hd
theorem bi_int : CallR X (.type "int") (rBi T .int) := by
  have r := callOr (X := X) call_int1 call_int_str
  refine callR_imp r fun xs H Q ⟨w, σ, ds, rd, k, c, e, go⟩ => ?_
  unfold PC.biD at e
  split at e <;> first | contradiction | skip
  · rename_i i _
    cases e
    obtain ⟨v, rfl, c1⟩ := c.one
    cases c1
    exact .inl (.inl ⟨i, rfl, go _ _ (RG.of k (RN.rep (.int i)))⟩)
  · rename_i i _
    cases e
    obtain ⟨v, rfl, c1⟩ := c.one
    cases c1
    exact .inl (.inr ⟨i, rfl, go _ _ (RG.of k (RN.rep (.int _)))⟩)
  · rename_i x _
    split at e
    · cases e
    · rename_i hz
      obtain ⟨n, hn, e⟩ := Option.map_eq_some_iff.mp e
      cases e
      obtain ⟨v, rfl, c1⟩ := c.one
      cases c1 with
      | str y =>
        obtain ⟨m, hm, em⟩ := Option.bind_eq_some_iff.mp hn
        have em : ((m : Nat) : Int) = n := Option.some.inj em
        obtain ⟨h1, h2⟩ := read_digits _ _ hm
        have hne : y.cps.toList ≠ [] := fun z => hz (by rw [z]; decide)
        have hl : y.length ≤ 640 := by
          rw [len_str]
          have : ¬ 600 < y.cps.toList.length := fun z => hz (by rw [decide_eq_true z, Bool.or_true])
          omega
        refine .inr ⟨y, n, rfl, ?_, hl, go _ _ (RG.of k (RN.rep (.int _)))⟩
        rw [intText_digits h1 hne (by omega)]
        rw [← em, ← h2]
        rfl
theorem bi_str : CallR X (.type "str") (rBi T .str) := by
  have r := callOr (X := X) call_str_int SkE.call_str_str
  refine callR_imp r fun xs H Q ⟨w, σ, ds, rd, k, c, e, go⟩ => ?_
  unfold PC.biD at e
  split at e <;> first | contradiction | skip
  · rename_i x _
    cases e
    obtain ⟨v, rfl, c1⟩ := c.one
    cases c1
    exact .inr ⟨_, rfl, go _ _ (RG.of k (RN.rep (.str _)))⟩
  · rename_i i _
    split at e
    · rename_i hz
      cases e
      obtain ⟨v, rfl, c1⟩ := c.one
      cases c1
      exact .inl ⟨i, rfl, hz, go _ _ (RG.of k (RN.rep (rep_str (TL.tl_ofString _))))⟩
    · cases e
/-! ### the body of a def -/
theorem rep_un {n i : Nat} {x : Sl} (h : (List.replicate n Sl.un)[i]? = some x) : x = .un := by
  rw [List.getElem?_replicate] at h
  split at h
  · cases h; rfl
  · cases h
/-- a body's start as a world -/
def Wd.at0 (w : Wd) (fd : PC.Fd) (ds : List PC.D) : Wd := { w with s := (st0 fd ds w.g).s }
theorem at0_va {fd : PC.Fd} {ds : List PC.D} {i : Nat} {x : Sl} (h : (w.at0 fd ds).s[i]? = some x) (hx : x ≠ .un) : ∃ d, ds[i]? = some d ∧ x = .va d := by
  have h : (ds.map Sl.va ++ List.replicate (fd.ns - ds.length) Sl.un)[i]? = some x := h
  rw [List.getElem?_append] at h
  split at h
  · rw [List.getElem?_map] at h
    obtain ⟨d, hd, rfl⟩ := Option.map_eq_some_iff.mp h
    exact ⟨d, hd, rfl⟩
  · exact absurd (rep_un h) hx
theorem Ok.at0 {fd : PC.Fd} {ds : List PC.D} {vs : List V} {N : List Str} (k : Ok T w [] H) (r : Reps T w.ι w.F vs ds) (hl : ds.length ≤ N.length) (hn : fd.ns = N.length) : Ok T (w.at0 fd ds) (start N vs) H := by
  have lv := r.length
  refine ⟨k.len, k.nd, k.sub, k.frz, k.cel, ?_, fun i d h => ?_, fun i d h => ?_, fun i j d e a h => ?_, k.tb⟩
  · show (ds.map Sl.va ++ List.replicate (fd.ns - ds.length) Sl.un).length = (vs.map some ++ List.replicate (N.length - vs.length) none).length
    simp only [List.length_append, List.length_map, List.length_replicate]
    omega
  · obtain ⟨d', hd, e⟩ := at0_va h (fun z => by cases z)
    cases e
    obtain ⟨v, hv, rv⟩ := r.get hd
    refine ⟨v, ?_, rv⟩
    show (vs.map some ++ List.replicate (N.length - vs.length) none)[i]? = _
    rw [List.getElem?_append_left (by rw [List.length_map]; exact (List.getElem?_eq_some_iff.mp hv).1), List.getElem?_map, hv]
    rfl
  · obtain ⟨d', _, e⟩ := at0_va h (fun z => by cases z)
    cases e
  · obtain ⟨d', _, e⟩ := at0_va h (fun z => by cases z)
    cases e
theorem no_at0 {fd : PC.Fd} {ds : List PC.D} {a : Addr} : ¬ Own (w.at0 fd ds) σ a := fun ⟨i, d, h, _⟩ => by
  obtain ⟨d', _, e⟩ := at0_va h (fun z => by cases z)
  cases e
/-- from the body's end to the call's -/
theorem rp_body {fd : PC.Fd} {ds : List PC.D} {d : PC.D} {fr : Bool} {st : PC.St} {v : V} {H' : Hp} (hs : w.s = []) (h : RtP T (w.at0 fd ds) σ H d fr st v H') : RP T w H d fr st.g v H' := by
  obtain ⟨w', σ', e, k', s', h1, h2⟩ := h
  subst e
  have nob : ∀ {u : Wd} {a : Addr}, u.s = [] → ¬ Own u [] a := fun hu => no_own hu
  refine ⟨w'.bare, rfl, rfl, k'.bare, ⟨s'.ι, s'.F, fun a o e t ni _ => s'.kp a o e t ni no_at0, fun a o e t f ni _ => ?_, s'.tr, fun a h => (no_own rfl h).elim⟩, h1, fun z => ?_⟩
  · obtain ⟨x1, x2, _⟩ := s'.fr a o e t f ni no_at0
    exact ⟨x1, x2, no_own rfl⟩
  · obtain ⟨a, ea, hn, f, c⟩ := h2 z
    exact ⟨a, ea, hn.elim id fun o => (no_at0 o).elim, f.f, f.i, c⟩
theorem sp_body {fd : PC.Fd} {ds : List PC.D} {st : PC.St} {σ' : L2.St} {H' : Hp} (hs : w.s = []) (h : SPw T (w.at0 fd ds) σ H st σ' H') : RP T w H .non false st.g .non H' := by
  obtain ⟨w', e, k', s'⟩ := h
  subst e
  refine ⟨w'.bare, rfl, rfl, k'.bare, ⟨s'.ι, s'.F, fun a o e t ni _ => s'.kp a o e t ni no_at0, fun a o e t f ni _ => ?_, s'.tr, fun a h => (no_own rfl h).elim⟩, fun _ => .non, fun z => by cases z⟩
  obtain ⟨x1, x2, _⟩ := s'.fr a o e t f ni no_at0
  exact ⟨x1, x2, no_own rfl⟩
/-- a promise by the body is the body's reading -/
theorem body_of {n : Nat} {fd : PC.Fd} {vs : List V} {Q : VK} {E : XK} {N : List Str} (hn : fd.ns = N.length) (hp : fd.ps ≤ N.length) (h : spB T G cf fd vs H Q E) : tSs T G cf none fd.body { nx := fun _ H' => Q .non H', rt := Q } (start N vs) H := by
  obtain ⟨w, ds, hs, k, r, hl, q⟩ := h
  refine ⟨w.at0 fd ds, k.at0 r (by omega) hn, ?_⟩
  have e : (w.at0 fd ds).st = st0 fd ds w.g := rfl
  rw [e]
  cases hev : PC.evSs G cf none fd.body (st0 fd ds w.g) with
  | no => rw [hev] at q; exact q.elim
  | ex C fs st => rw [hev] at q; exact q.elim
  | ok f st =>
    rw [hev] at q
    cases f with
    | nx => exact fun σ' H' y => q H' (sp_body hs y)
    | rt d fr => exact fun v H' y => q v H' (rp_body hs y)
    | bk => exact q.elim
    | ct => exact q.elim
end
end Br
end

section
set_option Elab.async false
set_option linter.all false
set_option maxRecDepth 100000
set_option maxHeartbeats 1000000
/-! Br36: sorted by lengths first. -/
namespace Br
open PySem PySem.Spec PySem.Calls PyProof.Rows L2
open PC (D E S Sl Cl Sg Gs Rs Re)

section
variable {prog : Program} {w : World} {A : Around} {s : Shared}
/-- lambda y: (len(y), y), called with a tuple: nothing else changes -/
theorem key_call {mg mb : Str → Option Value} {f p c' : Addr} {q : Str} {params : Arguments} {scope : Scope} {pm ctv : Value} {y : Str} {its : Array Value} {d : PyData} {q1 q2 q3 q4 q5 : Pos} {n : Nat}
    (hf : s.heap.get? f = some (PySem.W.kla_obj "<lambda>" q params (.Tuple [.Call (.Name "len" q1) [.Name y q2] [] q3, .Name y q4] n q5) scope [] pm c' ctv)) (hco : ∃ (oc : Obj) (vs : Array Value) (t : Tok), s.heap.get? c' = some oc ∧ oc.data = .fields vs ∧ vs[1]? = some (.str q t))
    (hd : A.depth < recursionLimit) (lim : s.heap.NoLimit) (hg : s.heap.Ns mainGlobals mg) (hb : s.heap.Ns builtinsNs mb) (hl1 : mg "len" = none) (hl2 : mb "len" = some (.builtin "len")) (sk : scope.kind = .function) (sco : scope.isCoroutine = false) (sg : scope.isGenerator = false)
    (snc : ∀ z ∈ scope.names, z.2 ≠ .cell) (sy : scope.names.lookup y = some .local) (sl : scope.names.lookup ("len" : Str) = some NameKind.globalImplicit) (hy : (y == ("__debug__" : Str)) = false)
    (hbind : bindArgs (PySem.W.kla_fn "<lambda>" q params (.Tuple [.Call (.Name "len" q1) [.Name y q2] [] q3, .Name y q4] n q5) scope [] pm (.ref c') ctv) ⟨[.ref p], []⟩ = pure [(y, .ref p)]) (ht : IsTup s.heap p its) (hsz : its.size ≤ sizeLine) (hr : Reads s.heap (.ref p) d []) :
    wpAny (model prog w) A (call (.ref f) [.ref p]) (PySem.W.KeyPure (.tuple [.int its.size, d]) s) (fun _ _ => False) s := by
  obtain ⟨oc, vs, t, hoc, hdc, hvc⟩ := hco
  refine wpAny_call (PySem.W.kla_callFunE hd hf rfl sco sg rfl ⟨c', oc, vs, t, rfl, hoc, hdc, hvc⟩ ?_)
  rw [hbind]
  refine wpAny_pure (wpAny_newFunctionEnv snc (fun z hz => ?_) (fun h1 hns hsb => ⟨lim.fresh _ hsb, ?_⟩) sk)
  · have e : z = (y, .ref p) := by simpa using hz
    rw [e]
    exact sy
  have kp : ∀ b o, s.heap.get? b = some o → h1.get? b = some o := fun b o e => hsb.extBut b o (Nat.ne_of_lt (Heap.lt_size e)) (Heap.get?_push_of_some _ e)
  have ns : h1.Ns s.heap.objs.size fun z => ([(y, Value.ref p)] : List (Str × Value)).reverse.lookup z := hns
  have at_ : (([(y, Value.ref p)] : List (Str × Value)).reverse.lookup y) = some (.ref p) := by simp
  refine PySem.W.kla_codeExpr ?_
  have name : ∀ {A : Around} {E : Value → Shared → Prop} {pos : Pos} {s2 : Shared} {Q : Value → Shared → Prop}, s2.heap = h1 → Q (.ref p) s2 → wpAny (model prog w) A (eval (.Name y pos) (newEnv scope s.heap.objs.size mainGlobals [] (q ++ ".<locals>.") (some f) (.ref c') none builtinsNs)) Q E s2 := fun {A E pos s2 Q} e2 hq =>
    wpAny_Name (wpAny_loadName_local sk sy (by rw [e2]; exact ns) at_ hq) hy
  refine Tuple_ (Calls.spliced_cons ?_)
  refine wpAny_Call_Name_kw (Calls.Name_function_global sk sl (Calls.loadGlobal_builtin (hg.keeps kp) hl1 (hb.keeps kp) hl2 ?_) (by decide))
  refine PyProof.Rows.callWith_builtin1 (Calls.spliced_cons (name rfl (Calls.spliced_nil ?_))) rfl rfl
  refine len_tuple (ht.keeps kp) (by have := line63; omega) ?_
  refine Calls.spliced_cons (name rfl (Calls.spliced_nil ?_))
  refine wpAny_newTuple ?_ (by show 2 ≤ sizeLine; decide)
  have kp2 : ∀ b o, s.heap.get? b = some o → (h1.push { cls := .type "tuple", data := .seq [Value.int its.size (s.toks + 1 + 1), .ref p].toArray }).get? b = some o := fun b o e => Heap.get?_push_of_some _ (kp b o e)
  refine ⟨_, _, rfl, kp2, ?_⟩
  exact .tuple (Heap.get?_push_size _ rfl) rfl rfl (.cons (.int _ _) (.cons (PyProof.Rows.Reads.keeps kp2 hr) .nil))
end
section
variable {X : Cx} {T : Tb} {G : PC.Gl} {cf : PC.CF} {th : Option (Gs → Re)} {w w1 w2 w3 w4 : Wd} {σ σ0 σ1 σ2 : L2.St} {H H1 H2 H3 H' : Hp} {D : Ends} {a : Addr} {o : HO}
/-- the tables have grown, code objects are new -/
theorem Ok.extN (k : Ok T w σ H) (h : LamX.ExtN H H1) (t : LamX.Tabs T.tb H1) (hall : ∀ a ps, H a = some (.tbl ps) → ∃ qs, H1 a = some (.tbl qs)) : Ok T w σ H1 ∧ Stp w σ H w σ H1 ∧ KO w σ H w H1 := by
  have up : ∀ b u, H b = some u → nT u = true → H1 b = some u := fun b u e n => h b u e fun ps z => by rw [z] at n; cases n
  have upC : ∀ {b : Addr} {d : PC.D}, CtL T w.ι w.F H b d → CtL T w.ι w.F H1 b d := fun {b d} c => by
    obtain ⟨u, hu, nt⟩ := c.there
    exact c.at ((up b u hu (nT_of hu nt)).trans hu.symm)
  refine ⟨⟨k.len, k.nd, fun b u e => ?_, k.frz, fun n b c e1 e2 => ?_, k.sl, k.va, fun i d e => ?_, k.ap, ⟨t, fun a ns e => (k.tb.s a ns e).imp (fun ⟨o, z⟩ => ⟨o, up _ _ z rfl⟩) id⟩⟩, ⟨fun _ _ e => e, fun _ _ e => e, fun b u e n _ _ => up b u e n, fun _ _ _ _ f i o => ⟨f, i, o⟩, fun b e => ?_, fun _ e => .inl e⟩, fun b o => ?_⟩
  · rcases k.sub b u e with z | ⟨z, o, z2⟩
    · have n := k.frz b u e
      refine .inl (up b u z ?_)
      cases u <;> first | rfl | cases n
    · exact .inr ⟨z, o, up b _ z2 rfl⟩
  · obtain ⟨h1, h2⟩ := k.cel n b c e1 e2
    refine ⟨h1, ?_⟩
    cases c with
    | ref ds => exact h2.imp fun vs r => ⟨up b _ r.1 rfl, r.2⟩
    | inst C fs =>
      obtain ⟨o, dx, es, c, r⟩ := h2
      exact ⟨o, dx, es, up b _ c rfl, r⟩
  · obtain ⟨b, h1, h2, h3, h4⟩ := k.ow i d e
    exact ⟨b, h1, h2, h3, upC h4⟩
  · cases hb : H b with
    | none => rfl
    | some u =>
      cases u with
      | tbl ps =>
        obtain ⟨qs, hq⟩ := hall b ps hb
        rw [e] at hq
        cases hq
      | _ =>
        rw [up b _ hb rfl] at e
        cases e
  · obtain ⟨_, i, u, hu, nt⟩ := k.own_at o
    exact ⟨(up b u hu (nT_of hu nt)).trans hu.symm, i⟩
/-- what the making of a lambda leaves: nothing new, or a longer table and a code object -/
def Grown (P : Addr) (q : Str) (H H1 : Hp) : Prop := H1 = H ∨ ∃ ps more c, H P = some (.tbl ps) ∧ H c = none ∧ H1 = upd (upd H P (.tbl (ps ++ more))) c (LamX.CodeO c q)
theorem Grown.tbl {P : Addr} {q : Str} (g : Grown P q H H1) {b : Addr} {ps : Array Value} (e : H1 b = some (.tbl ps)) : ∃ qs, H b = some (.tbl qs) := by
  rcases g with rfl | ⟨ps0, more, c, hP, hc, rfl⟩
  · exact ⟨ps, e⟩
  · by_cases z : b = c
    · rw [z, upd_same] at e
      cases e
    · rw [upd_ne z] at e
      by_cases z2 : b = P
      · exact ⟨ps0, by rw [z2]; exact hP⟩
      · rw [upd_ne z2] at e
        exact ⟨ps, e⟩
theorem make_lambda {c P : Addr} {params : Arguments} {body : Expr} {scope : Scope} {pos : Pos} {pins : List (Addr × Obj)} {σ' : L2.St} {s : Shared} {E : Value → Shared → Prop} {Q : Value → Shared → Prop} {L : List (Addr × Str)} (I : Inv X pins σ' H s) (TB : LamX.TabB X.base X.mg c P) (hcode : X.env.code = .ref c)
    (hm : (P, X.env.qual ++ "<lambda>") ∈ L) (hu : ∀ p ∈ L, p.1 = P → p.2 = X.env.qual ++ "<lambda>") (hT : LamX.Tabs L H) (hdef : defaultsOf params X.env = ([], [])) (hfree : ∀ y ∈ scope.names, y.2 = .free → ∃ c, X.env.cells.lookup y.1 = some c)
    (h : ∀ (f c' : Addr) (pm ctv : Value) (H1 : Hp) (t : Shared), Inv X pins σ' H1 t → Grown P (X.env.qual ++ "<lambda>") H H1 → LamX.Tabs L H1 → t.heap.get? f = some (PySem.W.kla_obj "<lambda>" (X.env.qual ++ "<lambda>") params body scope (cloFrom X.env.cells scope.names []) pm c' ctv) →
      H1 c' = some (LamX.CodeO c' (X.env.qual ++ "<lambda>")) → Q (.ref f) t) : wpAny (model X.prog X.w) X.A (eval (.Lambda params body scope pos) X.env) Q E s := by
  obtain ⟨ps, hP, ht, ha⟩ := hT _ hm
  have heapP : s.heap.get? P = some { cls := .none, data := .fields ps } := I.hok P _ hP
  have gl := I.mod.glob.keeps I.bk
  have hd := TB.code.keeps I.bk
  have bm := TB.bm.keeps I.bk
  refine PySem.W.kla_eval hdef ?_
  cases hc : codeAmong pos ps.toList with
  | some cv =>
    obtain ⟨c', rfl, known⟩ := ha pos cv hc
    refine PySem.W.kla_makeFunctionHit (mg := X.mg) (c := c) (P := P) (ps := ps) (closure_ok hfree) I.ok.glob gl hcode hd heapP ht hc bm fun ctv h' tk hx hsz => ?_
    exact h h'.objs.size c' ((X.mg "__name__").getD .none) ctv H _ (I.kept fun b o e => Heap.get?_push_of_some _ (hx b o e)) (.inl rfl) hT (Heap.get?_push_size _ rfl) known
  | none =>
    refine PySem.W.kla_makeFunction (mg := X.mg) (c := c) (P := P) (ps := ps) (closure_ok hfree) I.ok.glob gl hcode hd heapP ht hc TB.gP bm fun c' ctv h' tk hx hge hlt hrec htb => ?_
    obtain ⟨_, oc, vs, t, ec, hoc, hdt, hv⟩ := hrec
    cases ec
    have free' : H c' = none := I.hok.fresh hge
    have J := LamX.inv_table (t' := tk) (more := #[rawInt pos.line, rawInt pos.col, .ref c']) (h' := h'.push (PySem.W.kla_obj "<lambda>" (X.env.qual ++ "<lambda>") params body scope (cloFrom X.env.cells scope.names []) ((X.mg "__name__").getD .none) c' ctv)) I hP
      (fun b o hb e => Heap.get?_push_of_some _ (hx b o hb e)) (Heap.get?_push_of_some _ htb) hge ⟨oc, vs, t, Heap.get?_push_of_some _ hoc, hdt, hv⟩
    refine h h'.objs.size c' ((X.mg "__name__").getD .none) ctv _ _ J (.inr ⟨ps, _, c', hP, free', rfl⟩) (fun p hp => ?_) (Heap.get?_push_size _ rfl) upd_same
    have old : ∀ {b : Addr} {u : HO}, H b = some u → (∀ qs, u ≠ .tbl qs) → upd (upd H P (.tbl (ps ++ #[rawInt pos.line, rawInt pos.col, .ref c']))) c' (LamX.CodeO c' (X.env.qual ++ "<lambda>")) b = some u := fun {b u} e n => by
      rw [upd_ne (ne_of_none e free'), upd_ne fun z => n ps (Option.some.inj (e.symm.trans (by rw [z]; exact hP)))]
      exact e
    by_cases hb : p.1 = P
    · rw [hu p hp hb, hb]
      have el : (ps ++ #[rawInt pos.line, rawInt pos.col, Value.ref c']).toList = ps.toList ++ [rawInt pos.line, rawInt pos.col, .ref c'] := by simp
      refine ⟨_, by rw [upd_ne (ne_of_none hP free'), upd_same], by rw [el]; exact PySem.TriplesOk_snoc _ _ _ _ ht, fun p' cv hcv => ?_⟩
      rw [el] at hcv
      rcases LamX.among_app _ ht hcv with z | z
      · obtain ⟨c0, e1, e2⟩ := ha p' cv z
        exact ⟨c0, e1, old e2 LamX.codeO_ne⟩
      · exact ⟨c', z, upd_same⟩
    · obtain ⟨qs, a1, a2, a3⟩ := hT p hp
      refine ⟨qs, by rw [upd_ne (ne_of_none a1 free'), upd_ne hb]; exact a1, a2, fun p' cv hcv => ?_⟩
      obtain ⟨c0, e1, e2⟩ := a3 p' cv hcv
      exact ⟨c0, e1, old e2 LamX.codeO_ne⟩
theorem Ok.grown (k : Ok T w σ H) {P : Addr} {q : Str} (g : Grown P q H H1) (t : LamX.Tabs T.tb H1) : Ok T w σ H1 ∧ Stp w σ H w σ H1 ∧ KO w σ H w H1 := by
  refine k.extN (fun b u e n => ?_) t fun b ps e => ?_
  · rcases g with rfl | ⟨ps0, more, c, hP, hc, rfl⟩
    · exact e
    · rw [upd_ne (ne_of_none e hc), upd_ne fun z => n ps0 (Option.some.inj (e.symm.trans (by rw [z]; exact hP)))]
      exact e
  · rcases g with rfl | ⟨ps0, more, c, hP, hc, rfl⟩
    · exact ⟨ps, e⟩
    · rw [upd_ne (ne_of_none e hc)]
      by_cases z : b = P
      · exact ⟨_, by rw [z, upd_same]⟩
      · exact ⟨ps, by rw [upd_ne z]; exact e⟩
/-- what a def with a lambda knows of its own code object -/
structure LamF (X : Cx) (T : Tb) : Prop where
  ex : ∃ c P, LamX.TabB X.base X.mg c P ∧ X.env.code = .ref c ∧ (P, X.env.qual ++ "<lambda>") ∈ T.tb ∧ ∀ p ∈ T.tb, p.1 = P → p.2 = X.env.qual ++ "<lambda>"
/-- the lambda's scope -/
def lenScope (y : Str) (scope : Scope) : Bool := (match scope.kind with | .function => true | _ => false) && !scope.isCoroutine && !scope.isGenerator && (scope.names.all fun z => match z.2 with | .cell => false | .free => false | _ => true) &&
  (match scope.names.lookup y with | some .local => true | _ => false) && (match scope.names.lookup ("len" : Str) with | some .globalImplicit => true | _ => false)
end
end Br
end

section
set_option Elab.async false
set_option linter.all false
set_option maxRecDepth 100000
set_option maxHeartbeats 1000000
/-! Br37: sorted by lengths first, as an expression. -/
namespace Br
open PySem PySem.Spec PySem.Calls PyProof.Rows L2
open PC (D E S Sl Cl Sg Gs Rs Re)

section
variable {X : Cx} {T : Tb} {G : PC.Gl} {cf : PC.CF} {th : Option (Gs → Re)} {w w1 w2 w3 w4 : Wd} {σ σ0 σ1 σ2 σ' : L2.St} {H H1 H2 H3 H' : Hp} {a : Addr} {pins : List (Addr × Obj)} {s : Shared}
theorem ints_reads {h : Heap} {ι : List Addr} {F : Hp} : ∀ {vs : List V} {zs : List PC.D} {its : List Value}, Reps T ι F vs zs → zs.all PC.isIntD = true → Vals vs its → ReadsAll h its (toPyL zs) []
  | _, _, _, .nil, _, .nil => .nil
  | _, _, _, .cons (d := d) r t, e, .cons q u => by
    rw [List.all_cons, Bool.and_eq_true] at e
    cases d with
    | int i =>
      cases r
      obtain ⟨tk, rfl⟩ := q
      exact .cons (.int _ _) (ints_reads t e.2 u)
    | _ => cases e.1
theorem tup_reads {h : Heap} {p : Addr} {its : List Value} {zs : List PC.D} (ht : IsTup h p its.toArray) (r : ReadsAll h its (toPyL zs) []) : Reads h (.ref p) (toPy (.tup zs)) [] := by
  obtain ⟨o, h1, h2, n, h3⟩ := ht
  exact .tuple h1 h2 h3 (by simpa using r)
theorem lenKey_py (zs : List PC.D) : toPy (PC.lenKey (.tup zs)) = .tuple [.int zs.length, toPy (.tup zs)] := rfl
theorem toPyL_map : ∀ ds : List PC.D, toPyL ds = ds.map toPy
  | [] => rfl
  | d :: ds => by
    show toPy d :: toPyL ds = _
    rw [toPyL_map ds]
    rfl
/-- sorted(v, key=lambda y: (len(y), y)): the lambda stands at f -/
theorem sorted_len (hK : T.K = X.K) (hr : Room 3 X.A) (hmL : X.mg "len" = none) {f c' l : Addr} {q : Str} {params : Arguments} {scope : Scope} {pm ctv : Value} {y : Str} {q1 q2 q3 q4 q5 : Pos} {n : Nat} {vs : List V} {ds out : List PC.D} {Q : VK}
    (I : Inv X pins σ' H s) (k : Ok T w σ H) (hf : s.heap.get? f = some (PySem.W.kla_obj "<lambda>" q params (.Tuple [.Call (.Name "len" q1) [.Name y q2] [] q3, .Name y q4] n q5) scope [] pm c' ctv)) (hco : H c' = some (LamX.CodeO c' q))
    (hsc : lenScope y scope = true) (hy : (y == ("__debug__" : Str)) = false) (hbind : ∀ u : Value, bindArgs (PySem.W.kla_fn "<lambda>" q params (.Tuple [.Call (.Name "len" q1) [.Name y q2] [] q3, .Name y q4] n q5) scope [] pm (.ref c') ctv) ⟨[u], []⟩ = pure [(y, u)])
    (hl : H l = some (.lst vs)) (r : Reps T w.ι w.F vs ds) (hs : PC.sortD PC.lenKey ds = some out) (hall : ds.all PC.isTupD = true) (go : ∀ v' H', RN T w H (.lst out, true) v' H' → Q v' H') :
    wpAny (model X.prog X.w) X.A (call (.builtin "sorted") [.ref l] [(Str.ofString "key", .ref f)]) (L2.EP X pins σ' Q) X.xe s := by
  unfold PC.sortD at hs
  split at hs
  · rename_i hc
    have hs := Option.some.inj hs
    rw [Bool.and_eq_true] at hc
    obtain ⟨hal, hso, hsh⟩ := sortable_of hc.1
    have hz : ds.length ≤ sizeLine := big_le (of_decide_eq_true hc.2)
    obtain ⟨its, rv, pl, _⟩ := I.list (.inl (.of hl))
    have e := each_of rv r
    have lz : (vs.zip ds).length = ds.length := by rw [List.length_zip, r.length, Nat.min_self]
    have ez : (vs.zip ds).map (fun p : V × PC.D => toPy (PC.lenKey p.2)) = (ds.map PC.lenKey).map toPy := by
      rw [List.map_map, ← zip_snd r, List.map_map, zip_snd r]
      rfl
    obtain ⟨⟨⟨⟨⟨sk, sco⟩, sg⟩, sn⟩, sy⟩, sl⟩ := by
      unfold lenScope at hsc
      simp only [Bool.and_eq_true] at hsc
      exact hsc
    have sk : scope.kind = .function := by
      cases hk : scope.kind <;> rw [hk] at sk <;> first | rfl | cases sk
    have sco : scope.isCoroutine = false := by simpa using sco
    have sg : scope.isGenerator = false := by simpa using sg
    have snc : ∀ z ∈ scope.names, z.2 ≠ .cell := fun z hz e => by
      have := List.all_eq_true.mp sn z hz
      rw [e] at this
      cases this
    have sy : scope.names.lookup y = some .local := by
      split at sy
      · assumption
      · cases sy
    have sl : scope.names.lookup ("len" : Str) = some NameKind.globalImplicit := by
      split at sl
      · assumption
      · cases sl
    obtain ⟨⟨oc, cvs, ct, hoc, hdc, hvc⟩, _, _⟩ := I.hok c' _ hco
    have un : X.A.units + 16 * 3 + 200 < cLine := hr.un
    refine PySem.W.sorted_key_data (b := false) (fun p : V × PC.D => toPy (PC.lenKey p.2)) pl.isList e (by rw [ez]; exact hal) (by rw [ez]; exact hso) (by rw [lz]; exact hz) (fun p hp => ?_) (PyProof.Rows.ksk_s1 _ _) (fun _ => PyProof.Rows.ksk_l1 _ _) (fun _ => PyProof.Rows.ksk_t1 _ _)
      (fun v p ⟨h1, h2⟩ hp h tk kp => ?_) fun o2 c h' tk kp fresh hD hlen eo => ?_
    · have hm : PC.lenKey p.2 ∈ ds.map PC.lenKey := List.mem_map.mpr ⟨p.2, (List.of_mem_zip (show (p.1, p.2) ∈ vs.zip ds from hp)).2, rfl⟩
      have := (shp_py _ 40 (hsh _ hm)).2
      omega
    · have hd : p.2 ∈ ds := (List.of_mem_zip (show (p.1, p.2) ∈ vs.zip ds from hp)).2
      have hi := List.all_eq_true.mp hall _ hd
      obtain ⟨pv, pd⟩ := p
      cases pd with
      | tup zs =>
        have I2 : Inv X pins σ' H { s with heap := h, toks := tk } := I.kept kp
        obtain ⟨b, ws, eb, tb, rz⟩ := (show Cnt T w H pv (.tup zs) from h2.cnt k)
        have eb : pv = .ref b := eb
        subst eb
        cases (show v = Value.ref b from h1)
        obtain ⟨its2, rv2, ht2, hz2⟩ := I2.tuple (tb.sq hK k)
        have rd := tup_reads (zs := zs) ht2 (ints_reads rz hi rv2)
        obtain ⟨mb, b1, b2⟩ := I.mod.blt
        have key := key_call (prog := X.prog) (w := X.w) (A := X.A.in1.in1) (s := { s with heap := h, toks := tk }) (mg := X.mg) (mb := mb) (kp _ _ hf) ⟨oc, cvs, ct, kp _ _ hoc, hdc, hvc⟩ (by have := hr.dp; show X.A.depth < _; omega) I2.nolimit
          (I.mod.glob.keeps I2.bk) (b1.keeps I2.bk) hmL ((b2 "len" (by decide)).trans (by decide +kernel)) sk sco sg snc sy sl hy (hbind _) ht2 (by rw [List.size_toArray, ← rv2.length]; exact hz2) rd
        have el : its2.toArray.size = zs.length := by rw [List.size_toArray, ← rv2.length, rz.length]
        rw [el] at key
        exact key
      | _ => cases hi
    · obtain ⟨rv2, rr2⟩ := of_each eo
      have hle : (fun a b : V × PC.D => PySem.W.dataLe false (fun p : V × PC.D => toPy (PC.lenKey p.2)) a b) = fun a b => PC.leD (PC.lenKey a.2) (PC.lenKey b.2) := by
        funext a b
        exact le_py (fun p : V × PC.D => PC.lenKey p.2) a b
      have hout : ((vs.zip ds).mergeSort (PySem.W.dataLe false fun p : V × PC.D => toPy (PC.lenKey p.2))).map (·.2) = out := by
        rw [← hs]
        have z := List.map_mergeSort (r := PySem.W.dataLe false fun p : V × PC.D => toPy (PC.lenKey p.2)) (s := fun a b => PC.leD (PC.lenKey a) (PC.lenKey b)) (f := fun p : V × PC.D => p.2) (l := vs.zip ds) (fun a _ b _ => congrFun (congrFun hle a) b)
        rw [z, zip_snd r]
      rw [hout] at rr2
      have hn : H (s.heap.objs.size + 1) = none := I.hok.fresh (Nat.le_succ _)
      have hl2 : (((vs.zip ds).mergeSort (PySem.W.dataLe false fun p : V × PC.D => toPy (PC.lenKey p.2))).map (·.1)).length ≤ sizeLine := by
        rw [List.length_map, List.length_mergeSort, lz]
        exact hz
      refine ⟨.ref (s.heap.objs.size + 1), upd H (s.heap.objs.size + 1) (.lst _), I.laid (t' := tk) kp (Nat.le_succ _) (show ObjOk X.prog X.w _ _ _ (.lst _) from ⟨hl2, _, c, rv2, hD⟩), rfl, go _ _ (.lst hn rr2)⟩
  · cases hs
theorem evE_srtL (e : E) (s : PC.St) : PC.evE G cf th (.srtL e) s = (PC.lk true e s (PC.evE G cf th e s)).bind fun x s1 => PC.opt (PC.srtLD (PC.drf s1.g x.1)) s1 := by simp only [PC.evE]
theorem Grown.keep {P : Addr} {q : Str} (g : Grown P q H H1) {b : Addr} {u : HO} (e : H b = some u) (n : nT u = true) : H1 b = some u := by
  rcases g with rfl | ⟨ps0, more, c, hP, hc, rfl⟩
  · exact e
  · rw [upd_ne (ne_of_none e hc), upd_ne fun z => by rw [z, hP] at e; cases e; cases n]
    exact e
theorem cloFrom_nil {cells : List (Str × Addr)} : ∀ {names : List (Str × NameKind)} {acc : List (Str × Addr)}, (∀ z ∈ names, z.2 ≠ .free) → cloFrom cells names acc = acc
  | [], _, _ => rfl
  | (n, k) :: r, acc, h => by
    have hk : (k == NameKind.free) = false := by
      have := h (n, k) List.mem_cons_self
      cases k <;> first | rfl | exact absurd rfl this
    unfold cloFrom
    rw [hk, if_neg Bool.false_ne_true]
    exact cloFrom_nil fun z hz => h z (List.mem_cons_of_mem _ hz)
theorem pe_srtLC (hK : T.K = X.K) (hr : Room 3 X.A) (LF : LamF X T) (hgS : Gl X "sorted") (hmS : X.mg "sorted" = none) (hmL : X.mg "len" = none) {e : Expr} {c : E} {params : Arguments} {scope : Scope} {y : Str} {p q1 q2 q3 q4 q5 lpos kpos pos : Pos} {n : Nat} (he : PE X e (tL T G cf th none true c)) (hn : nSt e = true)
    (hsc : lenScope y scope = true) (hy : (y == ("__debug__" : Str)) = false) (hdef : defaultsOf params X.env = ([], [])) (hbind : ∀ (q : Str) (pm cv ctv u : Value), bindArgs (PySem.W.kla_fn "<lambda>" q params (.Tuple [.Call (.Name "len" q1) [.Name y q2] [] q3, .Name y q4] n q5) scope [] pm cv ctv) ⟨[u], []⟩ = pure [(y, u)]) :
    PE X (.Call (.Name "sorted" p) [e] [⟨some "key", .Lambda params (.Tuple [.Call (.Name "len" q1) [.Name y q2] [] q3, .Name y q4] n q5) scope lpos, kpos⟩] pos) (tE T G cf th none (.srtL c)) := by
  refine ⟨fun pins s σ H Q I ⟨w, k, h⟩ => ?_⟩
  rw [evE_srtL] at h
  obtain ⟨cd, P, TB, hcode, hm, hu⟩ := LF.ex
  have nofree : ∀ z ∈ scope.names, z.2 ≠ .free := fun z hz e => by
    unfold lenScope at hsc
    simp only [Bool.and_eq_true] at hsc
    have := List.all_eq_true.mp hsc.1.1.2 z hz
    rw [e] at this
    cases this
  have s1e : starEach [e] X.env = [(false, eval e X.env)] := by
    rw [star_ne hn]
    rfl
  refine wpAny_Call_Name_kw (ld_blt I hgS hmS PyProof.Rows.boot_sorted ?_ (by decide) (by decide))
  refine PyProof.Rows.callWith_kw ?_ (by rw [s1e]; rfl) (by rw [s1e]; rfl) rfl rfl
  rw [s1e]
  have rd : tL T G cf th none true c σ H fun v H1 => ∃ (w1 : Wd) (l : Addr) (vs : List V) (ds out : List PC.D), v = .ref l ∧ Ok T w1 σ H1 ∧ Stp w σ H w1 σ H1 ∧ H1 l = some (.lst vs) ∧ Reps T w1.ι w1.F vs ds ∧ PC.sortD PC.lenKey ds = some out ∧ ds.all PC.isTupD = true ∧
      ∀ v H', EP T w σ H false (.lst out, true) w1.st v H' → Q v H' := by
    refine ⟨w, k, h.bind.mono (fun r st y v H1 p => ?_) (fun _ _ _ z => z)⟩
    obtain ⟨w1, e1, k1, s1, q1, op, _⟩ := p
    subst e1
    obtain ⟨rr, er, y⟩ := Rp.opt y
    have cn := op.cnt k1
    have er : PC.srtLD (PC.drf w1.g r.1) = some rr := er
    cases hd : PC.drf w1.g r.1 with
    | lst ds =>
      rw [hd] at er cn
      have er : (if ds.all PC.isTupD = true then (PC.sortD PC.lenKey ds).bind PC.mkL else none) = some rr := er
      split at er
      · rename_i hall
        obtain ⟨out, eo, em⟩ := Option.bind_eq_some_iff.mp er
        obtain ⟨_, rfl⟩ := mkL_eq em
        obtain ⟨l, vs, rfl, hl, rs⟩ := cn
        exact ⟨w1, l, vs, ds, out, rfl, k1, s1, hl, rs, eo, hall, fun v H' ep => y v H' (by simpa [PC.quiet] using ep)⟩
      · cases er
    | _ => rw [hd] at er; cases er
  refine Calls.spliced_cons (thn (he.run pins s σ H _ I rd) fun v t1 ⟨x, H1, I1, rx, w1, l, vs, ds, out, ex, k1, s1, hl, rs, eo, hall, go⟩ => Calls.spliced_nil ?_)
  subst ex
  cases (show v = Value.ref l from rx)
  show wpAny _ _ (evalAll [do let v ← eval (.Lambda params (.Tuple [.Call (.Name "len" q1) [.Name y q2] [] q3, .Name y q4] n q5) scope lpos) X.env; standAt pos; pure v]) _ _ t1
  refine wpAny_evalAll_cons (wpAny_bind (make_lambda I1 TB hcode hm hu k1.tb.t hdef (fun z hz e => absurd e (nofree z hz)) fun f c' pm ctv H2 t2 I2 gr tb hf hco => wpAny_bind (wpAny_standAt (wpAny_pure (wpAny_evalAll_nil ?_)))))
  obtain ⟨k2, s2, _⟩ := k1.grown gr tb
  rw [cloFrom_nil nofree] at hf
  refine sorted_len hK hr hmL I2 k2 hf hco hsc hy (fun u => hbind _ _ _ _ u) (gr.keep hl rfl) rs eo hall fun v' H' rn => go v' H' (RN.ep k k2 (s1.trans k1 s2) (fun z => by cases z) rn)
end
end Br
end

section
set_option Elab.async false
set_option linter.all false
set_option maxRecDepth 100000
set_option maxHeartbeats 1000000
/-! Br38: a row's facts, a body's surroundings; calls by names. -/
namespace Br
open PySem PySem.Spec PySem.Calls PyProof.Rows L2
open PC (D E S Sl Cl Sg Gs Rs Re)

/-- a text's names -/
structure Rw where
  glo : List (Str × Nat)
  cls : List (Str × Nat)
  con : List (Str × D)
  free : List Str
  dd : Nat → Option He.DefD
  dv : Nat → List D
/-- the parameters' names -/
def parN (a : Arguments) : List Str := (a.posonlyargs ++ a.args).map (·.arg)
/-- what the head tells of a row -/
structure RowF (R : Rw) (T : Tb) (G : PC.Gl) (K : PySem.W.Frag) (mg : Str → Option Value) (dat : Nat → FuncData) : Prop where
  hK : T.K = K
  glo : ∀ x f, R.glo.lookup x = some f → mg x = some (.ref (T.fnA f))
  cls : ∀ x C, R.cls.lookup x = some C → mg x = some (.ref (T.clA C))
  free : ∀ x, R.free.contains x = true → mg x = none
  con : ∀ x d, R.con.lookup x = some d → ∃ v u, mg x = some u ∧ RelV v u ∧ ∀ ι F, Rep T ι F v d
  fn : ∀ f d, R.dd f = some d → FunD K d.name d.qual d.params d.body d.scope (d.dvs K) (d.kws K) (T.fnA f) (dat f)
  dfl : ∀ f d, R.dd f = some d → ∀ (j : Nat) (ι : List Addr) (F : Hp), Rep T ι F ((d.dvs K).getD j .non) ((R.dv f).getD j .non)
  isF : IsF T
  nmF : NmF T
  clsF : ClsF K T
  cmpF : CmpF T
  mkr : ∀ C f, T.own C = true → G.init C = some f → Mk K (T.clA C) (T.fnA f)
  mth : ∀ C m f, G.meth C m = some f → T.own C = true ∧ Meth K (T.clA C) (T.nm m) (T.fnA f)
  prp : ∀ C a p, G.at_ C a = some (.prop p) → T.own C = true ∧ ∃ q, PropOf K (T.clA C) (T.nm a) q (T.fnA p)
  fld : ∀ C a, G.at_ C a = some .fld → T.fld a = true
  val : ∀ C, T.own C = true → G.value C = true
  one : ∀ C m f, m = G.mEq ∨ m = G.mStr → G.meth C m = some f → ∃ d fd, R.dd f = some d ∧ G.fn f = some fd ∧ Binds K (dat f) (parN d.params) []
  prB : ∀ C a p, G.at_ C a = some (.prop p) → ∃ d fd, R.dd p = some d ∧ G.fn p = some fd ∧ Binds K (dat p) (parN d.params) []
  nEq : T.nm G.mEq = "__eq__"
  nSt : T.nm G.mStr = "__str__"
  noIn : ∀ C, G.meth C G.mIn = none
  noGet : ∀ C, G.meth C G.mGet = none
  noSet : ∀ C, G.meth C G.mSet = none
  noLen : ∀ C, G.meth C G.mLen = none
  noBool : ∀ C, G.meth C G.mBool = none
  noRepr : ∀ C, G.meth C G.mRepr = none
/-- the defs keep their promises at level n -/
structure LvF (P : Program) (w : World) (K : PySem.W.Frag) (mg : Str → Option Value) (base : Heap) (R : Rw) (T : Tb) (G : PC.Gl) (dat : Nat → FuncData) (n : Nat) : Prop where
  ok : ∀ f d fd, R.dd f = some d → G.fn f = some fd → FnOk P w K mg base CX0 (4 * n) (T.fnA f) (dat f) (parN d.params) (spL T G n fd)
/-- a body's surroundings -/
structure Ct (X : Cx) (R : Rw) (T : Tb) (G : PC.Gl) (dat : Nat → FuncData) (n : Nat) : Prop where
  row : RowF R T G X.K X.mg dat
  lv : LvF X.prog X.w X.K X.mg X.base R T G dat n
  calm : X.calm = true
  nd : X.N.Nodup
  xe : X.xe = fun _ _ => False
  room : Room (4 * n + 3) X.A
section
variable {X : Cx} {R : Rw} {T : Tb} {G : PC.Gl} {dat : Nat → FuncData} {n : Nat}
theorem Ct.hK (c : Ct X R T G dat n) : T.K = X.K := c.row.hK
theorem Ct.hu (c : Ct X R T G dat n) : X.A.units + 65 < cLine := by have := c.room.un; omega
theorem Ct.hu1 (c : Ct X R T G dat n) : X.A.units + 1 < cLine := by have := c.room.un; omega
theorem Ct.blk (c : Ct X R T G dat n) (s : Shared) (H : Hp) (scope : Scope) (cenv : Env) (fp : List Addr) : Ct (X.blk s H scope cenv fp) R T G dat n := ⟨c.row, c.lv, c.calm, c.nd, rfl, c.room⟩
/-! ### arrangements -/
def arrU (us its : List Value) : List (Sum Nat Nat) → List Value
  | [] => []
  | .inl k :: r => us.getD k .none :: arrU us its r
  | .inr j :: r => its.getD j .none :: arrU us its r
def pvOf (dvs : List V) : List (Sum Nat Nat) → List (Sum Nat V)
  | [] => []
  | .inl k :: r => .inl k :: pvOf dvs r
  | .inr j :: r => .inr (dvs.getD j .non) :: pvOf dvs r
def pdOf (ds : List D) : List (Sum Nat Nat) → List (Sum Nat D)
  | [] => []
  | .inl k :: r => .inl k :: pdOf ds r
  | .inr j :: r => .inr (ds.getD j .non) :: pdOf ds r
def cntI : List (Sum Nat Nat) → Nat
  | [] => 0
  | .inl _ :: r => cntI r + 1
  | .inr _ :: r => cntI r
theorem cnt_pd (ds : List D) : ∀ ix, cntL (pdOf ds ix) = cntI ix
  | [] => rfl
  | .inl _ :: r => congrArg (· + 1) (cnt_pd ds r)
  | .inr _ :: r => cnt_pd ds r
theorem vals_getD {vs : List V} {us : List Value} (r : Vals vs us) (k : Nat) : RelV (vs.getD k .non) (us.getD k .none) := by
  induction r generalizing k with
  | nil => exact rfl
  | cons h t ih =>
    cases k with
    | zero => exact h
    | succ k => simpa using ih k
theorem arr_rel {vs dvs : List V} {us its : List Value} (r : Vals vs us) (r2 : Vals dvs its) : ∀ ix, Vals (arrV vs (pvOf dvs ix)) (arrU us its ix)
  | [] => .nil
  | .inl k :: ix => .cons (vals_getD r k) (arr_rel r r2 ix)
  | .inr j :: ix => .cons (vals_getD r2 j) (arr_rel r r2 ix)
theorem pv_rel {dvs : List V} {ds : List D} (h : ∀ (j : Nat) (ι : List Addr) (F : Hp), Rep T ι F (dvs.getD j .non) (ds.getD j .non)) : ∀ ix, PvR T (pvOf dvs ix) (pdOf ds ix)
  | [] => .nil
  | .inl k :: ix => .inl k (pv_rel h ix)
  | .inr j :: ix => .inr (h j) (pv_rel h ix)
/-- how a call binds, without defaults -/
theorem shp0 {K : PySem.W.Frag} {x qual : Str} {params : Arguments} {body : List Stmt} {scope : Scope} {f : Addr} {fd : FuncData} {m : Nat} {ks ps : List Str} {pd : List (Sum Nat D)} (hK : T.K = K) (F : FunD K x qual params body scope [] [] f fd) (ix : List (Sum Nat Nat))
    (h : ∀ (kV doc pm : Value) (an : Option Addr) (cdv ct : Value) (us ws : List Value), us.length = m → ws.length = ks.length → bindArgs (PySem.W.fnOf x qual params body scope .none kV doc pm an cdv ct) ⟨us, ks.zip ws⟩ = pure (ps.zip (arrU (us ++ ws) [] ix)))
    (hp : pd = pdOf [] ix) (hc : cntI ix = m + ks.length) : Shp T fd ps m ks pd := by
  subst hK
  obtain ⟨oc, od, dV, kV, doc, pm, an, cdv, ct, osl, rfl, lk, hcd, hD, _⟩ := F.ex
  rcases hD with ⟨_, rfl⟩ | ⟨e, _⟩
  · subst hp
    refine ⟨⟨fun us ws => arrU (us ++ ws) [] ix, fun vs zs => arrV (vs ++ zs) (pvOf [] ix), pvOf [] ix, ⟨fun s us ws X l1 l2 => .of_eq (h _ _ _ _ _ _ us ws l1 l2), fun r1 r2 => arr_rel (r1.append r2) .nil ix⟩, pv_rel (fun j ι F => ?_) ix, fun _ _ _ _ => rfl, by rw [cnt_pd, hc]⟩⟩
    exact .non
  · exact absurd rfl e
/-- .. with defaults -/
theorem shpD {K : PySem.W.Frag} {x qual : Str} {params : Arguments} {body : List Stmt} {scope : Scope} {f : Addr} {fd : FuncData} {m : Nat} {ks ps : List Str} {pd : List (Sum Nat D)} {dvs : List V} {ds : List D} (hK : T.K = K) (F : FunD K x qual params body scope dvs [] f fd) (hd : dvs ≠ []) (hr : ∀ (j : Nat) (ι : List Addr) (F : Hp), Rep T ι F (dvs.getD j .non) (ds.getD j .non)) (ix : List (Sum Nat Nat))
    (h : ∀ (A : Addr) (kV doc pm : Value) (an : Option Addr) (cdv ct : Value) (us ws its : List Value), us.length = m → ws.length = ks.length → its.length = dvs.length → ∃ k, bindArgs (PySem.W.fnOf x qual params body scope (.ref A) kV doc pm an cdv ct) ⟨us, ks.zip ws⟩ = seqItems? (.ref A) >>= k ∧ k (some its.toArray) = pure (ps.zip (arrU (us ++ ws) its ix)))
    (hp : pd = pdOf ds ix) (hc : cntI ix = m + ks.length) : Shp T fd ps m ks pd := by
  subst hK
  obtain ⟨oc, od, dV, kV, doc, pm, an, cdv, ct, osl, rfl, lk, hcd, hD, _⟩ := F.ex
  rcases hD with ⟨e, _⟩ | ⟨_, A, o, its, q, rfl, lT, oT, rT⟩
  · exact absurd e hd
  · subst hp
    refine ⟨⟨fun us ws => arrU (us ++ ws) its ix, fun vs zs => arrV (vs ++ zs) (pvOf dvs ix), pvOf dvs ix, ⟨fun s us ws X l1 l2 => ?_, fun r1 r2 => arr_rel (r1.append r2) rT ix⟩, pv_rel hr ix, fun _ _ _ _ => rfl, by rw [cnt_pd, hc]⟩⟩
    obtain ⟨k, e1, e2⟩ := h A kV doc pm an cdv ct us ws its l1 l2 rT.length.symm
    refine BindsTo.of_looks fun M => ?_
    rw [e1]
    exact looks_items X lT oT (.of_pure e2)
/-- behind the object itself -/
def shf {α : Type} : List (Sum Nat α) → List (Sum Nat α)
  | [] => []
  | .inl k :: r => .inl (k + 1) :: shf r
  | .inr d :: r => .inr d :: shf r
theorem shf_cnt : ∀ pd : List (Sum Nat D), cntL (shf pd) = cntL pd
  | [] => rfl
  | .inl _ :: r => congrArg (· + 1) (shf_cnt r)
  | .inr _ :: r => shf_cnt r
theorem shf_inv {pv : List (Sum Nat V)} : ∀ {pd : List (Sum Nat D)}, PvR T pv (shf pd) → ∃ pv', pv = shf pv' ∧ PvR T pv' pd
  | [], h => by cases h; exact ⟨[], rfl, .nil⟩
  | .inl k :: r, h => by
    cases h with
    | inl k h =>
      obtain ⟨q, rfl, h2⟩ := shf_inv h
      exact ⟨.inl k :: q, rfl, .inl k h2⟩
  | .inr d :: r, h => by
    cases h with
    | inr hr h =>
      obtain ⟨q, rfl, h2⟩ := shf_inv h
      exact ⟨.inr _ :: q, rfl, .inr hr h2⟩
theorem arr_shf (x : V) (L : List V) : ∀ pv : List (Sum Nat V), arrV (x :: L) (shf pv) = arrV L pv
  | [] => rfl
  | .inl k :: r => by
    show (x :: L).getD (k + 1) .non :: arrV (x :: L) (shf r) = L.getD k .non :: arrV L r
    rw [arr_shf x L r]
    simp
  | .inr v :: r => by
    show v :: arrV (x :: L) (shf r) = v :: arrV L r
    rw [arr_shf x L r]
theorem shpM {fd : FuncData} {ps ks : List Str} {m : Nat} {pd : List (Sum Nat D)} (S : Shp T fd ps (m + 1) ks (.inl 0 :: shf pd)) : ShpM T fd ps m ks pd := by
  obtain ⟨g, gV, pv, h1, h2, h3, h4⟩ := S.ex
  cases h2 with
  | inl _ h2 =>
  obtain ⟨pv', rfl, h5⟩ := shf_inv h2
  refine ⟨g, gV, pv', h1, h5, fun x vs zs l1 l2 => ?_, ?_⟩
  · rw [h3 (x :: vs) zs (congrArg (· + 1) l1) l2]
    show (x :: (vs ++ zs)).getD 0 .non :: arrV (x :: (vs ++ zs)) (shf pv') = _
    rw [arr_shf]
    rfl
  · have z : cntL (shf pd) + 1 = m + 1 + ks.length := h4
    rw [shf_cnt] at z
    omega
/-! ### calls -/
/-- no starred one (core) -/
def nStr : E → Bool
  | .star _ => false
  | _ => true
theorem nStr_ok {es : List E} (h : es.all nStr = true) : ∀ e ∈ es, ∀ a, e ≠ .star a := fun e he a z => by
  have := List.all_eq_true.mp h e he
  rw [z] at this
  cases this
theorem eCall (c : Ct X R T G dat n) (m : Nat) {f : Nat} {d : He.DefD} {fd : PC.Fd} {x : Str} {es : List Expr} {kws : List Keyword} {ks : List Str} {cs : List E} {pd : List (Sum Nat D)} {p pos : Pos} (hx : R.glo.lookup x = some f) (hd : R.dd f = some d) (hf : G.fn f = some fd) (S : Shp T (dat f) (parN d.params) m ks pd)
    (ha : PA X es (tAs T G (PC.evFn G n) none none (cs.take m))) (hk : PK X kws (tAs T G (PC.evFn G n) none none (cs.drop m))) (hg : Gl X x := by rfl) (hdb : (x == ("__debug__" : Str)) = false := by rfl) (hn : kwN kws = some ks := by rfl) (hst : es.all nSt = true := by rfl)
    (hsa : (cs.take m).all nStr = true := by rfl) (hsb : (cs.drop m).all nStr = true := by rfl) (hm : (cs.take m).length = m := by rfl) (hl : es.length = m := by rfl) (hl2 : (cs.drop m).length = ks.length := by rfl) : PE X (.Call (.Name x p) es kws pos) (tE T G (PC.evFn G n) none none (.call f cs pd)) := by
  have S : Shp T (dat f) (parN d.params) (cs.take m).length ks pd := by rw [hm]; exact S
  have hl : (cs.take m).length = es.length := by rw [hm, hl]
  rw [show E.call f cs pd = .call f (cs.take m ++ cs.drop m) pd by rw [List.take_append_drop]]
  generalize hA : cs.take m = as at ha hsa hl S hm
  generalize hB : cs.drop m = bs at hk hsb hl2
  obtain ⟨g, gV, pv, h1, h2, h3, h4⟩ := S.ex
  rw [c.hK] at h1
  have F := c.lv.ok f d fd hd hf
  have D := c.row.fn f d hd
  have hr : Room (4 * n) X.A := c.room.mono (by omega)
  cases es with
  | nil =>
    cases as with
    | cons _ _ => cases hl
    | nil =>
      refine peImp (pe_callG0 (E := E0) F hr hg (c.row.glo x f hx) D.kp h1 pass0 hdb hk hn) fun σ H Q h => ?_
      have z := call_of (E0 := E0) (as := []) hf h2 h3 hl2 h4 (nStr_ok hsa) (nStr_ok hsb) h
      exact as_nil z
  | cons e es =>
    exact peImp (pe_callG (E := E0) F hr hg (c.row.glo x f hx) D.kp h1 pass0 hdb ha hk hn hst) fun σ H Q h => call_of (E0 := E0) hf h2 h3 hl2 h4 (nStr_ok hsa) (nStr_ok hsb) h
theorem eMake (c : Ct X R T G dat n) (m : Nat) {C f : Nat} {d : He.DefD} {fd : PC.Fd} {x : Str} {es : List Expr} {kws : List Keyword} {ks : List Str} {cs : List E} {pd : List (Sum Nat D)} {p pos : Pos} (hx : R.cls.lookup x = some C) (ho : T.own C = true) (hex : G.excF C = none) (hi : G.init C = some f) (hd : R.dd f = some d) (hf : G.fn f = some fd) (S : ShpM T (dat f) (parN d.params) m ks pd)
    (ha : PA X es (tAs T G (PC.evFn G n) none none (cs.take m))) (hk : PK X kws (tAs T G (PC.evFn G n) none none (cs.drop m))) (hg : Gl X x := by rfl) (hdb : (x == ("__debug__" : Str)) = false := by rfl) (hn : kwN kws = some ks := by rfl) (hst : es.all nSt = true := by rfl)
    (hsa : (cs.take m).all nStr = true := by rfl) (hsb : (cs.drop m).all nStr = true := by rfl) (hm : (cs.take m).length = m := by rfl) (hl : es.length = m := by rfl) (hl2 : (cs.drop m).length = ks.length := by rfl) : PE X (.Call (.Name x p) es kws pos) (tE T G (PC.evFn G n) none none (.make C cs pd)) := by
  have S : ShpM T (dat f) (parN d.params) (cs.take m).length ks pd := by rw [hm]; exact S
  have hl : (cs.take m).length = es.length := by rw [hm, hl]
  rw [show E.make C cs pd = .make C (cs.take m ++ cs.drop m) pd by rw [List.take_append_drop]]
  generalize hA : cs.take m = as at ha hsa hl S hm
  generalize hB : cs.drop m = bs at hk hsb hl2
  obtain ⟨g, gV, pv, h1, h2, h3, h4⟩ := S.ex
  rw [c.hK] at h1
  have F := c.lv.ok f d fd hd hf
  have M := c.row.mkr C f ho hi
  have hr : Room (4 * n + 1) X.A := c.room.mono (by omega)
  cases es with
  | nil =>
    cases as with
    | cons _ _ => cases hl
    | nil =>
      refine peImp (pe_makeG0 (E := E0) M F hr hg (c.row.cls x C hx) h1 pass0 hdb hk hn) fun σ H Q h => ?_
      have z := make_of (E0 := E0) (as := []) hex hi hf ho h2 h3 hl2 h4 (nStr_ok hsa) (nStr_ok hsb) h
      exact as_nil z
  | cons e es =>
    exact peImp (pe_makeG (E := E0) M F hr hg (c.row.cls x C hx) h1 pass0 hdb ha hk hn hst) fun σ H Q h => make_of (E0 := E0) hex hi hf ho h2 h3 hl2 h4 (nStr_ok hsa) (nStr_ok hsb) h
end
end Br
end

section
set_option Elab.async false
set_option linter.all false
set_option maxRecDepth 100000
set_option maxHeartbeats 1000000
/-! Br39: the rules with their side conditions found by themselves. -/
namespace Br
open PySem PySem.Spec PySem.Calls PyProof.Rows L2
open PC (D E S Sl Cl Sg Gs Rs Re)
section
variable {X : Cx} {R : Rw} {T : Tb} {G : PC.Gl} {dat : Nat → FuncData} {n : Nat}
theorem tE.imp {cf : PC.CF} {th : Option (Gs → Re)} {W : Option WX} {c : E} {σ : L2.St} {H : Hp} {Q Q' : VK} (h : tE T G cf th W c σ H Q) (i : ∀ v H', Q v H' → Q' v H') : tE T G cf th W c σ H Q' := by
  obtain ⟨w, k, h⟩ := h
  exact ⟨w, k, h.mono (fun r st z v H' p => i _ _ (z v H' p)) (fun _ _ _ z => z)⟩
/-! ### methods, attributes -/
theorem eMeth (c : Ct X R T G dat n) (k : Nat) {m : Nat} {o : Expr} {co : E} {x : Str} {es : List Expr} {kws : List Keyword} {ks : List Str} {cs : List E} {pd : List (Sum Nat D)} {apos pos : Pos} (hm : T.fld m = false) (hx : x = T.nm m)
    (S : ∀ C f, G.meth C m = some f → ∃ d fd, R.dd f = some d ∧ G.fn f = some fd ∧ ShpM T (dat f) (parN d.params) k ks pd) (ho : PE X o (tE T G (PC.evFn G n) none none co))
    (ha : PA X es (tAs T G (PC.evFn G n) none none (cs.take k))) (hk : PK X kws (tAs T G (PC.evFn G n) none none (cs.drop k))) (hn : kwN kws = some ks := by rfl) (hst : es.all nSt = true := by rfl)
    (hsa : (cs.take k).all nStr = true := by rfl) (hsb : (cs.drop k).all nStr = true := by rfl) (hkk : (cs.take k).length = k := by rfl) (hl : es.length = k := by rfl) (hl2 : (cs.drop k).length = ks.length := by rfl) (hb : pBase o = true := by rfl) (hw : fewKw es kws = true := by rfl) (hr : (apos.endLine == pos.line) = true := by rfl) :
    PE X (.Call (.Attribute o x apos) es kws pos) (tE T G (PC.evFn G n) none none (.meth co m cs pd)) := by
  have S : ∀ C f, G.meth C m = some f → ∃ d fd, R.dd f = some d ∧ G.fn f = some fd ∧ ShpM T (dat f) (parN d.params) (cs.take k).length ks pd := by rw [hkk]; exact S
  have hl : (cs.take k).length = es.length := by rw [hkk, hl]
  rw [show E.meth co m cs pd = .meth co m (cs.take k ++ cs.drop k) pd by rw [List.take_append_drop]]
  generalize hA : cs.take k = as at ha hsa hl S hkk
  generalize hB : cs.drop k = bs at hk hsb hl2
  subst hx
  refine ⟨fun pins s σ H Q I h => ?_⟩
  refine meth_of (E0 := E0) (P := fun σ H Q => ∀ (pins : List (Addr × Obj)) (s : Shared), Inv X pins σ H s → wpAny (model X.prog X.w) X.A (eval (.Call (.Attribute o (T.nm m) apos) es kws pos) X.env) (L2.EP X pins σ Q) X.xe s) c.row.nmF hm hl2 (nStr_ok hsa) (nStr_ok hsb) (fun C f fd hmf hf => ?_) h pins s I
  obtain ⟨d, fd', hd, hf', ⟨g, gV, pv, h1, h2, h3, h4⟩⟩ := S C f hmf
  rw [hf] at hf'
  cases hf'
  rw [c.hK] at h1
  refine ⟨pv, gV, ⟨h2, h3, h4⟩, fun σ H Q h pins s I => ?_⟩
  obtain ⟨own, M⟩ := c.row.mth C m f hmf
  have F := c.lv.ok f d fd hd hf
  have hr' : Room (4 * n) X.A := c.room.mono (by omega)
  have cl : Cls X.K (T.clA C) := c.row.clsF.cls C own
  cases es with
  | nil =>
    cases as with
    | cons _ _ => cases hl
    | nil =>
      refine (pe_methG0 (E := E0) cl M F hr' h1 pass0 ho hk hn hb hw hr).run pins s σ H Q I ?_
      exact h.imp fun v H1 z => by
        obtain ⟨a, dx, fs, e1, e2, e3, z⟩ := z
        exact ⟨a, dx, fs, e1, e2, e3, as_nil z⟩
  | cons e es => exact (pe_methG (E := E0) cl M F hr' h1 pass0 ho ha hk hn hst hb hw hr).run pins s σ H Q I h
theorem eAttr (c : Ct X R T G dat n) {a : Nat} {o : Expr} {co : E} {x : Str} {pos : Pos} (hx : x = T.nm a) (ho : PE X o (tE T G (PC.evFn G n) none none co)) (hb : pBase o = true := by rfl) : PE X (.Attribute o x pos) (tE T G (PC.evFn G n) none none (.attr co a)) := by
  subst hx
  have hf := pe_fld (f := T.nm a) (pos := pos) ho (base_ne hb _ _ _)
  refine ⟨fun pins s σ H Q I h => ?_⟩
  refine attr_of (E0 := E0) (P := fun σ H Q => ∀ (pins : List (Addr × Obj)) (s : Shared), Inv X pins σ H s → wpAny (model X.prog X.w) X.A (eval (.Attribute o (T.nm a) pos) X.env) (L2.EP X pins σ Q) X.xe s) c.row.nmF (fun C own hat => ⟨c.row.fld C a hat, by rw [c.hK]; exact c.row.clsF.att C a own (c.row.fld C a hat), by rw [c.hK]; exact c.row.clsF.cls C own⟩)
    (fun _ σ H Q h pins s I => hf.run pins s σ H Q I (by rw [← c.hK]; exact h)) (fun σ H Q h pins s I => hf.run pins s σ H Q I (h.imp fun _ _ z => z.elim)) (fun C p fd hat hfn σ H Q h pins s I => ?_) h pins s I
  obtain ⟨own, q, P⟩ := c.row.prp C a p hat
  obtain ⟨d, fd', hd, hf', B⟩ := c.row.prB C a p hat
  rw [hfn] at hf'
  cases hf'
  have F := c.lv.ok p d fd hd hfn
  exact (pe_prop (E := E0) ho (c.row.clsF.cls C own) P F (c.room.mono (by omega)) B .nil pass0 (base_ne hb _ _ _)).run pins s σ H Q I h
/-! ### names, constants -/
theorem vN {i : Nat} {x : Str} {pos : Pos} (hN : X.N[i]? = some x := by rfl) (hv : Vis X.env.scope x := by first | exact .inl rfl | exact .inr (.inl rfl) | exact .inr (.inr rfl)) (hd : (x == ("__debug__" : Str)) = false := by rfl) (hcd : (x == ("__classdict__" : Str)) = false := by rfl) :
    PE X (.Name x pos) (tE T G (PC.evFn G n) none none (.v i)) := pe_name hN hv hd hcd
theorem lN {i : Nat} {x : Str} {q : Bool} {pos : Pos} (hN : X.N[i]? = some x := by rfl) (hv : Vis X.env.scope x := by first | exact .inl rfl | exact .inr (.inl rfl) | exact .inr (.inr rfl)) (hd : (x == ("__debug__" : Str)) = false := by rfl) (hcd : (x == ("__classdict__" : Str)) = false := by rfl) :
    PE X (.Name x pos) (tL T G (PC.evFn G n) none none q (.v i)) := he_name hN hv hd hcd q
def noV : E → Bool
  | .v _ => false
  | _ => true
theorem noV_ok {c : E} (h : noV c = true) : ∀ i, c ≠ .v i := fun i z => by rw [z] at h; cases h
theorem lE {e : Expr} {c : E} {q : Bool} (h : PE X e (tE T G (PC.evFn G n) none none c)) (hc : noV c = true := by rfl) : PE X e (tL T G (PC.evFn G n) none none q c) := PE.opd h (.inr (noV_ok hc))
theorem kN {j : Nat} {pos : Pos} : PE X (.Constant .none j pos) (tE T G (PC.evFn G n) none none (.c .non)) := pe_const pe_non fun _ _ => .non
theorem kB {b : Bool} {j : Nat} {pos : Pos} : PE X (.Constant (.bool b) j pos) (tE T G (PC.evFn G n) none none (.c (.bl b))) := pe_const pe_bl fun _ _ => .bl b
theorem kI {i : Int} {j : Nat} {pos : Pos} : PE X (.Constant (.int i) j pos) (tE T G (PC.evFn G n) none none (.c (.int i))) := pe_const pe_int fun _ _ => .int i
theorem kS {x : Str} {l : List Nat} {j : Nat} {pos : Pos} (h : x.cps.toList = l := by rfl) : PE X (.Constant (.str x) j pos) (tE T G (PC.evFn G n) none none (.c (.str l))) := by
  subst h
  exact pe_const pe_str fun _ _ => .str x
theorem kG (c : Ct X R T G dat n) {x : Str} {d : D} {pos : Pos} (hx : R.con.lookup x = some d := by rfl) (hg : Gl X x := by rfl) (hdb : (x == ("__debug__" : Str)) = false := by rfl) : PE X (.Name x pos) (tE T G (PC.evFn G n) none none (.c d)) := by
  obtain ⟨v, u, hm, r, hr⟩ := c.row.con x d hx
  exact pe_const (pe_glob hg hm r hdb) hr
/-! ### operators -/
theorem eBin (c : Ct X R T G dat n) {o : PC.BOp} {f : Operator} {a b : Expr} {ca cb : E} {pos : Pos} (ha : PE X a (tL T G (PC.evFn G n) none none (PC.quiet cb) ca)) (hb : PE X b (tL T G (PC.evFn G n) none none true cb)) (ho : f = (match o with
    | .add => .Add
    | .sub => .Sub
    | .mul => .Mult
    | .fdiv => .FloorDiv
    | .mod => .Mod
    | .pow => .Pow) := by rfl) : PE X (.BinOp a f b pos) (tE T G (PC.evFn G n) none none (.bin o ca cb)) := pe_bin c.hK ho ha hb
theorem Ct.own (c : Ct X R T G dat n) {m : Nat} {nm : Str} (h : m = G.mEq ∨ m = G.mStr) (hn : T.nm m = nm) : OwnM X T G n (4 * n) m nm := ⟨fun C f own hm => by
  obtain ⟨d, fd, hd, hf, B⟩ := c.row.one C m f h hm
  obtain ⟨_, M⟩ := c.row.mth C m f hm
  exact ⟨fd, dat f, parN d.params, hf, by rw [← hn]; exact M.at_, M.fn, B, c.lv.ok f d fd hd hf⟩⟩
theorem Ct.op (c : Ct X R T G dat n) (o : PC.COp) : OpR X (compareOp (cOp o)) (rCmpIn T G (PC.evFn G n) none o) := by
  cases o with
  | eq => exact op_eqIn c.hK c.row.isF c.row.cmpF c.row.val (c.own (.inl rfl) c.row.nEq) (c.room.mono (by omega))
  | ne => exact op_neIn c.hK c.row.isF c.row.cmpF c.row.val (c.own (.inl rfl) c.row.nEq) (c.room.mono (by omega))
  | in_ => exact op_inIn c.hK c.hu (.inl rfl) c.row.noIn
  | nin => exact op_inIn c.hK c.hu (.inr rfl) c.row.noIn
  | _ => exact op_neither (by simp) (by simp) (by simp) (by simp)
theorem eCmp (c : Ct X R T G dat n) (o : PC.COp) {a b : Expr} {ca cb : E} {pos : Pos} (ha : PE X a (tL T G (PC.evFn G n) none none (PC.quiet cb) ca)) (hb : PE X b (tL T G (PC.evFn G n) none none true cb)) (hm : behindInMarks (cOp o) b = false := by rfl) :
    PE X (.Compare a [cOp o] [b] pos) (tE T G (PC.evFn G n) none none (.cmp o ca cb)) := pe_cmpC c.hK c.hu (c.op o) ha hb hm
theorem tCmp (c : Ct X R T G dat n) (o : PC.COp) {a b : Expr} {ca cb : E} {pos : Pos} (ha : PE X a (tL T G (PC.evFn G n) none none (PC.quiet cb) ca)) (hb : PE X b (tL T G (PC.evFn G n) none none true cb)) (hm : behindInMarks (cOp o) b = false := by rfl) :
    PT X (.Compare a [cOp o] [b] pos) (tTs T G (PC.evFn G n) none none (.cmp o ca cb)) := pt_cmpC c.hK c.hu (c.op o) ha hb hm
theorem eChn (c : Ct X R T G dat n) (o p : PC.COp) {a b d : Expr} {ca cb cd : E} {pos : Pos} (ha : PE X a (tE T G (PC.evFn G n) none none ca)) (hb : PE X b (tE T G (PC.evFn G n) none none cb)) (hd : PE X d (tE T G (PC.evFn G n) none none cd))
    (hm : lastMarks [cOp o, cOp p] [b, d] = false := by rfl) : PE X (.Compare a [cOp o, cOp p] [b, d] pos) (tE T G (PC.evFn G n) none none (.chn o p ca cb cd)) := pe_chnC c.hK c.hu ha hb hd hm
theorem tChn (c : Ct X R T G dat n) (o p : PC.COp) {a b d : Expr} {ca cb cd : E} {pos : Pos} (ha : PE X a (tE T G (PC.evFn G n) none none ca)) (hb : PE X b (tE T G (PC.evFn G n) none none cb)) (hd : PE X d (tE T G (PC.evFn G n) none none cd))
    (hm : lastMarks [cOp o, cOp p] [b, d] = false := by rfl) : PT X (.Compare a [cOp o, cOp p] [b, d] pos) (tTs T G (PC.evFn G n) none none (.chn o p ca cb cd)) := pt_chnC c.hK c.hu ha hb hd hm
theorem tVal {e : Expr} {c : E} (h : PE X e (tE T G (PC.evFn G n) none none c)) (hp : pTest e = true := by rfl) : PT X e (tTs T G (PC.evFn G n) none none c) := pt_of h fun w => test_ne hp _ w
/-! ### arguments, displays -/
theorem a0 : PA X [] (tAs T G (PC.evFn G n) none none []) := pa_nilC
theorem aC {c : E} {cs : List E} {e : Expr} {es : List Expr} (he : PE X e (tE T G (PC.evFn G n) none none c)) (hes : PA X es (tAs T G (PC.evFn G n) none none cs)) (hs : nSt e = true := by rfl) (hc : nStr c = true := by rfl) : PA X (e :: es) (tAs T G (PC.evFn G n) none none (c :: cs)) :=
  pa_consC (fun a z => by rw [z] at hc; cases hc) he hes (star_ne hs _ _)
theorem aS (c : Ct X R T G dat n) {d : E} {cs : List E} {e : Expr} {es : List Expr} {p : Pos} (he : PE X e (tL T G (PC.evFn G n) none none (PC.quietL cs) d)) (hes : PA X es (tAs T G (PC.evFn G n) none none cs)) : PA X (.Starred e p :: es) (tAs T G (PC.evFn G n) none none (.star d :: cs)) := pa_starC c.hK he hes rfl
theorem k0 : PK X [] (tAs T G (PC.evFn G n) none none []) := pk_nilC
theorem kC {c : E} {cs : List E} {e : Expr} {nm : Option Str} {kpos : Pos} {kws : List Keyword} (he : PE X e (tE T G (PC.evFn G n) none none c)) (hes : PK X kws (tAs T G (PC.evFn G n) none none cs)) (hc : nStr c = true := by rfl) : PK X (⟨nm, e, kpos⟩ :: kws) (tAs T G (PC.evFn G n) none none (c :: cs)) :=
  pk_consC (fun a z => by rw [z] at hc; cases hc) he hes
/-! ### places -/
theorem eIdx (c : Ct X R T G dat n) {a b : Expr} {ca cb : E} {pos : Pos} (ha : PE X a (tL T G (PC.evFn G n) none none (PC.quiet cb) ca)) (hb : PE X b (tE T G (PC.evFn G n) none none cb)) (hs : nSl b = true := by rfl) : PE X (.Subscript a b pos) (tE T G (PC.evFn G n) none none (.idx ca cb)) := pe_idxC c.hK c.hu (ix_inNo c.row.noGet) ha hb hs
theorem p0 : PO X none (tP T G (PC.evFn G n) none none (.c .non)) := po_noneC
def noN : E → Bool
  | .c .non => false
  | _ => true
theorem p1 {e : Expr} {c : E} (h : PE X e (tE T G (PC.evFn G n) none none c)) (hc : noN c = true := by rfl) : PO X (some e) (tP T G (PC.evFn G n) none none c) := po_someC h fun z => by rw [z] at hc; cases hc
theorem eSlc (c : Ct X R T G dat n) {a : Expr} {lo hi : Option Expr} {ca cl ch : E} {p2 pos : Pos} (ha : PE X a (tL T G (PC.evFn G n) none none (PC.quiet cl && PC.quiet ch) ca)) (hl : PO X lo (tP T G (PC.evFn G n) none none cl)) (hh : PO X hi (tP T G (PC.evFn G n) none none ch)) :
    PE X (.Subscript a (.Slice lo hi none p2) pos) (tE T G (PC.evFn G n) none none (.slc ca cl ch)) := pe_slcC c.hK ha hl hh
/-! ### built-ins -/
theorem Ct.fr (c : Ct X R T G dat n) {x : Str} (h : R.free.contains x = true) : X.mg x = none := c.row.free x h
theorem bB (c : Ct X R T G dat n) {b : PC.Bi} {id : String} {x : Str} {d : E} {e : Expr} {p pos : Pos} (hD : CallR X (.builtin id) (rBi T b)) (hI : CallR X (.builtin id) (rIn T G (PC.evFn G n) none b)) (he : PE X e (tL T G (PC.evFn G n) none none true d)) (hf : R.free.contains x = true := by rfl) (hg : Gl X x := by rfl) (hv : bootBuiltins x = some (.builtin id) := by rfl)
    (hn : x ≠ "__name__" := by decide) (hdb : (x == ("__debug__" : Str)) = false := by rfl) (hs : nSt e = true := by rfl) : PE X (.Call (.Name x p) [e] [] pos) (tE T G (PC.evFn G n) none none (.bi b [d])) := pe_bi1B hD hI hg (c.fr hf) hv hn hdb he hs
theorem bT (c : Ct X R T G dat n) {b : PC.Bi} {id : String} {x : Str} {d : E} {e : Expr} {p pos : Pos} (hD : CallR X (.type id) (rBi T b)) (hI : CallR X (.type id) (rIn T G (PC.evFn G n) none b)) (he : PE X e (tL T G (PC.evFn G n) none none true d)) (hf : R.free.contains x = true := by rfl) (hg : Gl X x := by rfl) (hv : bootBuiltins x = some (.type id) := by rfl)
    (hn : x ≠ "__name__" := by decide) (hdb : (x == ("__debug__" : Str)) = false := by rfl) (hs : nSt e = true := by rfl) : PE X (.Call (.Name x p) [e] [] pos) (tE T G (PC.evFn G n) none none (.bi b [d])) := pe_bi1T hD hI hg (c.fr hf) hv hn hdb he hs
theorem bL (c : Ct X R T G dat n) {b : PC.Bi} {id : String} {x : Str} {cs : List E} {e : Expr} {es : List Expr} {p pos : Pos} (hD : CallR X (.builtin id) (rBi T b)) (he : PA X (e :: es) (tAs T G (PC.evFn G n) none none cs)) (hf : R.free.contains x = true := by rfl) (hg : Gl X x := by rfl) (hv : bootBuiltins x = some (.builtin id) := by rfl)
    (hn : x ≠ "__name__" := by decide) (hdb : (x == ("__debug__" : Str)) = false := by rfl) (hs : (e :: es).all nSt = true := by rfl) (hl : cs.length ≠ 1 := by decide) : PE X (.Call (.Name x p) (e :: es) [] pos) (tE T G (PC.evFn G n) none none (.bi b cs)) := pe_biLB hD hl hg (c.fr hf) hv hn hdb he hs
theorem Ct.inNo {f : Value} {b : PC.Bi} (h : b ≠ .len := by simp) (h2 : b ≠ .bool := by simp) (h3 : b ≠ .str := by simp) (h4 : b ≠ .repr := by simp) : CallR X f (rIn T G (PC.evFn G n) none b) := in_no h h2 h3 h4
theorem bLen (c : Ct X R T G dat n) {x : Str} {d : E} {e : Expr} {p pos : Pos} (he : PE X e (tL T G (PC.evFn G n) none none true d)) (hf : R.free.contains x = true := by rfl) (hg : Gl X x := by rfl) (hv : bootBuiltins x = some (.builtin "len") := by rfl)
    (hn : x ≠ "__name__" := by decide) (hdb : (x == ("__debug__" : Str)) = false := by rfl) (hs : nSt e = true := by rfl) : PE X (.Call (.Name x p) [e] [] pos) (tE T G (PC.evFn G n) none none (.bi .len [d])) := bB c (bi_len c.hK) (in_none (.inl ⟨rfl, rfl⟩) c.row.noLen) he hf hg hv hn hdb hs
theorem bStr (c : Ct X R T G dat n) {x : Str} {d : E} {e : Expr} {p pos : Pos} (he : PE X e (tL T G (PC.evFn G n) none none true d)) (hf : R.free.contains x = true := by rfl) (hg : Gl X x := by rfl) (hv : bootBuiltins x = some (.type "str") := by rfl)
    (hn : x ≠ "__name__" := by decide) (hdb : (x == ("__debug__" : Str)) = false := by rfl) (hs : nSt e = true := by rfl) : PE X (.Call (.Name x p) [e] [] pos) (tE T G (PC.evFn G n) none none (.bi .str [d])) := bT c bi_str (in_str (c.own (.inr rfl) c.row.nSt) (c.room.mono (by omega))) he hf hg hv hn hdb hs
/-! ### isinstance -/
theorem eIs1 (c : Ct X R T G dat n) {a ty : Expr} {x : Str} {ca : E} {t : PC.Ty} {p pos : Pos} (ha : PE X a (tE T G (PC.evFn G n) none none ca)) (hty : PE X ty (tC (tyV' T t))) (ho : tyOwn T t = true) (hf : R.free.contains x = true := by rfl) (hg : Gl X x := by rfl) (hv : bootBuiltins x = some (.builtin "isinstance") := by rfl) (hn : x ≠ "__name__" := by decide) (hdb : (x == ("__debug__" : Str)) = false := by rfl)
    (hs : nSt a = true := by rfl) (hs2 : nSt ty = true := by rfl) : PE X (.Call (.Name x p) [a, ty] [] pos) (tE T G (PC.evFn G n) none none (.isi ca [t])) := pe_isi1 c.hK c.row.isF hg (c.fr hf) hv hn hdb ha hs hty hs2 ho
/-- a built-in class, a class of one's own, as a value -/
theorem tyB (c : Ct X R T G dat n) {x : Str} {v : V} {u : Value} {pos : Pos} (r : RelV v u := by rfl) (hf : R.free.contains x = true := by rfl) (hg : Gl X x := by rfl) (hv : bootBuiltins x = some u := by rfl) (hn : x ≠ "__name__" := by decide) (hdb : (x == ("__debug__" : Str)) = false := by rfl) : PE X (.Name x pos) (tC v) := pe_bltn hg (c.fr hf) hv r hn hdb
theorem tyO (c : Ct X R T G dat n) {x : Str} {C : Nat} {pos : Pos} (hx : R.cls.lookup x = some C := by rfl) (hg : Gl X x := by rfl) (hdb : (x == ("__debug__" : Str)) = false := by rfl) : PE X (.Name x pos) (tC (.ref (T.clA C))) := pe_glob hg (c.row.cls x C hx) rfl hdb
end
end Br
end

section
set_option Elab.async false
set_option linter.all false
set_option maxRecDepth 100000
set_option maxHeartbeats 1000000
/-! Br40: tests, comprehensions, targets, statements, their sides found by themselves. -/
namespace Br
open PySem PySem.Spec PySem.Calls PyProof.Rows L2
open PC (D E S Sl Cl Sg Gs Rs Re)
section
variable {X : Cx} {R : Rw} {T : Tb} {G : PC.Gl} {dat : Nat → FuncData} {n : Nat}
/-! ### tests -/
theorem wAnd {ca cb : E} {a b : Expr} {rest : List Expr} {pos : Pos} (ha : PT X a (tTs T G (PC.evFn G n) none none ca)) (hb : PW X (.BoolOp .And (b :: rest) pos) (tTs T G (PC.evFn G n) none none cb)) : PW X (.BoolOp .And (a :: b :: rest) pos) (tTs T G (PC.evFn G n) none none (.and ca cb)) := pw_andC ha hb
theorem wOr {ca cb : E} {a b : Expr} {rest : List Expr} {pos : Pos} (ha : PT X a (tTs T G (PC.evFn G n) none none ca)) (hb : PW X (.BoolOp .Or (b :: rest) pos) (tTs T G (PC.evFn G n) none none cb)) : PW X (.BoolOp .Or (a :: b :: rest) pos) (tTs T G (PC.evFn G n) none none (.or ca cb)) := pw_orC ha hb
theorem tW {e : Expr} {c : E} (h : PW X e (tTs T G (PC.evFn G n) none none c)) : PT X e (tTs T G (PC.evFn G n) none none c) := ⟨fun pins s σ H Q I q => h.run _ pins s σ H Q I q⟩
theorem tNt {ca : E} {a : Expr} {pos : Pos} (ha : PT X a (tTs T G (PC.evFn G n) none none ca)) : PT X (.UnaryOp .Not a pos) (tTs T G (PC.evFn G n) none none (.not ca)) := pt_notC ha
theorem q0 : PTs X [] (tCs T G (PC.evFn G n) none []) := pts_nilC
theorem q1 {e : Expr} {c : E} (h : PT X e (tTs T G (PC.evFn G n) none none c)) : PTs X [e] (tCs T G (PC.evFn G n) none [c]) := pts_oneC h
/-! ### targets -/
theorem gN (c : Ct X R T G dat n) {i : Nat} {x : Str} {pos : Pos} (hi : X.N[i]? = some x := by rfl) (hx : Loc X.env.scope x := by first | exact .inl rfl | exact .inr rfl) (hf : X.fn x = true ∨ X.env.scope.names.lookup x = some .local := by first | exact .inl rfl | exact .inr rfl) : PG X (.Name x pos) (gD T (.n i)) := pg_nameC c.nd hi hx hf
theorem g0 : PGs X [] (gDs T []) := pgs_nilC
theorem gC {e : Expr} {es : List Expr} {t : PC.T} {ts : List PC.T} (h1 : PG X e (gD T t)) (h2 : PGs X es (gDs T ts)) (hs : nSt e = true := by rfl) : PGs X (e :: es) (gDs T (t :: ts)) := pgs_consC h1 h2 hs
theorem gT (c : Ct X R T G dat n) {es : List Expr} {ts : List PC.T} {j : Nat} {pos : Pos} (h : PGs X es (gDs T ts)) (hs : es.all nSt = true := by rfl) (hl : es.length = ts.length := by rfl) : PG X (.Tuple es j pos) (gD T (.t ts)) := pg_tupC c.hK c.calm h hs hl
theorem gX {i k : Nat} {x : Str} {j : Nat} {p p3 pos : Pos} (hN : X.N[i]? = some x := by rfl) (hv : Vis X.env.scope x := by first | exact .inl rfl | exact .inr (.inl rfl) | exact .inr (.inr rfl)) (hd : (x == ("__debug__" : Str)) = false := by rfl) (hcd : (x == ("__classdict__" : Str)) = false := by rfl) :
    PG X (.Subscript (.Name x p) (.Constant (.int (k : Int)) j p3) pos) (gD T (.ix i k)) := pg_ixC (t := 0) (p2 := pos) hN hv hd hcd pe_int rfl
/-! ### walks -/
theorem iE (c : Ct X R T G dat n) {tg e : Expr} {d : E} (he : PE X e (tE T G (PC.evFn G n) none none d)) : PI X tg e (tI T G (PC.evFn G n) none false d) := pi_of c.hK (PE.opd he (.inl rfl))
theorem iR1 (c : Ct X R T G dat n) {tg a : Expr} {d : E} {p pos : Pos} (ha : PE X a (tE T G (PC.evFn G n) none none d)) (hf : R.free.contains ("range" : Str) = true := by rfl) (hg : Gl X "range" := by rfl) (hc : nStr d = true := by rfl) (hs : nSt a = true := by rfl) :
    PI X tg (.Call (.Name "range" p) [a] [] pos) (tI T G (PC.evFn G n) none false (.rng [d])) := pi_rng1 hg (c.fr hf) (fun a z => by rw [z] at hc; cases hc) ha hs
theorem iR2 (c : Ct X R T G dat n) {tg a b : Expr} {d e : E} {p pos : Pos} (ha : PE X a (tE T G (PC.evFn G n) none none d)) (hb : PE X b (tE T G (PC.evFn G n) none none e)) (hf : R.free.contains ("range" : Str) = true := by rfl) (hg : Gl X "range" := by rfl) (hc : nStr d = true := by rfl) (hc2 : nStr e = true := by rfl) (hs : nSt a = true := by rfl) (hs2 : nSt b = true := by rfl) :
    PI X tg (.Call (.Name "range" p) [a, b] [] pos) (tI T G (PC.evFn G n) none false (.rng [d, e])) := pi_rng2 hg (c.fr hf) (fun a z => by rw [z] at hc; cases hc) (fun a z => by rw [z] at hc2; cases hc2) ha hb hs hs2
/-! ### comprehensions -/
/-- a block's own names -/
def ownL (N : List Str) (t : PC.T) : List (Str × Nat) := (PC.ownT t).map fun i => (N.getD i Str.empty, i)
theorem own_map (N : List Str) (t : PC.T) : (ownL N t).map (·.2) = PC.ownT t := by
  unfold ownL
  rw [List.map_map]
  exact List.map_id _
theorem lcB (c : Ct X R T G dat n) {scope : Scope} {elt tg : Expr} {ifs : List Expr} {e : E} {t : PC.T} {cs : List E}
    (g : ∀ (s : Shared) (H : Hp) (C : Addr) (cl : List (Str × Addr)) (fp : List Addr), Ct (X.blk s H scope (compEnvC scope cl C X.env) fp) R T G dat n → PG (X.blk s H scope (compEnvC scope cl C X.env) fp) tg (gD T t))
    (q : ∀ (s : Shared) (H : Hp) (C : Addr) (cl : List (Str × Addr)) (fp : List Addr), Ct (X.blk s H scope (compEnvC scope cl C X.env) fp) R T G dat n → PTs (X.blk s H scope (compEnvC scope cl C X.env) fp) ifs (tCs T G (PC.evFn G n) none cs))
    (x : ∀ (s : Shared) (H : Hp) (C : Addr) (cl : List (Str × Addr)) (fp : List Addr), Ct (X.blk s H scope (compEnvC scope cl C X.env) fp) R T G dat n → PE (X.blk s H scope (compEnvC scope cl C X.env) fp) elt (tE T G (PC.evFn G n) none none e)) :
    LcB X T G (PC.evFn G n) none scope elt tg ifs e t cs :=
  ⟨fun s H C cl fp => g s H C cl fp (c.blk ..), fun s H C cl fp => q s H C cl fp (c.blk ..), fun s H C cl fp => x s H C cl fp (c.blk ..)⟩
theorem eLc (c : Ct X R T G dat n) {elt tg iter : Expr} {ifs : List Expr} {scope : Scope} {pos : Pos} {e d : E} {t : PC.T} {cs : List E} (hi : PI X tg iter (tI T G (PC.evFn G n) none false d)) (b : LcB X T G (PC.evFn G n) none scope elt tg ifs e t cs)
    (ok : blkC X.N X.env.scope scope (ownL X.N t) = true := by rfl) (hs : nSet iter = true := by rfl) (hv : noV d = true := by rfl) : PE X (.ListComp elt [⟨tg, iter, ifs, 0⟩] scope pos) (tE T G (PC.evFn G n) none none (.lc e t d cs)) := pe_lcC c.calm c.nd hi (blkOk_by ok) b (own_map _ _) hs (noV_ok hv)
theorem eLcN (c : Ct X R T G dat n) {elt tg : Expr} {ifs : List Expr} {scope : Scope} {pos p : Pos} {e : E} {i : Nat} {x : Str} {t : PC.T} {cs : List E} (b : LcB X T G (PC.evFn G n) none scope elt tg ifs e t cs) (ok : blkC X.N X.env.scope scope (ownL X.N t) = true := by rfl)
    (hi : X.N[i]? = some x := by rfl) (hv : Vis X.env.scope x := by first | exact .inl rfl | exact .inr (.inl rfl) | exact .inr (.inr rfl)) (hd : (x == ("__debug__" : Str)) = false := by rfl) (hcd : (x == ("__classdict__" : Str)) = false := by rfl) : PE X (.ListComp elt [⟨tg, .Name x p, ifs, 0⟩] scope pos) (tE T G (PC.evFn G n) none none (.lc e t (.v i) cs)) :=
  pe_lcN c.hK c.calm c.nd hi hv hd hcd (blkOk_by ok) b (own_map _ _)
theorem sLc (c : Ct X R T G dat n) {elt tg iter : Expr} {ifs : List Expr} {scope : Scope} {pos spos py : Pos} {e d : E} {t : PC.T} {cs : List E} {j : Nat} {y : Str} {mk : Bool} (hi : PI X tg iter (tI T G (PC.evFn G n) none false d)) (b : LcB X T G (PC.evFn G n) none scope elt tg ifs e t cs)
    (ok : blkC X.N X.env.scope scope (ownL X.N t) = true := by rfl) (hy : X.N[j]? = some y := by rfl) (hyl : X.env.scope.names.lookup y = some .local := by rfl) (hk : X.env.scope.kind = .function := by rfl) (hl : (py.line == pos.line) = true := by rfl) (hw : (scope.names.any fun (n, k) => n == y && (k == .local || k == .cell)) = false := by rfl)
    (hs : nSet iter = true := by rfl) (hv : noV d = true := by rfl) : PS X (.Assign [.Name y py] (.ListComp elt [⟨tg, iter, ifs, 0⟩] scope pos) spos) (tS T G (PC.evFn G n) none (.set j mk (.lc e t d cs))) := ps_setLcC c.calm c.nd hy hyl hk hl hw hi (blkOk_by ok) b (own_map _ _) hs (noV_ok hv)
theorem sLcN (c : Ct X R T G dat n) {elt tg : Expr} {ifs : List Expr} {scope : Scope} {pos p spos py : Pos} {e : E} {i j : Nat} {x y : Str} {mk : Bool} {t : PC.T} {cs : List E} (b : LcB X T G (PC.evFn G n) none scope elt tg ifs e t cs) (ok : blkC X.N X.env.scope scope (ownL X.N t) = true := by rfl)
    (hy : X.N[j]? = some y := by rfl) (hyl : X.env.scope.names.lookup y = some .local := by rfl) (hk : X.env.scope.kind = .function := by rfl) (hl : (py.line == pos.line) = true := by rfl) (hw : (scope.names.any fun (n, k) => n == y && (k == .local || k == .cell)) = false := by rfl)
    (hi : X.N[i]? = some x := by rfl) (hv : Vis X.env.scope x := by first | exact .inl rfl | exact .inr (.inl rfl) | exact .inr (.inr rfl)) (hd : (x == ("__debug__" : Str)) = false := by rfl) (hcd : (x == ("__classdict__" : Str)) = false := by rfl) : PS X (.Assign [.Name y py] (.ListComp elt [⟨tg, .Name x p, ifs, 0⟩] scope pos) spos) (tS T G (PC.evFn G n) none (.set j mk (.lc e t (.v i) cs))) :=
  ps_setLcN c.hK c.calm c.nd hy hyl hk hl hw hi hv hd hcd (blkOk_by ok) b (own_map _ _)
theorem dcB (c : Ct X R T G dat n) {scope : Scope} {kx vx tg : Expr} {ifs : List Expr} {ck e : E} {t : PC.T} {cs : List E}
    (g : ∀ (s : Shared) (H : Hp) (C : Addr) (cl : List (Str × Addr)) (fp : List Addr), Ct (X.blk s H scope (compEnvC scope cl C X.env) fp) R T G dat n → PG (X.blk s H scope (compEnvC scope cl C X.env) fp) tg (gD T t))
    (q : ∀ (s : Shared) (H : Hp) (C : Addr) (cl : List (Str × Addr)) (fp : List Addr), Ct (X.blk s H scope (compEnvC scope cl C X.env) fp) R T G dat n → PTs (X.blk s H scope (compEnvC scope cl C X.env) fp) ifs (tCs T G (PC.evFn G n) none cs))
    (k : ∀ (s : Shared) (H : Hp) (C : Addr) (cl : List (Str × Addr)) (fp : List Addr), Ct (X.blk s H scope (compEnvC scope cl C X.env) fp) R T G dat n → PE (X.blk s H scope (compEnvC scope cl C X.env) fp) kx (tE T G (PC.evFn G n) none none ck))
    (x : ∀ (s : Shared) (H : Hp) (C : Addr) (cl : List (Str × Addr)) (fp : List Addr), Ct (X.blk s H scope (compEnvC scope cl C X.env) fp) R T G dat n → PE (X.blk s H scope (compEnvC scope cl C X.env) fp) vx (tE T G (PC.evFn G n) none none e)) :
    DcB X T G (PC.evFn G n) none scope kx vx tg ifs ck e t cs :=
  ⟨fun s H C cl fp => g s H C cl fp (c.blk ..), fun s H C cl fp => q s H C cl fp (c.blk ..), fun s H C cl fp => k s H C cl fp (c.blk ..), fun s H C cl fp => x s H C cl fp (c.blk ..)⟩
theorem eDc (c : Ct X R T G dat n) {kx vx tg iter : Expr} {ifs : List Expr} {scope : Scope} {pos : Pos} {ck e d : E} {t : PC.T} {cs : List E} (hi : PI X tg iter (tI T G (PC.evFn G n) none false d)) (b : DcB X T G (PC.evFn G n) none scope kx vx tg ifs ck e t cs)
    (ok : blkC X.N X.env.scope scope (ownL X.N t) = true := by rfl) (hs : nSet iter = true := by rfl) (hv : noV d = true := by rfl) : PE X (.DictComp kx vx [⟨tg, iter, ifs, 0⟩] scope pos) (tE T G (PC.evFn G n) none none (.dc ck e t d cs)) := pe_dcC c.hu1 c.calm c.nd hi (blkOk_by ok) b (own_map _ _) hs (noV_ok hv)
/-! ### texts, lists -/
theorem eSpl {ob e : Expr} {co ce : E} {ap pos : Pos} (ho : PE X ob (tL T G (PC.evFn G n) none none (PC.quiet ce) co)) (he : PE X e (tL T G (PC.evFn G n) none none true ce)) (hs : nSt e = true := by rfl) (hb : pBase ob = true := by rfl) (hl : (ap.endLine == pos.line) = true := by rfl) : PE X (.Call (.Attribute ob "split" ap) [e] [] pos) (tE T G (PC.evFn G n) none none (.bm .split co [ce])) := pe_splitC ho he hs hb hl
theorem eJoi (c : Ct X R T G dat n) {ob e : Expr} {co ce : E} {ap pos : Pos} (ho : PE X ob (tL T G (PC.evFn G n) none none (PC.quiet ce) co)) (he : PE X e (tL T G (PC.evFn G n) none none true ce)) (hs : nSt e = true := by rfl) (hb : pBase ob = true := by rfl) (hl : (ap.endLine == pos.line) = true := by rfl) : PE X (.Call (.Attribute ob "join" ap) [e] [] pos) (tE T G (PC.evFn G n) none none (.bm .join co [ce])) := pe_joinC c.hK ho he hs hb hl
theorem eApp {i : Nat} {x : Str} {p ap pos : Pos} {e : Expr} {d : E} (he : PE X e (tE T G (PC.evFn G n) none none d)) (hi : X.N[i]? = some x := by rfl) (hv : Vis X.env.scope x := by first | exact .inl rfl | exact .inr (.inl rfl) | exact .inr (.inr rfl)) (hd : (x == ("__debug__" : Str)) = false := by rfl) (hcd : (x == ("__classdict__" : Str)) = false := by rfl)
    (hc : nStr d = true := by rfl) (hs : nSt e = true := by rfl) (hl : (ap.endLine == pos.line) = true := by rfl) : PE X (.Call (.Attribute (.Name x p) "append" ap) [e] [] pos) (tE T G (PC.evFn G n) none none (.bm .append (.v i) [d])) := pe_appC hi hv hd hcd (fun a z => by rw [z] at hc; cases hc) he hs hl
/-! ### statements -/
theorem s0 : PSs X [] (tSs T G (PC.evFn G n) none []) := pss_nilC
theorem sC {st : Stmt} {rest : List Stmt} {c : S} {cs : List S} (h1 : PS X st (tS T G (PC.evFn G n) none c)) (h2 : PSs X rest (tSs T G (PC.evFn G n) none cs)) : PSs X (st :: rest) (tSs T G (PC.evFn G n) none (c :: cs)) := pss_consC h1 h2
theorem sEx {e : Expr} {c : E} {pos : Pos} (he : PE X e (tE T G (PC.evFn G n) none none c)) (hn : nCmp e = true := by rfl) : PS X (.Expr e pos) (tS T G (PC.evFn G n) none (.ex c)) := ps_exC he hn
theorem sRt {e : Expr} {c : E} {pos : Pos} (he : PE X e (tE T G (PC.evFn G n) none none c)) (hv : noV c = true := by rfl) : PS X (.Return (some e) pos) (tS T G (PC.evFn G n) none (.ret c)) := ps_retC he (noV_ok hv)
theorem sRv {i : Nat} {x : Str} {p pos : Pos} (hN : X.N[i]? = some x := by rfl) (hv : Vis X.env.scope x := by first | exact .inl rfl | exact .inr (.inl rfl) | exact .inr (.inr rfl)) (hd : (x == ("__debug__" : Str)) = false := by rfl) (hcd : (x == ("__classdict__" : Str)) = false := by rfl) : PS X (.Return (some (.Name x p)) pos) (tS T G (PC.evFn G n) none (.ret (.v i))) := ps_retV hN hv hd hcd
theorem sRn {pos : Pos} : PS X (.Return none pos) (tS T G (PC.evFn G n) none .retN) := ps_retNC
theorem sIf {e : Expr} {a b : List Stmt} {cc : E} {ca cb : List S} {pos : Pos} (hc : PT X e (tTs T G (PC.evFn G n) none none cc)) (ha : PSs X a (tSs T G (PC.evFn G n) none ca)) (hb : PSs X b (tSs T G (PC.evFn G n) none cb)) : PS X (.If e a b pos) (tS T G (PC.evFn G n) none (.ife cc ca cb)) := ps_ifC hc ha hb
theorem sSet (c : Ct X R T G dat n) {i : Nat} {mk : Bool} {x : Str} {e : Expr} {d : E} {pos pos' : Pos} (he : PE X e (tE T G (PC.evFn G n) none none d)) (hi : X.N[i]? = some x := by rfl) (hx : Loc X.env.scope x := by first | exact .inl rfl | exact .inr rfl) (hf : X.fn x = true ∨ X.env.scope.names.lookup x = some .local := by first | exact .inl rfl | exact .inr rfl) (hn : nCmp e = true := by rfl) :
    PS X (.Assign [.Name x pos'] e pos) (tS T G (PC.evFn G n) none (.set i mk d)) := ps_setC c.nd hi hx hf he hn
theorem sRse {st : Stmt} {C : Nat} {es : List E} : PS X st (tS T G (PC.evFn G n) none (.rse C es)) := ps_rseC
theorem sWhl (c : Ct X R T G dat n) {e : Expr} {body : List Stmt} {cc : E} {cb : List S} {pos : Pos} (hc : PT X e (tTs T G (PC.evFn G n) none none cc)) (hb : PSs X body (tSs T G (PC.evFn G n) none cb)) : PS X (.While e body [] pos) (tS T G (PC.evFn G n) none (.whl cc cb)) := ps_whlC c.xe hc hb
theorem sFor (c : Ct X R T G dat n) {tg iter : Expr} {body : List Stmt} {t : PC.T} {d : E} {cb : List S} {pos : Pos} (hi : PI X tg iter (tI T G (PC.evFn G n) none false d)) (hg : PG X tg (gD T t)) (hb : PSs X body (tSs T G (PC.evFn G n) none cb)) (hs : nSet iter = true := by rfl) (hv : noV d = true := by rfl) :
    PS X (.For tg iter body [] pos) (tS T G (PC.evFn G n) none (.for_ t d cb)) := ps_forC c.xe c.calm hi hg hb hs (walk_no (noV_ok hv))
theorem sForN (c : Ct X R T G dat n) {i : Nat} {x : Str} {p : Pos} {tg : Expr} {body : List Stmt} {t : PC.T} {cb : List S} {pos : Pos} (hg : PG X tg (gD T t)) (hb : PSs X body (tSs T G (PC.evFn G n) none cb)) (hN : X.N[i]? = some x := by rfl) (hv : Vis X.env.scope x := by first | exact .inl rfl | exact .inr (.inl rfl) | exact .inr (.inr rfl)) (hd : (x == ("__debug__" : Str)) = false := by rfl) (hcd : (x == ("__classdict__" : Str)) = false := by rfl) :
    PS X (.For tg (.Name x p) body [] pos) (tS T G (PC.evFn G n) none (.for_ t (.v i) cb)) := ps_forN c.hK c.xe c.calm hN hv hd hcd hg hb
theorem sIx (c : Ct X R T G dat n) {j : Nat} {x : Str} {p p2 pos : Pos} {ie e : Expr} {ci d : E} (hi : PE X ie (tE T G (PC.evFn G n) none none ci)) (he : PE X e (tE T G (PC.evFn G n) none none d)) (hN : X.N[j]? = some x := by rfl) (hv : Vis X.env.scope x := by first | exact .inl rfl | exact .inr (.inl rfl) | exact .inr (.inr rfl)) (hd : (x == ("__debug__" : Str)) = false := by rfl) (hcd : (x == ("__classdict__" : Str)) = false := by rfl)
    (hsl : nSl ie = true := by rfl) : PS X (.Assign [.Subscript (.Name x p) ie p2] e pos) (tS T G (PC.evFn G n) none (.setI (.v j) ci d)) := ps_setIC c.hu1 c.row.noSet hN hv hd hcd hi hsl he
theorem sTup {es : List Expr} {j : Nat} {tp pos : Pos} {e : Expr} {d : E} {t : PC.T} (hg : PG X (.Tuple es j tp) (gD T t)) (he : PE X e (tE T G (PC.evFn G n) none none d)) (hw : swappedStores [.Tuple es j tp] e X.env = pure none := by rfl) : PS X (.Assign [.Tuple es j tp] e pos) (tS T G (PC.evFn G n) none (.setT t d)) :=
  psImp (ps_asg he hg (swap_tup _ _) hw) fun D σ H h => setT_of h
theorem sFld (c : Ct X R T G dat n) {ob e : Expr} {x : Str} {f : Nat} {p pos : Pos} {co d : E} (hf : T.fld f = true) (hx : x = T.nm f) (ho : PE X ob (tE T G (PC.evFn G n) none none co)) (he : PE X e (tE T G (PC.evFn G n) none none d)) : PS X (.Assign [.Attribute ob x p] e pos) (tS T G (PC.evFn G n) none (.setF co f d)) := ps_setFC c.row.nmF c.row.clsF hf hx ho he
theorem sPar (c : Ct X R T G dat n) {i j : Nat} {mi mj : Bool} {x y : Str} {a b : Expr} {ca cb : E} {px py pt pos : Pos} {kt k2 : Nat} {pt2 : Pos} (ha : PA X [a, b] (tAs T G (PC.evFn G n) none none [ca, cb])) (hw : swappedStores [.Tuple [.Name x px, .Name y py] kt pt] (.Tuple [a, b] k2 pt2) X.env = pure (some [x, y]) := by rfl)
    (hi : X.N[i]? = some x := by rfl) (hj : X.N[j]? = some y := by rfl) (hij : i ≠ j := by decide) (hx : X.env.scope.names.lookup x = some .local := by rfl) (hy : X.env.scope.names.lookup y = some .local := by rfl) :
    PS X (.Assign [.Tuple [.Name x px, .Name y py] kt pt] (.Tuple [a, b] k2 pt2) pos) (tS T G (PC.evFn G n) none (.par [(i, mi), (j, mj)] [ca, cb])) := ps_parC c.calm c.nd hi hj hij hx hy ha hw
theorem sPar3 (c : Ct X R T G dat n) {i j l : Nat} {mi mj ml : Bool} {x y z : Str} {a b d : Expr} {ca cb cd : E} {px py pz pt pos : Pos} {kt k2 : Nat} {pt2 : Pos} (ha : PA X [a, b, d] (tAs T G (PC.evFn G n) none none [ca, cb, cd])) (hw : swappedStores [.Tuple [.Name x px, .Name y py, .Name z pz] kt pt] (.Tuple [a, b, d] k2 pt2) X.env = pure (some [x, y, z]) := by rfl)
    (hi : X.N[i]? = some x := by rfl) (hj : X.N[j]? = some y := by rfl) (hl : X.N[l]? = some z := by rfl) (hij : i ≠ j := by decide) (hil : i ≠ l := by decide) (hjl : j ≠ l := by decide) (hx : X.env.scope.names.lookup x = some .local := by rfl) (hy : X.env.scope.names.lookup y = some .local := by rfl) (hz : X.env.scope.names.lookup z = some .local := by rfl) :
    PS X (.Assign [.Tuple [.Name x px, .Name y py, .Name z pz] kt pt] (.Tuple [a, b, d] k2 pt2) pos) (tS T G (PC.evFn G n) none (.par [(i, mi), (j, mj), (l, ml)] [ca, cb, cd])) := ps_par3C c.calm c.nd hi hj hl hij hil hjl hx hy hz ha hw
end
end Br
end

section
set_option Elab.async false
set_option linter.all false
set_option maxRecDepth 100000
set_option maxHeartbeats 1000000
/-! Br41: a def keeps its promise one level up. -/
namespace Br
open PySem PySem.Spec PySem.Calls PyProof.Rows L2
open PC (D E S Sl Cl Sg Gs Rs Re)
section
variable {P : Program} {w : World} {K : PySem.W.Frag} {mg : Str → Option Value} {base : Heap}
/-- a def's surroundings -/
abbrev cxD (P : Program) (w : World) (K : PySem.W.Frag) (mg : Str → Option Value) (base : Heap) (N : List Str) (d : He.DefD) (f : Addr) (cdv : Value) (A : Around) (outer : List Env) (s : Shared) (H : Hp) (E : XK) : Cx :=
  (cxOf CX0 P w K mg base N d.qual d.scope f cdv A outer s H E).nox
theorem lv0 {R : Rw} {T : Tb} {G : PC.Gl} {dat : Nat → FuncData} : LvF P w K mg base R T G dat 0 := ⟨fun f d fd _ _ => ⟨fun _ _ _ _ h => h.elim, fun _ _ _ _ _ _ _ _ _ _ _ _ _ h => h.elim⟩⟩
theorem defOk {R : Rw} {T : Tb} {G : PC.Gl} {dat : Nat → FuncData} {n : Nat} (row : RowF R T G K mg dat) (lv : LvF P w K mg base R T G dat n) {f : Nat} {d : He.DefD} {fd : PC.Fd} {N : List Str} (hd : R.dd f = some d) (sc : FnScope N (parN d.params) d.scope) (hn : fd.ns = N.length) (hp : fd.ps = (parN d.params).length) (hl : fd.ps ≤ N.length)
    (body : ∀ (cdv : Value) (A : Around) (outer : List Env) (s : Shared) (H : Hp) (E : XK), Ct (cxD P w K mg base N d (T.fnA f) cdv A outer s H E) R T G dat n → (dat f).code = cdv → PSs (cxD P w K mg base N d (T.fnA f) cdv A outer s H E) d.body (tSs T G (PC.evFn G n) none fd.body)) :
    FnOk P w K mg base CX0 (4 * (n + 1)) (T.fnA f) (dat f) (parN d.params) (spL T G (n + 1) fd) := by
  have F := row.fn f d hd
  obtain ⟨oc, od, dV, kV, doc, pm, an, cdv, ct, osl, e, lk, hcd, _, _⟩ := F.ex
  have hc : (dat f).code = cdv := by rw [e]
  rw [e] at lk ⊢
  refine fn_of (k := 4 * n + 3) lk hcd sc (fun vs H Q E h => ?_) (fun A outer s H vs Q E hr h => ?_)
  · obtain ⟨w0, ds, _, _, r, l, _⟩ := h
    rw [r.length, l, hp]
  · exact ⟨_, PSs.nox (body cdv A outer s H E ⟨row, lv, rfl, sc.nd, rfl, hr⟩ hc), body_of (n := 0) (E := E) hn hl h⟩
end
end Br
end

section
set_option Elab.async false
set_option linter.all false
set_option maxRecDepth 100000
set_option maxHeartbeats 1000000
/-! Br42: tables of a row. -/
namespace Br
open PySem PySem.Spec PySem.Calls PyProof.Rows L2
open PC (D E S Sl Cl Sg Gs Rs Re)
/-- the numbers of a row's defs, classes -/
structure Ls where
  fn : List (Nat × PC.Fd)
  at_ : List ((Nat × Nat) × PC.At)
  me : List ((Nat × Nat) × Nat)
  ini : List (Nat × Nat)
  ex : List (Nat × List Nat)
  va : List Nat
  su : List (Nat × Nat)
def Ls.G (l : Ls) : PC.Gl where
  fn i := l.fn.lookup i
  at_ C f := l.at_.lookup (C, f)
  meth C f := l.me.lookup (C, f)
  init C := l.ini.lookup C
  value C := l.va.contains C
  sub C B := l.su.contains (C, B)
  excF C := l.ex.lookup C
  mEq := 16
  mLen := 17
  mBool := 18
  mStr := 19
  mRepr := 20
  mIn := 21
  mGet := 22
  mSet := 23
  mEnter := 24
  mExit := 25
/-- a def with a lambda: its code object's table -/
structure LamD (T : Tb) (mg : Str → Option Value) (base : Heap) (cd : Value) (q : Str) : Prop where
  ex : ∃ c P, LamX.TabB base mg c P ∧ cd = .ref c ∧ (P, q) ∈ T.tb ∧ ∀ p ∈ T.tb, p.1 = P → p.2 = q
theorem eSrt {X : Cx} {R : Rw} {T : Tb} {G : PC.Gl} {dat : Nat → FuncData} {n : Nat} (c : Ct X R T G dat n) {cd : Value} (hcd : cd = X.env.code) (L : LamD T X.mg X.base cd (X.env.qual ++ "<lambda>")) {e : Expr} {d : E} {params : Arguments} {scope : Scope} {y : Str} {p q1 q2 q3 q4 q5 lpos kpos pos : Pos} {j : Nat} (he : PE X e (tL T G (PC.evFn G n) none none true d))
    (hgS : Gl X "sorted" := by rfl) (hf : R.free.contains ("sorted" : Str) = true := by rfl) (hf2 : R.free.contains ("len" : Str) = true := by rfl) (hn : nSt e = true := by rfl) (hsc : lenScope y scope = true := by rfl) (hy : (y == ("__debug__" : Str)) = false := by rfl) (hdef : defaultsOf params X.env = ([], []) := by rfl)
    (hbind : ∀ (q : Str) (pm cv ctv u : Value), bindArgs (PySem.W.kla_fn "<lambda>" q params (.Tuple [.Call (.Name "len" q1) [.Name y q2] [] q3, .Name y q4] j q5) scope [] pm cv ctv) ⟨[u], []⟩ = pure [(y, u)] := by intros; rfl) :
    PE X (.Call (.Name "sorted" p) [e] [⟨some "key", .Lambda params (.Tuple [.Call (.Name "len" q1) [.Name y q2] [] q3, .Name y q4] j q5) scope lpos, kpos⟩] pos) (tE T G (PC.evFn G n) none none (.srtL d)) :=
  pe_srtLC c.hK (c.room.mono (by omega)) ⟨by subst hcd; exact L.ex⟩ hgS (c.fr hf) (c.fr hf2) he hn hsc hy hdef hbind
theorem look_all {α β : Type} [BEq α] [LawfulBEq α] {Q : α → β → Prop} : ∀ {l : List (α × β)}, (∀ p ∈ l, Q p.1 p.2) → ∀ a b, l.lookup a = some b → Q a b
  | [], _, a, b, h => by cases h
  | (x, y) :: l, hl, a, b, h => by
    rw [List.lookup_cons] at h
    split at h
    · rename_i e
      cases h
      have e := beq_iff_eq.mp e
      subst e
      exact hl _ List.mem_cons_self
    · exact look_all (fun p hp => hl p (List.mem_cons_of_mem _ hp)) a b h
theorem all0 {α : Type} {Q : α → Prop} : ∀ p ∈ ([] : List α), Q p := fun _ h => by cases h
theorem allC {α : Type} {Q : α → Prop} {x : α} {l : List α} (h : Q x) (t : ∀ p ∈ l, Q p) : ∀ p ∈ x :: l, Q p := fun p hp => by
  rcases List.mem_cons.mp hp with rfl | hp
  · exact h
  · exact t p hp
end Br
end

section
set_option Elab.async false
set_option linter.all false
set_option maxRecDepth 100000
set_option maxHeartbeats 1000000
/-! Br43: what a row's head tells, as one truth over the objects seen. -/
namespace Br
open PySem PySem.Spec PySem.Calls PyProof.Rows L2
open PC (D E S Sl Cl Sg Gs Rs Re)

/-! ### a hook of one's own: defs by any road -/
structure DfA where
  ad : PySem.W.Frag → Addr
  d : He.DefD
def seeF (K : PySem.W.Frag) (a : Addr) : He.FnW := do
  let o ← K.lookup a
  match o.data with
  | .func u => some (u.name, u.qualname, u.params, u.body, u.scope, u.globals, u.closure, u.builtins)
  | _ => none
def sureF (K : PySem.W.Frag) (a : Addr) (d : He.DefD) : Bool := match K.lookup a with
  | some o => (match o.data with
    | .func u => PySem.W.keepIn K (.ref a) && PySem.W.codeIn K u.code d.qual && He.dflB K u.defaults (d.dvs K) && He.kwdB K u.kwdefaults (d.kws K)
    | _ => false)
  | none => false
theorem seeF_ok {K : PySem.W.Frag} {a : Addr} {d : He.DefD} (e : seeF K a = d.val) (s : sureF K a d = true) : ∃ fd, FunD K d.name d.qual d.params d.body d.scope (d.dvs K) (d.kws K) a fd := by
  unfold sureF at s
  unfold seeF at e
  cases hl : K.lookup a with
  | none => rw [hl] at s; cases s
  | some o =>
    rw [hl] at s e
    rcases o with ⟨oc, od, dt, osl⟩
    cases dt with
    | func u =>
      rcases u with ⟨x1, x2, x3, x4, x5, x6, x7, x8, x9, x10, x11, x12, x13, x14, x15⟩
      have e : some (x1, x2, x3, x4, x5, x6, x7, x15) = some (d.name, d.qual, d.params, FuncBody.stmts d.body, d.scope, mainGlobals, ([] : List (Str × Addr)), builtinsNs) := e
      injection e with e
      injection e with y1 e
      injection e with y2 e
      injection e with y3 e
      injection e with y4 e
      injection e with y5 e
      injection e with y6 e
      injection e with y7 y8
      subst y1 y2 y3 y4 y5 y6 y7 y8
      have s : (PySem.W.keepIn K (.ref a) && PySem.W.codeIn K x13 d.qual && He.dflB K x8 (d.dvs K) && He.kwdB K x9 (d.kws K)) = true := s
      simp only [Bool.and_eq_true] at s
      obtain ⟨⟨⟨s1, s2⟩, s3⟩, s4⟩ := s
      refine ⟨_, ⟨oc, od, x8, x9, x10, x11, x12, x13, x14, osl, rfl, hl, s2, He.dflB_ok s3, He.kwdB_ok s4⟩, s1⟩
    | _ => cases s
abbrev AlA : Type := Bool × List He.FnW
structure SaysA (ex : PySem.W.Frag → Bool) (fn : List DfA) (tf : List He.Defn) (h : Heap) (K : PySem.W.Frag) : Prop where
  ex : ex K = true
  fn : ∀ p ∈ fn, ∃ fd, FunD K p.d.name p.d.qual p.d.params p.d.body p.d.scope (p.d.dvs K) (p.d.kws K) (p.ad K) fd
  hd : ∀ p ∈ tf, PySem.W.codeHdIn K (He.cT K p).1 (He.cT K p).2 = true
  out : ∀ p ∈ tf, K.lookup (He.cT K p).2 = none
  empty : ∀ p ∈ tf, h.get? (He.cT K p).2 = some { cls := .none, data := .fields #[] }
def obsA (n : Nat) (ex : PySem.W.Frag → Bool) (fn : List DfA) (tf : List He.Defn) (g : Addr → Option Obj) : AlA :=
  let K := He.frT g (He.asD g n)
  (ex K && (fn.all fun p => sureF K (p.ad K) p.d) && He.tabsB g tf K, fn.map fun p => seeF K (p.ad K))
theorem saysA_of {n : Nat} {ex : PySem.W.Frag → Bool} {fn : List DfA} {tf : List He.Defn} {h : Heap} (e : obsA n ex fn tf h.get? = (true, fn.map fun p => p.d.val)) : SaysA ex fn tf h (He.frT h.get? (He.asD h.get? n)) := by
  have e1 := congrArg Prod.fst e
  have e2 := congrArg Prod.snd e
  generalize hK : He.frT h.get? (He.asD h.get? n) = K
  have e1 : (ex K && (fn.all fun p => sureF K (p.ad K) p.d) && He.tabsB h.get? tf K) = true := by rw [← hK]; exact e1
  have e2 : (fn.map fun p => seeF K (p.ad K)) = fn.map fun p => p.d.val := by rw [← hK]; exact e2
  simp only [Bool.and_eq_true] at e1
  obtain ⟨⟨h1, h2⟩, h3⟩ := e1
  have at3 : ∀ p ∈ tf, PySem.W.codeHdIn K (He.cT K p).1 (He.cT K p).2 = true ∧ ∃ o, h.get? (He.cT K p).2 = some o ∧ He.emptyTab o = true := fun p hp => by
    have z := List.all_eq_true.mp h3 p hp
    obtain ⟨z1, z2⟩ := He.ba z
    refine ⟨z1, ?_⟩
    cases q : h.get? (He.cT K p).2 with
    | none => rw [q] at z2; cases z2
    | some o => rw [q] at z2; exact ⟨o, rfl, z2⟩
  refine ⟨h1, fun p hp => ?_, fun p hp => (at3 p hp).1, fun p hp => ?_, fun p hp => ?_⟩
  · obtain ⟨i, hi, ei⟩ := List.mem_iff_getElem.mp hp
    have z : (fn.map fun p => seeF K (p.ad K))[i]? = (fn.map fun p => p.d.val)[i]? := by rw [e2]
    rw [List.getElem?_map, List.getElem?_map, List.getElem?_eq_getElem hi, ei] at z
    exact seeF_ok (Option.some.inj z) (List.all_eq_true.mp h2 p hp)
  · obtain ⟨_, o, q, z⟩ := at3 p hp
    rw [← hK] at q ⊢
    exact He.frT_none q z
  · obtain ⟨_, o, q, z⟩ := at3 p hp
    rw [q, He.emptyTab_eq z]
def hookA (n : Nat) (ex : PySem.W.Frag → Bool) (fn : List DfA) (tf : List He.Defn) : PySem.W.Hook where
  α := AlA
  obs := fun s => obsA n ex fn tf s.heap.get?
  val := fun _ => (true, fn.map fun p => p.d.val)
  says := fun _ h => ∃ K : PySem.W.Frag, K.In h ∧ SaysA ex fn tf h K
  of := fun _ _ e => ⟨_, He.frT_in, saysA_of e⟩
  keeps := fun _ _ _ ⟨K, hK, c⟩ k => ⟨K, PySem.W.Frag.In.keeps hK k, ⟨c.ex, c.fn, c.hd, c.out, fun p hp => k _ _ (c.empty p hp)⟩⟩
theorem obsA_eq {n : Nat} {ex : PySem.W.Frag → Bool} {fn : List DfA} {tf : List He.Defn} {g : Addr → Option Obj} {s : Shared} (h : ∀ a, g a = s.heap.get? a) : obsA n ex fn tf g = (hookA n ex fn tf).obs s := by
  rw [show g = s.heap.get? from funext h] <;> rfl
/-! ### the tables of a row -/
/-- numbers and names: classes, fields, attributes; defs by their roads; the defs with lambdas -/
structure Tl where
  cl : List (Nat × Str)
  fl : List Nat
  nm : List (Nat × Str)
  ad : Nat → PySem.W.Frag → Addr
  lam : List (He.Defn × Str)
def Tl.cn (t : Tl) (C : Nat) : Str := (t.cl.lookup C).getD Str.empty
def Tl.an (t : Tl) (i : Nat) : Str := (t.nm.lookup i).getD Str.empty
def Tl.tb (t : Tl) (K : PySem.W.Frag) (scr : Option (Addr × List Int)) : Tb where
  K := K
  own := fun C => (t.cl.lookup C).isSome
  fld := fun f => t.fl.contains f
  fnA := fun f => t.ad f K
  clA := fun C => He.ga K (t.cn C)
  nm := t.an
  tb := t.lam.map fun p => ((He.cT K p.1).2, p.2)
  scr := scr
/-- a getter's road -/
def getA (c m : Str) (K : PySem.W.Frag) : Addr := He5.wf K (He.ga K c) "property" m
def prpB (K : PySem.W.Frag) (c m : Str) : Bool := He.eqO (PySem.W.findIn K (.ref (He.ga K c)) m) (some (some (.ref (He.ma K (He.ga K c) m)))) && (He.eqO (PySem.W.specialIn K (.ref (He.ma K (He.ga K c) m)) "__get__") (some (some (.builtin "property.__get__"))) &&
  (decide (PySem.W.takesIn K (.ref (He.ma K (He.ga K c) m)) = some true) && (match PySem.W.recIn K (He.ma K (He.ga K c) m) "property" with
    | some (.ref _ :: _) => true
    | _ => false)))
theorem prpB_ok {K : PySem.W.Frag} {c m : Str} (h : prpB K c m = true) : ∃ q, PropOf K (He.ga K c) m q (getA c m K) := by
  obtain ⟨h1, h⟩ := He.ba h
  obtain ⟨h2, h⟩ := He.ba h
  obtain ⟨h3, h4⟩ := He.ba h
  refine ⟨He.ma K (He.ga K c) m, He.eqO_ok h1, He.eqO_ok h2, of_decide_eq_true h3, ?_⟩
  unfold getA He5.wf
  split at h4
  · rename_i f r e
    exact ⟨r, by rw [e]⟩
  · cases h4
/-- the empty tuple of the module's -/
def tup0B (K : PySem.W.Frag) (a : Addr) : Bool := match K.lookup a with
  | some ⟨.type c, _, .seq its _, _⟩ => decide (c = "tuple") && decide (its = #[])
  | _ => false
theorem tup0_ok {T : Tb} {ι : List Addr} {F : Hp} {a : Addr} (h : tup0B T.K a = true) : Rep T ι F (.ref a) (.tup []) := by
  unfold tup0B at h
  split at h
  · rename_i c d its n sl e
    obtain ⟨h1, h2⟩ := He.ba h
    have e1 := of_decide_eq_true h1
    have e2 := of_decide_eq_true h2
    subst e1 e2
    exact .kt ⟨_, _, _, e, rfl, rfl, Nat.zero_le _, .nil⟩ rfl .nil
  · cases h
/-! ### what is looked at of the classes -/
def tyNs : List String := ["NoneType", "bool", "int", "str", "list", "tuple", "dict"]
def tyNs' : List String := ["bool", "int", "str", "list", "tuple"]
def Tl.clB (t : Tl) (K : PySem.W.Frag) : Bool :=
  He.eqO (PySem.W.specialIn K (.builtin "object.__class__") "__get__") (some (some (.builtin "getset_descriptor.__get__"))) && (decide (PySem.W.takesIn K (.builtin "object.__class__") = some true) &&
  t.cl.all fun p => (He.Fa.cls p.2).ok K && (He.eqO (PySem.W.findIn K (.ref (He.ga K p.2)) "__class__") (some (some (.builtin "object.__class__"))) && (decide (PySem.W.mroIn K (He.ga K p.2) (.type "object") = some true) &&
    ((tyNs.all fun x => decide (PySem.W.kitOne K (.type x) (.ref (He.ga K p.2)) = some false)) && ((tyNs'.all fun x => decide (PySem.W.kitOne K (.ref (He.ga K p.2)) (.type x) = some false)) &&
    ((t.cl.all fun q => decide (PySem.W.kitOne K (.ref (He.ga K p.2)) (.ref (He.ga K q.2)) = some (p.1 == q.1))) && ((t.fl.all fun f => (He.Fa.noat p.2 (t.an f)).ok K) &&
    (He.eqO (PySem.W.findIn K (.ref (He.ga K p.2)) "__ne__") (some (some (.builtin "object.__ne__"))) && ((tyNs.all fun x => PySem.W.notFirst K (He.ga K p.2) (.type x)) && t.cl.all fun q => PySem.W.notFirst K (He.ga K p.2) (.ref (He.ga K q.2)))))))))))
theorem look_mem {α β : Type} [BEq α] [LawfulBEq α] {a : α} {b : β} : ∀ {l : List (α × β)}, l.lookup a = some b → (a, b) ∈ l
  | [], h => by cases h
  | (x, y) :: l, h => by
    rw [List.lookup_cons] at h
    split at h
    · rename_i e
      cases h
      rw [beq_iff_eq.mp e]
      exact List.mem_cons_self
    · exact List.mem_cons_of_mem _ (look_mem h)
section
variable {t : Tl} {K : PySem.W.Frag} {scr : Option (Addr × List Int)}
theorem Tl.own_at {C : Nat} (h : (t.tb K scr).own C = true) : (C, t.cn C) ∈ t.cl := by
  have h : (t.cl.lookup C).isSome = true := h
  obtain ⟨x, e⟩ := Option.isSome_iff_exists.mp h
  have z : t.cn C = x := by unfold Tl.cn; rw [e]; rfl
  rw [z]
  exact look_mem e
/-- of one class -/
structure OneC (t : Tl) (K : PySem.W.Frag) (C : Nat) (a : Addr) : Prop where
  cls : Cls K a
  cl : PySem.W.findIn K (.ref a) "__class__" = some (some (.builtin "object.__class__"))
  mro : PySem.W.mroIn K a (.type "object") = some true
  bo : ∀ n ∈ tyNs, PySem.W.kitOne K (.type n) (.ref a) = some false
  ob : ∀ n ∈ tyNs', PySem.W.kitOne K (.ref a) (.type n) = some false
  oo : ∀ q ∈ t.cl, PySem.W.kitOne K (.ref a) (.ref (He.ga K q.2)) = some (C == q.1)
  att : ∀ f ∈ t.fl, NoAttr K a (t.an f)
  ne : PySem.W.findIn K (.ref a) "__ne__" = some (some (.builtin "object.__ne__"))
  nf : ∀ n ∈ tyNs, PySem.W.notFirst K a (.type n) = true
  nq : ∀ q ∈ t.cl, PySem.W.notFirst K a (.ref (He.ga K q.2)) = true
theorem Tl.one (h : t.clB K = true) {C : Nat} (o : (t.tb K scr).own C = true) : OneC t K C (He.ga K (t.cn C)) := by
  obtain ⟨_, h⟩ := He.ba h
  obtain ⟨_, h⟩ := He.ba h
  have z := List.all_eq_true.mp h _ (Tl.own_at o)
  obtain ⟨z1, z⟩ := He.ba z
  obtain ⟨z2, z⟩ := He.ba z
  obtain ⟨z3, z⟩ := He.ba z
  obtain ⟨z4, z⟩ := He.ba z
  obtain ⟨z5, z⟩ := He.ba z
  obtain ⟨z6, z⟩ := He.ba z
  obtain ⟨z7, z⟩ := He.ba z
  obtain ⟨z8, z⟩ := He.ba z
  obtain ⟨z9, z10⟩ := He.ba z
  exact ⟨He.cls_ok z1, He.eqO_ok z2, of_decide_eq_true z3, fun n hn => of_decide_eq_true (List.all_eq_true.mp z4 n hn), fun n hn => of_decide_eq_true (List.all_eq_true.mp z5 n hn), fun q hq => of_decide_eq_true (List.all_eq_true.mp z6 q hq),
    fun f hf => He.noat_ok (List.all_eq_true.mp z7 f hf), He.eqO_ok z8, fun n hn => List.all_eq_true.mp z9 n hn, fun q hq => List.all_eq_true.mp z10 q hq⟩
theorem Tl.isF (h : t.clB K = true) : IsF (t.tb K scr) := by
  obtain ⟨h1, h2⟩ := He.ba h
  obtain ⟨h2, _⟩ := He.ba h2
  exact ⟨fun C o => (Tl.one h o).cls, fun C o => (Tl.one h o).cl, He.eqO_ok h1, of_decide_eq_true h2, fun C o => (Tl.one h o).mro, fun C n o hn => (Tl.one h o).bo n hn, fun C n o hn => (Tl.one h o).ob n hn, fun C D o o2 => (Tl.one h o).oo _ (Tl.own_at o2)⟩
theorem Tl.clsF (h : t.clB K = true) : ClsF K (t.tb K scr) := ⟨fun C o => (Tl.one h o).cls, fun C f o hf => (Tl.one h o).att f (List.contains_iff_mem.mp hf)⟩
theorem Tl.cmpF (h : t.clB K = true) : CmpF (t.tb K scr) := ⟨fun C tv o ht => by
  rcases ht with ⟨n, hn, rfl⟩ | ⟨D, o2, rfl⟩
  · exact (Tl.one h o).nf n hn
  · exact (Tl.one h o).nq _ (Tl.own_at o2), fun C o => (Tl.one h o).ne⟩
/-- the names of the attributes are different ones -/
def Tl.nmB (t : Tl) : Bool := decide (t.nm.map (·.2)).Nodup && (t.fl.all (fun i => (t.nm.lookup i).isSome) && t.nm.all fun p => decide (p.2 ≠ Str.empty))
theorem nodup_snd {α β : Type} {a b : α} {x : β} : ∀ {l : List (α × β)}, (l.map (·.2)).Nodup → (a, x) ∈ l → (b, x) ∈ l → a = b
  | [], _, h, _ => by cases h
  | p :: l, n, h1, h2 => by
    rw [List.map_cons, List.nodup_cons] at n
    rcases List.mem_cons.mp h1 with e1 | h1 <;> rcases List.mem_cons.mp h2 with e2 | h2
    · rw [← e1] at e2
      exact (congrArg Prod.fst e2).symm
    · exact (n.1 (List.mem_map.mpr ⟨_, h2, by rw [← e1]⟩)).elim
    · exact (n.1 (List.mem_map.mpr ⟨_, h1, by rw [← e2]⟩)).elim
    · exact nodup_snd n.2 h1 h2
theorem Tl.nmF (h : t.nmB = true) : NmF (t.tb K scr) := by
  obtain ⟨h1, h⟩ := He.ba h
  obtain ⟨h2, h3⟩ := He.ba h
  have h1 := of_decide_eq_true h1
  have key : ∀ n m, t.fl.contains n = true → t.an n = t.an m → n = m := fun n m hn e => by
    have z := List.all_eq_true.mp h2 n (List.contains_iff_mem.mp hn)
    obtain ⟨x, ex⟩ := Option.isSome_iff_exists.mp z
    have en : t.an n = x := by unfold Tl.an; rw [ex]; rfl
    have ne := of_decide_eq_true (List.all_eq_true.mp h3 _ (look_mem ex))
    rw [en] at e
    cases em : t.nm.lookup m with
    | none =>
      unfold Tl.an at e
      rw [em] at e
      exact (ne e).elim
    | some y =>
      have : y = x := by
        unfold Tl.an at e
        rw [em] at e
        exact e.symm
      subst this
      exact nodup_snd h1 (look_mem ex) (look_mem em)
  exact ⟨fun n m hn _ e => key n m hn e, fun n m hn hm e => by
    rw [key n m hn e] at hn
    have hn : (t.tb K scr).fld m = true := hn
    rw [hm] at hn
    cases hn⟩
end
end Br
end

section
set_option Elab.async false
set_option linter.all false
set_option maxRecDepth 100000
set_option maxHeartbeats 1000000
/-! Br44: from the plain law to the row's. -/
namespace Br
open PySem PySem.Spec PySem.Calls PyProof.Rows L2
open PC (D E S Sl Cl Sg Gs Rs Re)
section
variable {P : Program} {w : World} {K : PySem.W.Frag} {mg : Str → Option Value} {base : Heap} {t : Tl} {G : PC.Gl}
theorem FnOk.any {ι : Type} {CX : CXT} {k : Nat} {f : Addr} {fd : FuncData} {ps : List Str} {sp : ι → Sp} (h : ∀ i, FnOk P w K mg base CX k f fd ps (sp i)) : FnOk P w K mg base CX k f fd ps (fun vs H Q E => ∃ i, sp i vs H Q E) :=
  ⟨fun vs H Q E ⟨i, q⟩ => (h i).len vs H Q E q, fun A outer s H args us vs Q E hr he hb hv ⟨i, q⟩ => (h i).run A outer s H args us vs Q E hr he hb hv q⟩
/-- the world at the start: the script -/
theorem start_ok {H : Hp} {a : Addr} {ns : List Int} (hT : ∀ p ∈ t.lam, H (He.cT K p.1).2 = some (.tbl #[])) (hS : SqL K H a (ns.map V.int)) : ∃ (scr : Option (Addr × List Int)) (u : Wd), u.s = [] ∧ u.g = [] ∧ Ok (t.tb K scr) u [] H ∧ Rep (t.tb K scr) u.ι u.F (.ref a) (.scr ns) := by
  have tabs : LamX.Tabs (t.lam.map fun p => ((He.cT K p.1).2, p.2)) H := fun p hp => by
    obtain ⟨q, hq, rfl⟩ := List.mem_map.mp hp
    exact LamX.TabS.nil (hT q hq)
  have locked : (hs : (∃ o, H a = some (.frz o (.lst (ns.map V.int)))) ∨ ∃ (o : Obj) (its : Array Value) (n : Nat), K.lookup a = some o ∧ o.cls = .type "list" ∧ o.dict = none ∧ o.data = .seq its n ∧ its.size ≤ sizeLine ∧ Vals (ns.map V.int) its.toList) →
      ∃ (scr : Option (Addr × List Int)) (u : Wd), u.s = [] ∧ u.g = [] ∧ Ok (t.tb K scr) u [] H ∧ Rep (t.tb K scr) u.ι u.F (.ref a) (.scr ns) := fun hs => by
    refine ⟨some (a, ns), ⟨[], fun _ => none, [], []⟩, rfl, rfl, ⟨rfl, List.nodup_nil, (fun a u e => nomatch e), (fun a u e => nomatch e), (fun n a c e _ => by simp at e), rfl, (fun i d e => by simp at e), (fun i d e => by simp at e), (fun i j d e a h => by simp at h), ⟨tabs, fun b ms e => ?_⟩⟩, .scr rfl⟩
    cases e
    exact hs
  rcases hS with (h | h) | h
  · refine ⟨none, ⟨[], fun b => if b = a then some (.lst (ns.map V.int)) else none, [], []⟩, rfl, rfl, ⟨rfl, List.nodup_nil, fun b u e => ?_, fun b u e => ?_, (fun n b c e _ => by simp at e), rfl, (fun i d e => by simp at e), (fun i d e => by simp at e), (fun i j d e b h => by simp at h), ⟨tabs, fun b ms e => nomatch e⟩⟩, .scrF (if_pos rfl)⟩
    · have e : (if b = a then some (HO.lst (ns.map V.int)) else none) = some u := e
      split at e
      · rename_i z
        cases e
        rw [z]
        exact .inl h
      · cases e
    · have e : (if b = a then some (HO.lst (ns.map V.int)) else none) = some u := e
      split at e
      · cases e; rfl
      · cases e
  · exact locked (.inl h)
  · exact locked (.inr h)
/-- the law's promise from the plain one -/
theorem law_sp {n f : Nat} {fd : PC.Fd} {scr : Option (Addr × List Int)} {u : Wd} {H : Hp} {a : Addr} {ns : List Int} {E : XK} (hf : G.fn f = some fd) (hr : fd.refs = []) (hp : fd.ps = 1) (us : u.s = []) (ug : u.g = []) (k : Ok (t.tb K scr) u [] H) (r : Rep (t.tb K scr) u.ι u.F (.ref a) (.scr ns))
    (h : ∃ fr g, PC.evFn G (n + 1) f [(.scr ns, false)] none [] = .ok (.bl true) fr g) : spL (t.tb K scr) G (n + 1) fd [.ref a] H (fun v _ => v = .bl true) E := by
  refine ⟨u, [.scr ns], us, k, .cons r .nil, hp.symm, ?_⟩
  obtain ⟨fr, g, h⟩ := h
  unfold PC.evFn at h
  rw [hf] at h
  have h : (if 1 = fd.ps then (match PC.evSs G (PC.evFn G n) none fd.body ⟨(PC.args fd.refs [(.scr ns, false)] []).1.map .va ++ List.replicate (fd.ns - 1) .un, (PC.args fd.refs [(.scr ns, false)] []).2⟩ with
    | .ok (.rt d fr) s => PC.fin ([] : Gs).length d fr s.g
    | .ok .nx s => PC.fin ([] : Gs).length .non false s.g
    | .ok _ _ => .no
    | .ex C fs s => PC.finX ([] : Gs).length C fs s.g
    | .no => .no) else Re.no) = .ok (.bl true) fr g := h
  rw [if_pos hp.symm, hr] at h
  have est : st0 fd [.scr ns] u.g = ⟨(PC.args [] [(.scr ns, false)] []).1.map .va ++ List.replicate (fd.ns - 1) .un, (PC.args [] [(.scr ns, false)] []).2⟩ := by
    rw [ug] <;> rfl
  rw [est]
  revert h
  cases PC.evSs G (PC.evFn G n) none fd.body ⟨(PC.args [] [(.scr ns, false)] []).1.map .va ++ List.replicate (fd.ns - 1) .un, (PC.args [] [(.scr ns, false)] []).2⟩ with
  | no => exact fun h => by cases h
  | ex C fs s =>
    intro h
    have h : PC.finX 0 C fs s.g = .ok (.bl true) fr g := h
    unfold PC.finX at h
    split at h
    · cases h
    · split at h <;> cases h
  | ok fl s =>
    cases fl with
    | bk => exact fun h => by cases h
    | ct => exact fun h => by cases h
    | nx =>
      intro h
      have h : PC.fin 0 .non false s.g = .ok (.bl true) fr g := h
      unfold PC.fin at h
      split at h
      · cases h
      · split at h <;> cases h
    | rt d b =>
      intro h v H' ⟨w', _, _, _, _, h1, h2⟩
      have h : PC.fin 0 d b s.g = .ok (.bl true) fr g := h
      have e : d = .bl true := by
        unfold PC.fin at h
        split at h
        · injection h
        · split at h <;> injection h
      subst e
      cases b with
      | false =>
        have z := h1 rfl
        cases z
        rfl
      | true =>
        obtain ⟨_, _, _, _, _, c⟩ := h2 rfl
        exact c.elim
/-- a def with a lambda -/
theorem lamD_of {scr : Option (Addr × List Int)} {x qual : Str} {params : Arguments} {body : List Stmt} {scope : Scope} {dvs : List V} {kws : List (Str × V)} {fd : FuncData} {p : He.Defn} {q : Str} (F : FunD K x qual params body scope dvs kws (He.fAd K p) fd) (TB : LamX.TabB base mg (He.cT K p).1 (He.cT K p).2) (hm : (p, q) ∈ t.lam)
    (nd : decide ((t.lam.map fun z => (He.cT K z.1).2).Nodup) = true) : LamD (t.tb K scr) mg base fd.code q := by
  obtain ⟨oc, od, dV, kV, doc, pm, an, cdv, ct, osl, e, lk, hcd, _, _⟩ := F.ex
  obtain ⟨c, rfl⟩ := He.codeIn_ref hcd
  have ec : fd.code = .ref c := by rw [e]
  refine ⟨c, (He.cT K p).2, ?_, ec, List.mem_map.mpr ⟨_, hm, rfl⟩, fun y hy ey => ?_⟩
  · have z : (He.cT K p).1 = c := He.codeOf_eq lk ec
    rw [← z]
    exact TB
  · obtain ⟨z, hz, rfl⟩ := List.mem_map.mp hy
    have nd := of_decide_eq_true nd
    have nd' : ((t.lam.map fun z => (z.2, (He.cT K z.1).2)).map (·.2)).Nodup := by rw [List.map_map]; exact nd
    have m1 : (z.2, (He.cT K z.1).2) ∈ t.lam.map fun z => (z.2, (He.cT K z.1).2) := List.mem_map.mpr ⟨z, hz, rfl⟩
    have m2 : (q, (He.cT K p).2) ∈ t.lam.map fun z => (z.2, (He.cT K z.1).2) := List.mem_map.mpr ⟨_, hm, rfl⟩
    have ey : (He.cT K z.1).2 = (He.cT K p).2 := ey
    rw [ey] at m1
    exact nodup_snd nd' m1 m2
/-! ### small helps of the head -/
theorem no_meth {l : Ls} {m : Nat} (h : (l.me.all fun p => p.1.2 != m) = true) : ∀ C, l.G.meth C m = none := fun C => by
  cases e : l.G.meth C m with
  | none => rfl
  | some f =>
    have z := List.all_eq_true.mp h _ (look_mem (show l.me.lookup (C, m) = some f from e))
    simp at z
theorem con_i {scr : Option (Addr × List Int)} {x : Str} {i : Int} (h : ∃ tk, mg x = some (.int i tk)) : ∃ v u, mg x = some u ∧ RelV v u ∧ ∀ ι F, Rep (t.tb K scr) ι F v (.int i) := by
  obtain ⟨tk, h⟩ := h
  exact ⟨.int i, _, h, ⟨_, rfl⟩, fun _ _ => .int i⟩
theorem con_s {scr : Option (Addr × List Int)} {x z : Str} {l : List Nat} (h : ∃ tk, mg x = some (.str z tk)) (e : z.cps.toList = l := by rfl) : ∃ v u, mg x = some u ∧ RelV v u ∧ ∀ ι F, Rep (t.tb K scr) ι F v (.str l) := by
  obtain ⟨tk, h⟩ := h
  subst e
  exact ⟨.str z, _, h, ⟨_, rfl⟩, fun _ _ => .str z⟩
theorem dfl_no {T : Tb} {v : List V} {d : List D} (hv : v = [] := by rfl) (hd : d = [] := by rfl) : ∀ (j : Nat) (ι : List Addr) (F : Hp), Rep T ι F (v.getD j .non) (d.getD j .non) := fun j ι F => by
  subst hv hd
  simpa using Rep.non
theorem dfl_c {T : Tb} {v : V} {d : D} {vs : List V} {ds : List D} (h : ∀ ι F, Rep T ι F v d) (t : ∀ (j : Nat) (ι : List Addr) (F : Hp), Rep T ι F (vs.getD j .non) (ds.getD j .non)) : ∀ (j : Nat) (ι : List Addr) (F : Hp), Rep T ι F ((v :: vs).getD j .non) ((d :: ds).getD j .non) := fun j ι F => by
  cases j with
  | zero => simpa using h ι F
  | succ j => simpa using t j ι F
/-- of some def each, a choice -/
theorem dat_of {R : Rw} (l : List (Nat × He.DefD)) (hl : ∀ f, R.dd f = l.lookup f) (ad : Nat → Addr) (fd0 : FuncData) (h : ∀ p ∈ l, ∃ fd, FunD K p.2.name p.2.qual p.2.params p.2.body p.2.scope (p.2.dvs K) (p.2.kws K) (ad p.1) fd) :
    ∃ dat : Nat → FuncData, ∀ f d, R.dd f = some d → FunD K d.name d.qual d.params d.body d.scope (d.dvs K) (d.kws K) (ad f) (dat f) := by
  have one : ∀ f, ∃ fd, ∀ d, R.dd f = some d → FunD K d.name d.qual d.params d.body d.scope (d.dvs K) (d.kws K) (ad f) fd := fun f => by
    cases e : R.dd f with
    | none => exact ⟨fd0, fun d z => by cases z⟩
    | some d =>
      rw [hl f] at e
      obtain ⟨fd, F⟩ := h _ (look_mem e)
      exact ⟨fd, fun d' z => by cases z; exact F⟩
  exact ⟨fun f => Classical.choose (one f), fun f d e => Classical.choose_spec (one f) d e⟩
end
end Br
end

section
set_option maxRecDepth 100000
set_option autoImplicit false
namespace PF
/-- is_name -/
def f8 : PC.Fd := ⟨1, 2, [], [.ret (.and (.isi (.v 0) [.str]) (.and (.chn .lt .lt (.c (.int 0)) (.bi .len [(.v 0)]) (.c (.int 9))) (.bi .all [(.lc (.cmp .in_ (.v 1) (.c (.str [97, 98, 99, 100, 101, 102, 103, 104, 105, 106, 107, 108, 109, 110, 111, 112, 113, 114, 115, 116, 117, 118, 119, 120, 121, 122]))) (.n 1) (.v 0) [])])))]⟩
/-- check_things -/
def f9 : PC.Fd := ⟨1, 2, [], [.ife (.or (.not (.isi (.v 0) [.tup])) (.cmp .lt (.bi .len [(.v 0)]) (.c (.int 2)))) [.rse 12 [(.c (.non))]] [], .for_ (.n 1) (.rng [(.bi .len [(.v 0)])]) [.ife (.or (.cmp .eq (.v 1) (.c (.int 5))) (.or (.not (.call 8 [(.idx (.v 0) (.v 1))] [.inl 0])) (.cmp .in_ (.idx (.v 0) (.v 1)) (.slc (.v 0) (.c .non) (.v 1))))) [.rse 12 [(.v 1)]] []]]⟩
/-- in_order -/
def f10 : PC.Fd := ⟨2, 3, [], [.ret (.bi .tuple [(.lc (.v 2) (.n 2) (.v 0) [(.cmp .in_ (.v 2) (.v 1))])])]⟩
/-- is_menu -/
def f11 : PC.Fd := ⟨2, 3, [], [.ife (.or (.not (.isi (.v 1) [.tup])) (.or (.cmp .lt (.bi .len [(.v 1)]) (.c (.int 2))) (.not (.bi .all [(.lc (.isi (.v 2) [.str]) (.n 2) (.v 1) [])])))) [.ret (.c (.bl false))] [], .ret (.and (.bi .all [(.lc (.cmp .in_ (.v 2) (.v 0)) (.n 2) (.v 1) [])]) (.cmp .eq (.bi .len [(.call 10 [(.v 0), (.v 1)] [.inl 0, .inl 1])]) (.bi .len [(.v 1)])))]⟩
/-- line_parts -/
def f12 : PC.Fd := ⟨2, 4, [], [.set 2 false (.ite (.isi (.v 1) [.str]) (.bm .split (.v 1) [(.c (.str [32, 61, 32]))]) (.lst [])), .ife (.cmp .ne (.bi .len [(.v 2)]) (.c (.int 2))) [.ret (.c (.non))] [], .set 3 false (.bi .tuple [(.bm .split (.idx (.v 2) (.c (.int 0))) [(.c (.str [32]))])]), .ife (.or (.not (.call 11 [(.v 0), (.v 3)] [.inl 0, .inl 1])) (.cmp .nin (.idx (.v 2) (.c (.int 1))) (.v 3))) [.ret (.c (.non))] [], .ret (.tup [(.call 10 [(.v 0), (.v 3)] [.inl 0, .inl 1]), (.idx (.v 2) (.c (.int 1)))])]⟩
/-- lines_told -/
def f13 : PC.Fd := ⟨2, 5, [], [.ife (.not (.isi (.v 1) [.tup])) [.rse 13 [(.c (.non))]] [], .set 2 true (.dct []), .for_ (.n 3) (.rng [(.bi .len [(.v 1)])]) [.set 4 false (.call 12 [(.v 0), (.idx (.v 1) (.v 3))] [.inl 0, .inl 1]), .ife (.or (.cmp .is_ (.v 4) (.c (.non))) (.cmp .in_ (.idx (.v 4) (.c (.int 0))) (.v 2))) [.rse 13 [(.v 3)]] [], .setI (.v 2) (.idx (.v 4) (.c (.int 0))) (.idx (.v 4) (.c (.int 1)))], .ret (.v 2)]⟩
/-- lots_of -/
def f14 : PC.Fd := ⟨2, 5, [], [.ife (.cmp .eq (.v 1) (.c (.int 0))) [.ret (.lst [(.tup [])])] [], .set 2 false (.lst []), .for_ (.n 3) (.rng [(.bi .len [(.v 0)])]) [.set 2 false (.bin .add (.v 2) (.lc (.bin .add (.tup [(.idx (.v 0) (.v 3))]) (.v 4)) (.n 4) (.call 14 [(.slc (.v 0) (.bin .add (.v 3) (.c (.int 1))) (.c .non)), (.bin .sub (.v 1) (.c (.int 1)))] [.inl 0, .inl 1]) []))], .ret (.v 2)]⟩
/-- all_menus -/
def f15 : PC.Fd := ⟨1, 3, [], [.set 1 false (.lst []), .for_ (.n 2) (.rng [(.c (.int 2)), (.bin .add (.bi .len [(.v 0)]) (.c (.int 1)))]) [.set 1 false (.bin .add (.v 1) (.call 14 [(.v 0), (.v 2)] [.inl 0, .inl 1]))], .ret (.v 1)]⟩
/-- Book.__init__ -/
def f16 : PC.Fd := ⟨3, 5, [], [.ex (.call 9 [(.v 1)] [.inl 0]), .set 3 false (.call 13 [(.v 1), (.v 2)] [.inl 0, .inl 1]), .setF (.v 0) 0 (.v 1), .setF (.v 0) 1 (.v 2), .setF (.v 0) 2 (.bi .tuple [(.call 15 [(.v 1)] [.inl 0])]), .setF (.v 0) 3 (.dc (.v 4) (.idx (.v 3) (.v 4)) (.n 4) (.attr (.v 0) 2) [(.cmp .in_ (.v 4) (.v 3))])]⟩
/-- Book.things -/
def f18 : PC.Fd := ⟨1, 1, [], [.ret (.attr (.v 0) 0)]⟩
/-- Book.lines -/
def f19 : PC.Fd := ⟨1, 1, [], [.ret (.attr (.v 0) 1)]⟩
/-- Book.menus -/
def f20 : PC.Fd := ⟨1, 1, [], [.ret (.attr (.v 0) 2)]⟩
/-- Book.told -/
def f21 : PC.Fd := ⟨1, 1, [], [.ret (.bi .tuple [(.attr (.v 0) 3)])]⟩
/-- Book.__eq__ -/
def f24 : PC.Fd := ⟨2, 2, [], [.ret (.and (.isi (.v 1) [.cls 29]) (.and (.cmp .eq (.attr (.v 0) 0) (.attr (.v 1) 4)) (.cmp .eq (.attr (.v 0) 1) (.attr (.v 1) 5))))]⟩
/-- Book.__str__ -/
def f25 : PC.Fd := ⟨1, 1, [], [.ret (.bm .join (.c (.str [10])) [(.lst [(.bin .add (.c (.str [116, 104, 105, 110, 103, 115, 32])) (.bm .join (.c (.str [32])) [(.attr (.v 0) 0)])), (.star (.attr (.v 0) 1))])])]⟩
/-- check_menu -/
def f27 : PC.Fd := ⟨2, 2, [], [.ife (.not (.call 11 [(.attr (.v 0) 4), (.v 1)] [.inl 0, .inl 1])) [.rse 3 [(.v 1)]] []]⟩
/-- menu_of -/
def f28 : PC.Fd := ⟨2, 2, [], [.ret (.call 10 [(.attr (.v 0) 4), (.v 1)] [.inl 0, .inl 1])]⟩
/-- Book.pick -/
def f29 : PC.Fd := ⟨2, 3, [], [.ex (.call 27 [(.v 0), (.v 1)] [.inl 0, .inl 1]), .set 2 false (.call 28 [(.v 0), (.v 1)] [.inl 0, .inl 1]), .ife (.cmp .nin (.v 2) (.attr (.v 0) 3)) [.rse 18 [(.v 2)]] [], .ret (.idx (.attr (.v 0) 3) (.v 2))]⟩
/-- _law_cell -/
def f30 : PC.Fd := ⟨2, 4, [], [.ife (.cmp .lt (.v 1) (.bi .len [(.v 0)])) [.ret (.idx (.v 0) (.v 1))] [], .set 2 false (.bin .mod (.bi .int [(.bin .mul (.c (.int 52361)) (.bin .add (.bin .add (.bin .mul (.v 1) (.v 1)) (.bin .mul (.c (.int 7)) (.v 1))) (.c (.int 13))))]) (.c (.int 2147483543))), .for_ (.n 3) (.slc (.v 0) (.c .non) (.c (.int 3))) [.set 2 false (.bin .mod (.bi .int [(.bin .add (.bin .add (.bin .mul (.v 2) (.c (.int 44087))) (.bin .mul (.v 3) (.c (.int 5)))) (.c (.int 1201)))]) (.c (.int 2147483543)))], .ret (.v 2)]⟩
/-- _law_purse -/
def f31 : PC.Fd := ⟨1, 1, [], [.ret (.lst [(.ite (.or (.cmp .lt (.v 0) (.c (.int 0))) (.cmp .ge (.v 0) (.bin .pow (.c (.int 10)) (.c (.int 18))))) (.bi .abs [(.v 0)]) (.c (.int 0))), (.bin .mod (.bi .int [(.bin .add (.bin .mul (.v 0) (.c (.int 48271))) (.c (.int 11)))]) (.c (.int 2147483543))), (.c (.int 0))])]⟩
/-- _law_roll -/
def f32 : PC.Fd := ⟨2, 4, [true, false], [.setI (.v 0) (.c (.int 2)) (.bin .add (.idx (.v 0) (.c (.int 2))) (.c (.int 1))), .ife (.cmp .gt (.idx (.v 0) (.c (.int 0))) (.c (.int 0))) [.setT (.t [.ix 0 0, .n 3]) (.bi .divmod [(.idx (.v 0) (.c (.int 0))), (.v 1)]), .ret (.v 3)] [], .set 2 false (.bi .int [(.idx (.v 0) (.c (.int 1)))]), .setI (.v 0) (.c (.int 1)) (.bin .mod (.bi .int [(.bin .add (.bin .mul (.v 2) (.bin .add (.v 2) (.c (.int 50021)))) (.bin .mul (.c (.int 91229)) (.idx (.v 0) (.c (.int 2)))))]) (.c (.int 2147483543))), .ret (.bin .mod (.bi .int [(.bin .fdiv (.idx (.v 0) (.c (.int 1))) (.c (.int 128)))]) (.v 1))]⟩
/-- _law_pick -/
def f33 : PC.Fd := ⟨2, 2, [true, false], [.ret (.idx (.v 1) (.call 32 [(.v 0), (.bi .len [(.v 1)])] [.inl 0, .inl 1]))]⟩
/-- _law_mixed -/
def f34 : PC.Fd := ⟨2, 5, [true, false], [.par [(2, false), (3, true)] [(.bi .list [(.v 1)]), (.lst [])], .whl (.cmp .ne (.v 2) (.lst [])) [.set 4 false (.call 32 [(.v 0), (.bi .len [(.v 2)])] [.inl 0, .inl 1]), .ex (.bm .append (.v 3) [(.idx (.v 2) (.v 4))]), .set 2 false (.bin .add (.slc (.v 2) (.c .non) (.v 4)) (.slc (.v 2) (.bin .add (.v 4) (.c (.int 1))) (.c .non)))], .ret (.v 3)]⟩
/-- _law_stuff -/
def f35 : PC.Fd := ⟨3, 4, [true, false, false], [.set 3 false (.bin .add (.v 1) (.call 32 [(.v 0), (.bin .add (.bin .sub (.v 2) (.v 1)) (.c (.int 1)))] [.inl 0, .inl 1])), .ret (.bi .tuple [(.slc (.call 34 [(.v 0), (.lst [(.c (.str [97])), (.c (.str [98])), (.c (.str [99])), (.c (.str [100])), (.c (.str [122])), (.c (.str [102, 105, 103])), (.c (.str [107, 105, 119, 105])), (.c (.str [97, 98, 99, 100, 101, 102, 103, 104]))])] [.inl 0, .inl 1]) (.c .non) (.v 3))])]⟩
/-- _law_menus -/
def f36 : PC.Fd := ⟨1, 6, [], [.par [(3, false), (4, true)] [(.lst [(.tup [])]), (.lst [])], .for_ (.n 1) (.rng [(.bi .len [(.v 0)])]) [.set 3 false (.bin .add (.v 3) (.lc (.bin .add (.v 2) (.tup [(.v 1)])) (.n 2) (.v 3) []))], .for_ (.n 2) (.srtL (.v 3)) [.ife (.cmp .gt (.bi .len [(.v 2)]) (.c (.int 1))) [.ex (.bm .append (.v 4) [(.bi .tuple [(.lc (.idx (.v 0) (.v 1)) (.n 1) (.v 2) [])])])] []], .ret (.v 4)]⟩
/-- Book.whole -/
def f52 : PC.Fd := ⟨1, 1, [], [.ret (.cmp .eq (.bi .len [(.attr (.v 0) 3)]) (.bi .len [(.attr (.v 0) 2)]))]⟩
/-- is_integer -/
def f60 : PC.Fd := ⟨1, 1, [], [.ret (.and (.isi (.v 0) [.int]) (.not (.isi (.v 0) [.bool])))]⟩
/-- is_between -/
def f61 : PC.Fd := ⟨3, 3, [], [.ret (.and (.call 60 [(.v 0)] [.inl 0]) (.chn .le .le (.v 1) (.v 0) (.v 2)))]⟩
/-- Book.with_line -/
def f62 : PC.Fd := ⟨2, 3, [], [.set 2 false (.call 12 [(.attr (.v 0) 0), (.v 1)] [.inl 0, .inl 1]), .ife (.or (.cmp .is_ (.v 2) (.c (.non))) (.cmp .in_ (.idx (.v 2) (.c (.int 0))) (.attr (.v 0) 3))) [.rse 2 [(.v 1)]] [], .ret (.make 29 [(.attr (.v 0) 0), (.tup [(.star (.attr (.v 0) 1)), (.v 1)])] [.inl 0, .inl 1])]⟩
/-- Book.without -/
def f63 : PC.Fd := ⟨2, 2, [], [.ife (.not (.call 61 [(.v 1), (.c (.int 0)), (.bin .sub (.bi .len [(.attr (.v 0) 1)]) (.c (.int 1)))] [.inl 0, .inl 1, .inl 2])) [.rse 10 [(.v 1)]] [], .ret (.make 29 [(.attr (.v 0) 0), (.bin .add (.slc (.attr (.v 0) 1) (.c .non) (.v 1)) (.slc (.attr (.v 0) 1) (.bin .add (.v 1) (.c (.int 1))) (.c .non)))] [.inl 0, .inl 1])]⟩
/-- _law_deed -/
def f64 : PC.Fd := ⟨4, 9, [true, false, false, false], [.set 4 false (.lc (.v 5) (.n 5) (.call 36 [(.v 2)] [.inl 0]) [(.cmp .nin (.v 5) (.attr (.v 1) 8))]), .ife (.and (.cmp .ne (.v 3) (.tup [])) (.or (.cmp .eq (.v 4) (.lst [])) (.cmp .eq (.call 32 [(.v 0), (.c (.int 3))] [.inl 0, .inl 1]) (.c (.int 0))))) [.set 8 false (.call 32 [(.v 0), (.bi .len [(.v 3)])] [.inl 0, .inl 1]), .set 7 false (.ite (.cmp .eq (.call 32 [(.v 0), (.c (.int 2))] [.inl 0, .inl 1]) (.c (.int 0))) (.meth (.v 1) 28 [(.v 8)] [.inl 0]) (.meth (.v 1) 28 [(.v 8)] [.inl 0])), .ret (.tup [(.v 7), (.bin .add (.slc (.v 3) (.c .non) (.v 8)) (.slc (.v 3) (.bin .add (.v 8) (.c (.int 1))) (.c .non)))])] [], .set 5 false (.call 33 [(.v 0), (.v 4)] [.inl 0, .inl 1]), .set 6 false (.bin .add (.bin .add (.bm .join (.c (.str [32])) [(.call 34 [(.v 0), (.v 5)] [.inl 0, .inl 1])]) (.c (.str [32, 61, 32]))) (.call 33 [(.v 0), (.v 5)] [.inl 0, .inl 1])), .set 7 false (.ite (.cmp .eq (.call 32 [(.v 0), (.c (.int 2))] [.inl 0, .inl 1]) (.c (.int 0))) (.meth (.v 1) 29 [(.v 6)] [.inl 0]) (.meth (.v 1) 29 [(.v 6)] [.inl 0])), .ret (.tup [(.v 7), (.bin .add (.v 3) (.tup [(.v 6)]))])]⟩
/-- _law_case_right -/
def f65 : PC.Fd := ⟨1, 10, [true], [.for_ (.n 1) (.rng [(.c (.int 2))]) [.set 2 false (.call 35 [(.v 0), (.c (.int 2)), (.c (.int 4))] [.inl 0, .inl 1, .inl 2]), .setT (.t [.n 4, .n 5]) (.tup [(.make 29 [(.v 2)] [.inl 0, .inr (.tup [])]), (.tup [])]), .for_ (.n 3) (.rng [(.bin .add (.c (.int 8)) (.call 32 [(.v 0), (.c (.int 9))] [.inl 0, .inl 1]))]) [.par [(7, false), (8, false)] [(.v 4), (.bi .str [(.v 4)])], .setT (.t [.n 4, .n 5]) (.call 64 [(.v 0), (.v 4), (.v 2), (.v 5)] [.inl 0, .inl 1, .inl 2, .inl 3]), .set 6 false (.make 29 [(.v 2), (.v 5)] [.inl 0, .inl 1]), .ife (.or (.cmp .ne (.v 4) (.v 6)) (.or (.cmp .ne (.attr (.v 4) 5) (.v 5)) (.or (.cmp .ne (.attr (.v 4) 8) (.attr (.v 6) 8)) (.cmp .ne (.bi .str [(.v 7)]) (.v 8))))) [.ret (.c (.bl false))] [], .ife (.cmp .ne (.lc (.meth (.v 4) 27 [(.v 9)] [.inl 0]) (.n 9) (.attr (.v 4) 8) []) (.lc (.meth (.v 6) 27 [(.v 9)] [.inl 0]) (.n 9) (.attr (.v 6) 8) [])) [.ret (.c (.bl false))] []], .for_ (.n 3) (.rng [(.bi .len [(.v 5)])]) [.set 4 false (.meth (.v 4) 28 [(.c (.int 0))] [.inl 0])], .ife (.or (.cmp .ne (.v 4) (.make 29 [(.v 2)] [.inl 0, .inr (.tup [])])) (.or (.cmp .ne (.attr (.v 4) 8) (.tup [])) (.attr (.v 4) 9))) [.ret (.c (.bl false))] []], .ret (.c (.bl true))]⟩
/-- law -/
def f66 : PC.Fd := ⟨1, 2, [], [.for_ (.n 1) (.rng [(.bi .max2 [(.c (.int 2)), (.bi .min2 [(.bi .len [(.v 0)]), (.c (.int 5))])])]) [.ife (.not (.call 65 [(.call 31 [(.call 30 [(.v 0), (.v 1)] [.inl 0, .inl 1])] [.inl 0])] [.inl 0])) [.ret (.c (.bl false))] []], .ret (.c (.bl true))]⟩
end PF
end

section
set_option autoImplicit false
set_option linter.all false
set_option maxRecDepth 100000
set_option maxHeartbeats 1000000
namespace PX
open PC PF
variable {G : Gl} {cf : CF} {th : Option (Gs → Re)}
theorem fn1 {n f : Nat} {fd : Fd} {xs : List (D × Bool)} {g : Gs} (hf : G.fn f = some fd) (hl : xs.length = fd.ps) : evFn G (n + 1) f xs none g =
    match evSs G (evFn G n) none fd.body ⟨(args fd.refs xs g).1.map .va ++ List.replicate (fd.ns - xs.length) .un, (args fd.refs xs g).2⟩ with
    | .ok (.rt d fr) s => fin g.length d fr s.g
    | .ok .nx s => fin g.length .non false s.g
    | .ok _ _ => .no
    | .ex C fs s => finX g.length C fs s.g
    | .no => .no := by
  conv => lhs; unfold evFn
  simp only [hf]
  rw [if_pos (by simpa using hl)]
  all_goals rfl
/-- the law's purse -/
def pu (a b z : Int) : Gs := [.ref [.int a, .int b, .int z]]
def puOk (a b : Int) : Prop := 0 ≤ a ∧ 0 ≤ b ∧ b < 2147483543
theorem roll (n : Nat) {a b z s : Int} (hf : G.fn 32 = some f32) (h : puOk a b) (h1 : 1 ≤ s) (h2 : s < 1073741824) :
    ∃ r a' b' z', evFn G (n + 1) 32 [(.cell 0, false), (.int s, false)] none (pu a b z) = .ok (.int r) false (pu a' b' z') ∧ puOk a' b' ∧ 0 ≤ r ∧ r < s := by
  obtain ⟨ha, hb, hb2⟩ := h
  have h0 : 0 < s := by omega
  by_cases hz : 0 < a
  · refine ⟨a % s, a / s, b, z + 1, ?_, ⟨Int.ediv_nonneg ha (by omega), hb, hb2⟩, Int.emod_nonneg _ (by omega), Int.emod_lt_of_pos _ (by omega)⟩
    rw [fn1 hf rfl]
    simp [f32, pu, args, evSs, evS, evE, evL, rd, pk, lk, quiet, looked, isDs, Rs.bind, drf, toB, opt, fin, idxD, ixOf, idxV, clsOf, binD, setD, cmpV, inC, cmpD, biV, biD, bindT, bindTs, setIx, isLs, put, hz, h0, h1, h2]
  · have e1 : -two64 < b ∧ b < two64 := by unfold two64; omega
    have hz' : (0 < a) = False := by simp [hz]
    clear hz
    refine ⟨(b * (b + 50021) + 91229 * (z + 1)) % 2147483543 / 128 % s, a, (b * (b + 50021) + 91229 * (z + 1)) % 2147483543, z + 1, ?_, ⟨ha, Int.emod_nonneg _ (by omega), Int.emod_lt_of_pos _ (by omega)⟩, Int.emod_nonneg _ (by omega), Int.emod_lt_of_pos _ (by omega)⟩
    rw [fn1 hf rfl]
    have e2 : -two64 < (91229 : Int) ∧ (91229 : Int) < two64 := by decide
    simp [f32, pu, args, evSs, evS, evE, evL, rd, pk, lk, quiet, looked, isDs, Rs.bind, drf, toB, opt, fin, idxD, ixOf, idxV, clsOf, binD, setD, cmpV, inC, cmpD, biV, biD, bindT, bindTs, setIx, isLs, put, hz', h0, h1, h2, e1, e2]
end PX
end

section
set_option autoImplicit false
set_option linter.all false
set_option maxRecDepth 100000
set_option maxHeartbeats 2000000
/-! P2: loops; a pick, a mixed row. -/
namespace PX
open PC PF
variable {G : Gl} {cf : CF} {th : Option (Gs → Re)}
/-- for: an invariant over what is done -/
theorem forL_run {body : D → St → Rs Fl} (I : List D → St → Prop) : ∀ (xs done : List D) (s : St), (∀ x d s, x ∈ xs → I d s → ∃ s', body x s = .ok .nx s' ∧ I (d ++ [x]) s') → I done s → ∃ s', forL body xs s = .ok .nx s' ∧ I (done ++ xs) s'
  | [], done, s, _, h => ⟨s, rfl, by simpa using h⟩
  | x :: xs, done, s, hb, h => by
    obtain ⟨s1, e1, h1⟩ := hb x done s List.mem_cons_self h
    obtain ⟨s2, e2, h2⟩ := forL_run I xs (done ++ [x]) s1 (fun y d s hy => hb y d s (List.mem_cons_of_mem _ hy)) h1
    refine ⟨s2, ?_, by simpa using h2⟩
    show (body x s).bind _ = _
    rw [e1]
    exact e2
/-- a comprehension that changes nothing -/
theorem lcL_map {step : D → St → Rs (List D)} (f : D → List D) (s : St) : ∀ xs : List D, (∀ x ∈ xs, step x s = .ok (f x) s) → lcL step xs s = .ok (xs.flatMap f) s
  | [], _ => rfl
  | x :: xs, h => by
    show (step x s).bind _ = _
    rw [h x List.mem_cons_self]
    show (lcL step xs s).bind _ = _
    rw [lcL_map f s xs fun y hy => h y (List.mem_cons_of_mem _ hy)]
    rfl
/-- while: an invariant and a measure -/
theorem whlL_run {test : St → Rs Bool} {body : St → Rs Fl} (I : Nat → St → Prop) : ∀ (k fuel : Nat) (s : St), k < fuel → I k s → (∀ k s, I (k + 1) s → ∃ s1 s2, test s = .ok true s1 ∧ body s1 = .ok .nx s2 ∧ I k s2) → (∀ s, I 0 s → ∃ s1, test s = .ok false s1 ∧ I 0 s1) → ∃ s', whlL test body fuel s = .ok .nx s' ∧ I 0 s'
  | 0, 0, s, h, _, _, _ => by omega
  | 0, fuel + 1, s, _, h, hb, h0 => by
    obtain ⟨s1, e1, h1⟩ := h0 s h
    exact ⟨s1, by show (test s).bind _ = _; rw [e1]; rfl, h1⟩
  | k + 1, 0, s, h, _, _, _ => by omega
  | k + 1, fuel + 1, s, hk, h, hb, h0 => by
    obtain ⟨s1, s2, e1, e2, h2⟩ := hb k s h
    obtain ⟨s', e3, h3⟩ := whlL_run I k fuel s2 (by omega) h2 hb h0
    refine ⟨s', ?_, h3⟩
    show (test s).bind _ = _
    rw [e1]
    show (body s1).bind _ = _
    rw [e2]
    exact e3
/-! ### statement by statement -/
theorem ss_nx {x : S} {r : List S} {s s1 : St} (h : evS G cf th x s = .ok .nx s1) : evSs G cf th (x :: r) s = evSs G cf th r s1 := by
  conv => lhs; unfold evSs
  rw [h]
  rfl
theorem ss_rt {x : S} {r : List S} {s s1 : St} {d : D} {fr : Bool} (h : evS G cf th x s = .ok (.rt d fr) s1) : evSs G cf th (x :: r) s = .ok (.rt d fr) s1 := by
  conv => lhs; unfold evSs
  rw [h]
  rfl
theorem ss_nil {s : St} : evSs G cf th [] s = .ok .nx s := by unfold evSs; rfl
theorem s_whl {c : E} {b : List S} {s : St} : evS G cf th (.whl c b) s = whlL (fun s1 => (evE G cf th c s1).bind fun x s2 => toB x s2) (fun s1 => evSs G cf th b s1) fuelW s := by simp only [evS]
theorem s_for {t : T} {it : E} {b : List S} {s : St} : evS G cf th (.for_ t it b) s = (evE G cf th it s).bind fun r s1 => (opt (walkI it r.1) s1).bind fun xs s2 => forL (fun x s3 => (opt (bindT t x s3) s3).bind fun z _ => evSs G cf th b z) xs s2 := by simp only [evS]
theorem s_if {c : E} {a b : List S} {s : St} : evS G cf th (.ife c a b) s = (evE G cf th c s).bind fun x s1 => (toB x s1).bind fun k s2 => if k then evSs G cf th a s2 else evSs G cf th b s2 := by simp only [evS]
/-- a list or a tuple -/
def dS : Bool → List D → D
  | true, xs => .tup xs
  | false, xs => .lst xs
theorem pick (n : Nat) {a b z : Int} {t fr : Bool} {xs : List D} (hf : G.fn 32 = some f32) (hg : G.fn 33 = some f33) (h : puOk a b) (h1 : xs ≠ []) (h2 : xs.length < 1073741824) :
    ∃ x a' b' z', evFn G (n + 2) 33 [(.cell 0, false), (dS t xs, fr)] none (pu a b z) = .ok x false (pu a' b' z') ∧ puOk a' b' ∧ x ∈ xs := by
  have hl : 0 < xs.length := List.length_pos_iff.mpr h1
  obtain ⟨r, a', b', z', e, ok, r0, r1⟩ := roll (G := G) n (z := z) (s := xs.length) hf h (by omega) (by omega)
  obtain ⟨k, rfl⟩ := Int.eq_ofNat_of_zero_le r0
  have hk : k < xs.length := by omega
  refine ⟨xs[k], a', b', z', ?_, ok, List.getElem_mem _⟩
  rw [fn1 (n := n + 1) hg rfl]
  simp only [pu] at e ⊢
  cases t <;> simp [f33, dS, args, evSs, evS, evE, evL, rd, pk, lk, quiet, quietL, looked, isDs, Rs.bind, drf, opt, fin, idxD, ixOf, idxV, clsOf, biV, biD, perm, isId, dflOf, permF, isDfl, Re.rs, e, hk]
end PX
end

section
set_option autoImplicit false
set_option linter.all false
set_option maxRecDepth 100000
set_option maxHeartbeats 4000000
/-! P3: a mixed row. -/
namespace PX
open PC PF
variable {G : Gl} {cf : CF} {th : Option (Gs → Re)}
theorem cut_hi {α : Type} {xs : List α} {k : Nat} (h : k ≤ xs.length) : cutD xs none (some (k : Int)) = xs.take k := by
  have e : bnd (k : Int) xs.length = k := by
    unfold bnd
    rw [if_neg (by omega)]
    split <;> omega
  unfold cutD
  simp [e]
theorem cut_lo {α : Type} {xs : List α} {k : Nat} (h : k ≤ xs.length) : cutD xs (some (k : Int)) none = xs.drop k := by
  have e : bnd (k : Int) xs.length = k := by
    unfold bnd
    rw [if_neg (by omega)]
    split <;> omega
  unfold cutD
  simp [e, List.take_of_length_le]
theorem shpL_all {n : Nat} : ∀ {xs : List D}, shpL n xs = true ↔ ∀ x ∈ xs, shp n x = true
  | [] => by simp [shpL]
  | x :: xs => by simp [shpL, shpL_all (xs := xs)]
theorem eqvL_nil : ∀ xs : List D, eqvL xs [] = xs.isEmpty
  | [] => rfl
  | _ :: _ => rfl
theorem mixed (n : Nat) {a b z : Int} {t fr : Bool} {xs : List D} (hf : G.fn 32 = some f32) (hg : G.fn 34 = some f34) (h : puOk a b) (hs : shpL 59 xs = true) (hb : xs.length < 100000) :
    ∃ ys a' b' z', evFn G (n + 2) 34 [(.cell 0, false), (dS t xs, fr)] none (pu a b z) = .ok (.lst ys) true (pu a' b' z') ∧ puOk a' b' ∧ ys.Perm xs := by
  rw [fn1 (n := n + 1) hg rfl]
  let I : Nat → St → Prop := fun m s => ∃ rest found a b z sl, s = ⟨[.va (.cell 0), .va (dS t xs), .va (.lst rest), .ow (.lst found), sl], pu a b z⟩ ∧ puOk a b ∧ (found ++ rest).Perm xs ∧ rest.length = m
  have hshp : ∀ {rest found : List D}, (found ++ rest).Perm xs → shpL 59 rest = true := fun {rest found} p => shpL_all.mpr fun x hx => shpL_all.mp hs x (p.mem_iff.mp (List.mem_append_right _ hx))
  have hlen : ∀ {rest found : List D}, (found ++ rest).Perm xs → found.length + rest.length = xs.length := fun {rest found} p => by rw [← List.length_append]; exact p.length_eq
  have go := whlL_run (test := fun s1 => (evE G (evFn G (n + 1)) none (.cmp .ne (.v 2) (.lst [])) s1).bind fun x s2 => toB x s2)
    (body := fun s1 => evSs G (evFn G (n + 1)) none [.set 4 false (.call 32 [(.v 0), (.bi .len [(.v 2)])] [.inl 0, .inl 1]), .ex (.bm .append (.v 3) [(.idx (.v 2) (.v 4))]), .set 2 false (.bin .add (.slc (.v 2) (.c .non) (.v 4)) (.slc (.v 2) (.bin .add (.v 4) (.c (.int 1))) (.c .non)))] s1)
    I xs.length fuelW ⟨[.va (.cell 0), .va (dS t xs), .va (.lst xs), .ow (.lst []), .un], pu a b z⟩ (by unfold fuelW; omega) ⟨xs, [], a, b, z, .un, rfl, h, by simp, rfl⟩ ?_ ?_
  · obtain ⟨s', e, rest, found, a', b', z', sl, rfl, ok, p, l⟩ := go
    refine ⟨found, a', b', z', ?_, ok, ?_⟩
    · have e0 : evS G (evFn G (n + 1)) none (.par [(2, false), (3, true)] [(.bi .list [(.v 1)]), (.lst [])]) ⟨[.va (.cell 0), .va (dS t xs), .un, .un, .un], pu a b z⟩ = .ok .nx ⟨[.va (.cell 0), .va (dS t xs), .va (.lst xs), .ow (.lst []), .un], pu a b z⟩ := by
        cases t <;> simp [dS, evS, evE, evL, rd, pk, lk, Rs.bind, drf, opt, biV, clsOf, biD, mkL, puts, put, show xs.length ≤ big from by unfold big; omega]
      have e1 : evSs G (evFn G (n + 1)) none f34.body ⟨[.va (.cell 0), .va (dS t xs), .un, .un, .un], pu a b z⟩ = .ok (.rt (.lst found) true) ⟨[.va (.cell 0), .va (dS t xs), .va (.lst rest), .un, sl], pu a' b' z'⟩ := by
        unfold f34
        rw [ss_nx e0, ss_nx (s_whl.trans e)]
        exact ss_rt (by simp [evS, pk, Rs.bind])
      show (match evSs G (evFn G (n + 1)) none f34.body ⟨[.va (.cell 0), .va (dS t xs), .un, .un, .un], pu a b z⟩ with
        | .ok (.rt d fr) s => fin 1 d fr s.g
        | .ok .nx s => fin 1 .non false s.g
        | .ok _ _ => .no
        | .ex C fs s => finX 1 C fs s.g
        | .no => .no) = _
      rw [e1]
      rfl
    · have : rest = [] := List.length_eq_zero_iff.mp l
      subst this
      simpa using p
  · intro m s hI
    obtain ⟨rest, found, a, b, z, sl, rfl, ok, p, l⟩ := hI
    have hl : 0 < rest.length := by omega
    have hx := hlen p
    obtain ⟨r, a', b', z', e, ok', r0, r1⟩ := roll (G := G) n (z := z) (s := rest.length) hf ok (by omega) (by omega)
    obtain ⟨k, rfl⟩ := Int.eq_ofNat_of_zero_le r0
    have hk : k < rest.length := by omega
    refine ⟨⟨[.va (.cell 0), .va (dS t xs), .va (.lst rest), .ow (.lst found), sl], pu a b z⟩, ⟨[.va (.cell 0), .va (dS t xs), .va (.lst (rest.take k ++ rest.drop (k + 1))), .ow (.lst (found ++ [rest[k]])), .va (.int k)], pu a' b' z'⟩, ?_, ?_, rest.take k ++ rest.drop (k + 1), found ++ [rest[k]], a', b', z', _, rfl, ok', ?_, ?_⟩
    · have hne : rest.isEmpty = false := by cases rest with | nil => simp at hl | cons _ _ => rfl
      simp [evE, evL, rd, pk, lk, quiet, quietL, looked, isDs, Rs.bind, drf, opt, cmpV, inC, clsOf, cmpD, mkL, shp, hshp p, shpL, eqv, eqvL_nil, hne, toB, pu]
    · have e1 : evS G (evFn G (n + 1)) none (.set 4 false (.call 32 [(.v 0), (.bi .len [(.v 2)])] [.inl 0, .inl 1])) ⟨[.va (.cell 0), .va (dS t xs), .va (.lst rest), .ow (.lst found), sl], pu a b z⟩ = .ok .nx ⟨[.va (.cell 0), .va (dS t xs), .va (.lst rest), .ow (.lst found), .va (.int k)], pu a' b' z'⟩ := by
        simp [evS, evE, evL, rd, pk, lk, Rs.bind, drf, opt, biV, clsOf, biD, perm, isId, dflOf, isDfl, Re.rs, e, put]
      have e2 : evS G (evFn G (n + 1)) none (.ex (.bm .append (.v 3) [(.idx (.v 2) (.v 4))])) ⟨[.va (.cell 0), .va (dS t xs), .va (.lst rest), .ow (.lst found), .va (.int k)], pu a' b' z'⟩ = .ok .nx ⟨[.va (.cell 0), .va (dS t xs), .va (.lst rest), .ow (.lst (found ++ [rest[k]])), .va (.int k)], pu a' b' z'⟩ := by
        simp [evS, evE, evL, rd, pk, lk, quiet, quietL, Rs.bind, drf, opt, idxV, clsOf, idxD, ixOf, hk, isMut, isLs, mutD, show found.length < big from by unfold big; omega]
      have e3 : evS G (evFn G (n + 1)) none (.set 2 false (.bin .add (.slc (.v 2) (.c .non) (.v 4)) (.slc (.v 2) (.bin .add (.v 4) (.c (.int 1))) (.c .non)))) ⟨[.va (.cell 0), .va (dS t xs), .va (.lst rest), .ow (.lst (found ++ [rest[k]])), .va (.int k)], pu a' b' z'⟩ = .ok .nx ⟨[.va (.cell 0), .va (dS t xs), .va (.lst (rest.take k ++ rest.drop (k + 1))), .ow (.lst (found ++ [rest[k]])), .va (.int k)], pu a' b' z'⟩ := by
        have c1 := cut_hi (xs := rest) (k := k) (by omega)
        have c2 := cut_lo (xs := rest) (k := k + 1) (by omega)
        have c2 : cutD rest (some ((k : Int) + 1)) none = rest.drop (k + 1) := c2
        have z2 : (rest.take k ++ rest.drop (k + 1)).length ≤ big := by
          rw [List.length_append, List.length_take, List.length_drop]
          unfold big
          omega
        have m : mkL (rest.take k ++ rest.drop (k + 1)) = some (.lst (rest.take k ++ rest.drop (k + 1)), true) := by
          unfold mkL
          rw [if_pos z2]
        simp [evS, evE, evL, rd, pk, lk, quiet, quietL, Rs.bind, drf, opt, prt, slcD, binD, put, c1, c2, m]
      rw [ss_nx e1, ss_nx e2, ss_nx e3, ss_nil]
    · refine List.Perm.trans ?_ p
      rw [List.append_assoc]
      refine List.Perm.append_left _ ?_
      have : rest = rest.take k ++ rest[k] :: rest.drop (k + 1) := by
        rw [List.getElem_cons_drop, List.take_append_drop]
      have z : (rest[k] :: (rest.take k ++ rest.drop (k + 1))).Perm (rest.take k ++ rest[k] :: rest.drop (k + 1)) := List.perm_middle.symm
      rw [← this] at z
      exact z
    · rw [List.length_append, List.length_take, List.length_drop]
      omega
  · intro s hI
    obtain ⟨rest, found, a, b, z, sl, rfl, ok, p, l⟩ := hI
    have : rest = [] := List.length_eq_zero_iff.mp l
    subst this
    refine ⟨⟨[.va (.cell 0), .va (dS t xs), .va (.lst []), .ow (.lst found), sl], pu a b z⟩, ?_, [], found, a, b, z, sl, rfl, ok, p, rfl⟩
    simp [evE, evL, rd, pk, lk, quiet, quietL, looked, isDs, Rs.bind, drf, opt, cmpV, inC, clsOf, cmpD, mkL, shp, shpL, eqv, eqvL_nil, toB, pu]
end PX
end

section
set_option autoImplicit false
set_option linter.all false
set_option maxRecDepth 100000
set_option maxHeartbeats 4000000
/-! P4: drawn things. -/
namespace PX
open PC PF
variable {G : Gl} {cf : CF} {th : Option (Gs → Re)}
def nm8 : List (List Nat) := [[97], [98], [99], [100], [122], [102, 105, 103], [107, 105, 119, 105], [97, 98, 99, 100, 101, 102, 103, 104]]
/-- things: some of the eight names, different ones -/
structure Th (ws : List (List Nat)) : Prop where
  lo : 2 ≤ ws.length
  hi : ws.length ≤ 5
  nd : ws.Nodup
  mem : ∀ w ∈ ws, w ∈ nm8
def sD (ws : List (List Nat)) : List D := ws.map .str
def unS : D → List Nat
  | .str x => x
  | _ => []
theorem perm_sD {ys : List D} {ws : List (List Nat)} (h : ys.Perm (sD ws)) : ∃ vs, ys = sD vs ∧ vs.Perm ws := by
  refine ⟨ys.map unS, ?_, ?_⟩
  · have key : ∀ y ∈ ys, D.str (unS y) = y := fun y hy => by
      obtain ⟨w, _, rfl⟩ := List.mem_map.mp (h.mem_iff.mp hy)
      rfl
    unfold sD
    rw [List.map_map]
    exact ((List.map_congr_left key).trans (List.map_id _)).symm
  · have z := h.map unS
    have e : (sD ws).map unS = ws := by
      unfold sD
      rw [List.map_map]
      exact List.map_id _
    rw [e] at z
    exact z
theorem stuff (n : Nat) {a b z least most : Int} (hf : G.fn 32 = some f32) (hg : G.fn 34 = some f34) (hh : G.fn 35 = some f35) (h : puOk a b) (h1 : 2 ≤ least) (h2 : least ≤ most) (h3 : most ≤ 5) :
    ∃ ws a' b' z', evFn G (n + 3) 35 [(.cell 0, false), (.int least, false), (.int most, false)] none (pu a b z) = .ok (.tup (sD ws)) false (pu a' b' z') ∧ puOk a' b' ∧ Th ws ∧ ws.length ≤ most := by
  obtain ⟨r, a1, b1, z1, e1, ok1, r0, r1⟩ := roll (G := G) (n + 1) (z := z) (s := most - least + 1) hf h (by omega) (by omega)
  obtain ⟨ys, a2, b2, z2, e2, ok2, p⟩ := mixed (G := G) n (z := z1) (t := false) (fr := true) (xs := sD nm8) hf hg ok1 (by decide) (by decide)
  obtain ⟨vs, rfl, pv⟩ := perm_sD p
  have lv : vs.length = 8 := pv.length_eq
  obtain ⟨m, hm⟩ := Int.eq_ofNat_of_zero_le (show 0 ≤ least + r by omega)
  have hm8 : m ≤ 8 := by omega
  refine ⟨vs.take m, a2, b2, z2, ?_, ok2, ⟨by rw [List.length_take]; omega, by rw [List.length_take]; omega, (pv.symm.nodup (by decide)).sublist (List.take_sublist _ _), fun w hw => pv.mem_iff.mp (List.mem_of_mem_take hw)⟩, by rw [List.length_take]; omega⟩
  have c : cutD (sD vs) none (some (m : Int)) = (sD vs).take m := cut_hi (by unfold sD; rw [List.length_map]; omega)
  have st : (sD vs).take m = sD (vs.take m) := by unfold sD; rw [List.map_take]
  have e2' : evFn G (n + 2) 34 [(.cell 0, false), (.lst (sD nm8), true)] none (pu a1 b1 z1) = .ok (.lst (sD vs)) true (pu a2 b2 z2) := e2
  have ne : (sD nm8) = [.str [97], .str [98], .str [99], .str [100], .str [122], .str [102, 105, 103], .str [107, 105, 119, 105], .str [97, 98, 99, 100, 101, 102, 103, 104]] := rfl
  rw [ne] at e2'
  have s1 : evS G (evFn G (n + 2)) none (.set 3 false (.bin .add (.v 1) (.call 32 [(.v 0), (.bin .add (.bin .sub (.v 2) (.v 1)) (.c (.int 1)))] [.inl 0, .inl 1]))) ⟨[.va (.cell 0), .va (.int least), .va (.int most), .un], pu a b z⟩ = .ok .nx ⟨[.va (.cell 0), .va (.int least), .va (.int most), .va (.int m)], pu a1 b1 z1⟩ := by
    simp [evS, evE, evL, rd, pk, lk, quiet, quietL, Rs.bind, drf, opt, binD, perm, isId, dflOf, isDfl, Re.rs, e1, put, hm]
  have s2 : evS G (evFn G (n + 2)) none (.ret (.bi .tuple [(.slc (.call 34 [(.v 0), (.lst [(.c (.str [97])), (.c (.str [98])), (.c (.str [99])), (.c (.str [100])), (.c (.str [122])), (.c (.str [102, 105, 103])), (.c (.str [107, 105, 119, 105])), (.c (.str [97, 98, 99, 100, 101, 102, 103, 104]))])] [.inl 0, .inl 1]) (.c .non) (.v 3))])) ⟨[.va (.cell 0), .va (.int least), .va (.int most), .va (.int m)], pu a1 b1 z1⟩ = .ok (.rt (.tup (sD (vs.take m))) false) ⟨[.va (.cell 0), .va (.int least), .va (.int most), .va (.int m)], pu a2 b2 z2⟩ := by
    simp [evS, evE, evL, rd, pk, lk, quiet, quietL, Rs.bind, drf, opt, perm, isId, dflOf, isDfl, Re.rs, mkL, show (8 : Nat) ≤ big by decide, e2', prt, slcD, c, biV, clsOf, biD, st]
  rw [fn1 (n := n + 2) hh rfl]
  show (match evSs G (evFn G (n + 2)) none f35.body ⟨[.va (.cell 0), .va (.int least), .va (.int most), .un], pu a b z⟩ with
    | .ok (.rt d fr) s => fin 1 d fr s.g
    | .ok .nx s => fin 1 .non false s.g
    | .ok _ _ => .no
    | .ex C fs s => finX 1 C fs s.g
    | .no => .no) = _
  unfold f35
  rw [ss_nx s1, ss_rt s2]
  rfl
end PX
end

section
set_option autoImplicit false
set_option linter.all false
set_option maxRecDepth 100000
set_option maxHeartbeats 4000000
/-! P5: names, menus. -/
namespace PX
open PC PF
variable {G : Gl} {cf : CF} {th : Option (Gs → Re)}
theorem fin_same {n : Nat} {d : D} {fr : Bool} {g : Gs} (h : g.length = n) : fin n d fr g = .ok d fr g := by unfold fin; rw [if_pos h]
/-- a def whose body gives back a value and changes nothing -/
theorem fn_ret {n f : Nat} {fd : Fd} {xs : List (D × Bool)} {g : Gs} {ds : List D} {d : D} {fr : Bool} {s : Sg} (hf : G.fn f = some fd) (hl : xs.length = fd.ps) (ha : args fd.refs xs g = (ds, g)) (h : evSs G (evFn G n) none fd.body ⟨ds.map .va ++ List.replicate (fd.ns - xs.length) .un, g⟩ = .ok (.rt d fr) ⟨s, g⟩) : evFn G (n + 1) f xs none g = .ok d fr g := by
  rw [fn1 hf hl, ha]
  dsimp only
  rw [h]
  exact fin_same rfl
theorem eqv_str (a b : List Nat) : eqv (.str a) (.str b) = (a == b) := by simp [eqv]
theorem ok8 {w : List Nat} (h : w ∈ nm8) : okS w = true := by
  simp only [nm8, List.mem_cons, List.not_mem_nil, or_false] at h
  rcases h with rfl | rfl | rfl | rfl | rfl | rfl | rfl | rfl <;> decide
def okL (ws : List (List Nat)) : Prop := ∀ w ∈ ws, okS w = true
theorem shp_sD {k : Nat} {ws : List (List Nat)} (h : okL ws) : shpL k (sD ws) = true := shpL_all.mpr fun x hx => by
  obtain ⟨w, hw, rfl⟩ := List.mem_map.mp hx
  cases k <;> simpa [shp] using h w hw
theorem any_sD (x : List Nat) : ∀ ws : List (List Nat), ((sD ws).any fun y => eqv y (.str x)) = ws.contains x
  | [] => rfl
  | w :: ws => by
    show (eqv (.str w) (.str x) || (sD ws).any fun y => eqv y (.str x)) = _
    rw [any_sD x ws, eqv_str, List.contains_cons]
    congr 1
    rw [Bool.eq_iff_iff, beq_iff_eq, beq_iff_eq]
    exact ⟨Eq.symm, Eq.symm⟩
theorem inD_sD {x : List Nat} {ws : List (List Nat)} (hx : okS x = true) (h : okL ws) (t : Bool) : inD (.str x) (dS t (sD ws)) = some (ws.contains x) := by
  have h1 : shp 60 (.str x) = true := by simpa [shp] using hx
  cases t <;> simp [inD, dS, h1, shp_sD h, any_sD]
theorem sD_len (ws : List (List Nat)) : (sD ws).length = ws.length := List.length_map ..
/-! ### step by step -/
theorem s_ret {e : E} {s s1 : St} {d : D} {fr : Bool} (h : evE G cf th e s = .ok (d, fr) s1) (hv : ∀ i, e ≠ .v i) : evS G cf th (.ret e) s = .ok (.rt d fr) s1 := by
  cases e <;> first | exact absurd rfl (hv _) | (simp only [evS, h, Rs.bind])
theorem e_bi {b : Bi} {x : E} {s s1 : St} {r : D × Bool} (h : lk true x s (evE G cf th x s) = .ok r s1) : evE G cf th (.bi b [x]) s = biV G cf b r s1 := by
  simp only [evE]
  rw [h]
  rfl
theorem lk_nv {q : Bool} {x : E} {s : St} {r : Rs (D × Bool)} (hv : ∀ i, x ≠ .v i) : lk q x s r = r := by
  cases x <;> cases q <;> first | rfl | exact absurd rfl (hv _)
/-- a list comprehension over a value that is at hand -/
theorem lc_run {e it : E} {t : T} {cs : List E} {s : St} {r : D × Bool} {xs : List D} (f : D → List D) (hi : lk (quiet e && quietL cs && !isDs it s) it s (evE G cf th it s) = .ok r s) (hc : clr (ownT t) s.s = true) (hw : walkI it r.1 = some xs)
    (hs : ∀ x ∈ xs, ((opt (bindT t x ⟨wip (ownT t) s.s, s.g⟩) s).bind fun z _ => (evA G cf th cs z).bind fun k s4 => if k then (evE G cf th e s4).bind fun y s5 => .ok [y.1] ⟨back (ownT t) s.s s5.s, s5.g⟩ else .ok [] ⟨back (ownT t) s.s s4.s, s4.g⟩) = .ok (f x) s) :
    evE G cf th (.lc e t it cs) s = opt (mkL (xs.flatMap f)) s := by
  simp only [evE]
  rw [hi]
  show ((opt (if clr (ownT t) s.s = true then walkI it r.1 else none) s).bind fun xs s1' => (lcL _ xs s1').bind _) = _
  rw [if_pos hc, hw]
  show (lcL _ xs s).bind _ = _
  rw [lcL_map f s xs hs]
  rfl
theorem in_order (n : Nat) {ws vs : List (List Nat)} {f1 f2 : Bool} {g : Gs} (hf : G.fn 10 = some f10) (hw : okL ws) (hv : okL vs) (hb : ws.length ≤ 1000) : evFn G (n + 1) 10 [(.tup (sD ws), f1), (.tup (sD vs), f2)] none g = .ok (.tup (sD (ws.filter fun w => vs.contains w))) false g := by
  refine fn_ret (ds := [.tup (sD ws), .tup (sD vs)]) (s := [.va (.tup (sD ws)), .va (.tup (sD vs)), .un]) hf rfl rfl ?_
  let f : D → List D := fun x => match x with
      | .str w => if vs.contains w then [x] else []
      | _ => []
  have fm : ∀ l : List (List Nat), (sD l).flatMap f = sD (l.filter fun w => vs.contains w) := fun l => by
    induction l with
    | nil => rfl
    | cons w l ih =>
      show (if vs.contains w then [D.str w] else []) ++ (sD l).flatMap _ = _
      rw [ih, List.filter_cons]
      split <;> rfl
  have m : mkL (sD (ws.filter fun w => vs.contains w)) = some (.lst (sD (ws.filter fun w => vs.contains w)), true) := by
    unfold mkL
    rw [if_pos]
    rw [sD_len]
    have := List.length_filter_le (fun w => vs.contains w) ws
    unfold big
    omega
  have e : evE G (evFn G n) none (.lc (.v 2) (.n 2) (.v 0) [(.cmp .in_ (.v 2) (.v 1))]) ⟨[.va (.tup (sD ws)), .va (.tup (sD vs)), .un], g⟩ = .ok (.lst (sD (ws.filter fun w => vs.contains w)), true) ⟨[.va (.tup (sD ws)), .va (.tup (sD vs)), .un], g⟩ := by
    rw [lc_run (r := (.tup (sD ws), false)) (xs := sD ws) f (by simp [lk, quiet, quietL, isDs, pk]) rfl rfl fun x hx => ?_, fm, m]
    · rfl
    · obtain ⟨w, hw', rfl⟩ := List.mem_map.mp hx
      have i := inD_sD (hw w hw') hv true
      simp only [dS] at i
      by_cases c : vs.contains w = true <;> simp [bindT, ownT, wip, opt, Rs.bind, evA, evE, rd, pk, lk, quiet, looked, inC, drf, cmpV, cmpD, clsOf, i, c, toB, back, f] at c ⊢ <;> simp [c]
  refine ss_rt (s_ret (e_bi ((lk_nv (by simp)).trans e) |>.trans ?_) (by simp))
  simp [biV, clsOf, biD, opt, drf]
end PX
end

section
set_option autoImplicit false
set_option linter.all false
set_option maxRecDepth 100000
set_option maxHeartbeats 4000000
/-! P6: is_menu. -/
namespace PX
open PC PF
variable {G : Gl} {cf : CF} {th : Option (Gs → Re)}
theorem all_true (b : Bi) (hb : b = .all) : ∀ xs : List D, biD b [.lst (xs.flatMap fun _ => [.bl true])] = some (.bl true, false) := fun xs => by
  subst hb
  have h : ∀ xs : List D, ∃ l, bools (xs.flatMap fun _ => [.bl true]) = some l ∧ l.all id = true := fun xs => by
    induction xs with
    | nil => exact ⟨[], rfl, rfl⟩
    | cons x xs ih =>
      obtain ⟨l, e, a⟩ := ih
      exact ⟨true :: l, by show ((bools (xs.flatMap fun _ => [.bl true])).map (true :: ·)) = _; rw [e]; rfl, by simpa using a⟩
  obtain ⟨l, e, a⟩ := h xs
  simp [biD, e, a]
theorem flat_len : ∀ xs : List D, (xs.flatMap fun _ => [D.bl true]).length = xs.length
  | [] => rfl
  | _ :: xs => by simp [flat_len xs]
theorem mk_flat {xs : List D} (h : xs.length ≤ big) : mkL (xs.flatMap fun _ => [D.bl true]) = some (.lst (xs.flatMap fun _ => [.bl true]), true) := by
  unfold mkL
  rw [if_pos (by rw [flat_len]; exact h)]
theorem e_and {a b : E} {s s1 : St} {f : Bool} (h : evE G cf th a s = .ok (.bl true, f) s1) : evE G cf th (.and a b) s = evE G cf th b s1 := by simp only [evE, h, Rs.bind, toB, if_true]
theorem e_andF {a b : E} {s s1 : St} {f : Bool} (h : evE G cf th a s = .ok (.bl false, f) s1) : evE G cf th (.and a b) s = .ok (.bl false, false) s1 := by simp [evE, h, Rs.bind, toB]
theorem e_or {a b : E} {s s1 : St} {f : Bool} (h : evE G cf th a s = .ok (.bl false, f) s1) : evE G cf th (.or a b) s = evE G cf th b s1 := by simp [evE, h, Rs.bind, toB]
theorem e_orT {a b : E} {s s1 : St} {f : Bool} (h : evE G cf th a s = .ok (.bl true, f) s1) : evE G cf th (.or a b) s = .ok (.bl true, false) s1 := by simp only [evE, h, Rs.bind, toB, if_true]
theorem e_not {a : E} {s s1 : St} {k f : Bool} (h : evE G cf th a s = .ok (.bl k, f) s1) : evE G cf th (.not a) s = .ok (.bl (!k), false) s1 := by simp only [evE, notB, h, Rs.bind, toB]
theorem s_ifT {c : E} {a b : List S} {s s1 : St} {f : Bool} (h : evE G cf th c s = .ok (.bl true, f) s1) : evS G cf th (.ife c a b) s = evSs G cf th a s1 := by rw [s_if, h]; rfl
theorem s_ifF {c : E} {a b : List S} {s s1 : St} {f : Bool} (h : evE G cf th c s = .ok (.bl false, f) s1) : evS G cf th (.ife c a b) s = evSs G cf th b s1 := by rw [s_if, h]; rfl
theorem is_menu (n : Nat) {ws vs : List (List Nat)} {f1 f2 : Bool} {g : Gs} (hf : G.fn 10 = some f10) (hg : G.fn 11 = some f11) (hw : okL ws) (hv : okL vs) (hb : ws.length ≤ 1000) (hb2 : vs.length ≤ 1000) (h2 : 2 ≤ vs.length) (hm : ∀ v ∈ vs, v ∈ ws) (hl : (ws.filter fun w => vs.contains w).length = vs.length) :
    evFn G (n + 2) 11 [(.tup (sD ws), f1), (.tup (sD vs), f2)] none g = .ok (.bl true) false g := by
  refine fn_ret (n := n + 1) (ds := [.tup (sD ws), .tup (sD vs)]) (s := [.va (.tup (sD ws)), .va (.tup (sD vs)), .un]) hg rfl rfl ?_
  have io := in_order (G := G) n (f1 := false) (f2 := false) (g := g) hf hw hv hb
  have big1 : (sD vs).length ≤ big := by rw [sD_len]; unfold big; omega
  have c1 : evE G (evFn G (n + 1)) none (.lc (.isi (.v 2) [.str]) (.n 2) (.v 1) []) ⟨[.va (.tup (sD ws)), .va (.tup (sD vs)), .un], g⟩ = .ok (.lst ((sD vs).flatMap fun _ => [.bl true]), true) ⟨[.va (.tup (sD ws)), .va (.tup (sD vs)), .un], g⟩ := by
    rw [lc_run (r := (.tup (sD vs), false)) (xs := sD vs) (fun _ => [.bl true]) (by simp [lk, quiet, quietL, isDs, pk]) rfl rfl fun x hx => ?_, mk_flat big1]
    · rfl
    · obtain ⟨w, hw', rfl⟩ := List.mem_map.mp hx
      simp [bindT, ownT, wip, opt, Rs.bind, evA, evE, rd, drf, tyIs, back]
  have c2 : evE G (evFn G (n + 1)) none (.lc (.cmp .in_ (.v 2) (.v 0)) (.n 2) (.v 1) []) ⟨[.va (.tup (sD ws)), .va (.tup (sD vs)), .un], g⟩ = .ok (.lst ((sD vs).flatMap fun _ => [.bl true]), true) ⟨[.va (.tup (sD ws)), .va (.tup (sD vs)), .un], g⟩ := by
    rw [lc_run (r := (.tup (sD vs), false)) (xs := sD vs) (fun _ => [.bl true]) (by simp [lk, quiet, quietL, isDs, pk]) rfl rfl fun x hx => ?_, mk_flat big1]
    · rfl
    · obtain ⟨w, hw', rfl⟩ := List.mem_map.mp hx
      have i := inD_sD (hv w hw') hw true
      simp only [dS] at i
      have c : ws.contains w = true := List.contains_iff_mem.mpr (hm w hw')
      simp [bindT, ownT, wip, opt, Rs.bind, evA, evE, rd, pk, lk, quiet, looked, inC, drf, cmpV, cmpD, clsOf, i, back, hm w hw']
  have a1 : evE G (evFn G (n + 1)) none (.bi .all [(.lc (.isi (.v 2) [.str]) (.n 2) (.v 1) [])]) ⟨[.va (.tup (sD ws)), .va (.tup (sD vs)), .un], g⟩ = .ok (.bl true, false) ⟨[.va (.tup (sD ws)), .va (.tup (sD vs)), .un], g⟩ :=
    (e_bi ((lk_nv (by simp)).trans c1)).trans (by simp only [biV, clsOf, drf, all_true .all rfl, opt])
  have a2 : evE G (evFn G (n + 1)) none (.bi .all [(.lc (.cmp .in_ (.v 2) (.v 0)) (.n 2) (.v 1) [])]) ⟨[.va (.tup (sD ws)), .va (.tup (sD vs)), .un], g⟩ = .ok (.bl true, false) ⟨[.va (.tup (sD ws)), .va (.tup (sD vs)), .un], g⟩ :=
    (e_bi ((lk_nv (by simp)).trans c2)).trans (by simp only [biV, clsOf, drf, all_true .all rfl, opt])
  have b1 : evE G (evFn G (n + 1)) none (.isi (.v 1) [.tup]) ⟨[.va (.tup (sD ws)), .va (.tup (sD vs)), .un], g⟩ = .ok (.bl true, false) ⟨[.va (.tup (sD ws)), .va (.tup (sD vs)), .un], g⟩ := by simp [evE, rd, Rs.bind, tyIs, drf]
  have b2 : evE G (evFn G (n + 1)) none (.cmp .lt (.bi .len [(.v 1)]) (.c (.int 2))) ⟨[.va (.tup (sD ws)), .va (.tup (sD vs)), .un], g⟩ = .ok (.bl false, false) ⟨[.va (.tup (sD ws)), .va (.tup (sD vs)), .un], g⟩ := by
    have z : ¬ ((vs.length : Int) < 2) := by omega
    simp [evE, rd, pk, lk, quiet, quietL, looked, Rs.bind, biV, clsOf, drf, biD, opt, cmpV, inC, cmpD, sD_len, z]
  have b3 : evE G (evFn G (n + 1)) none (.cmp .eq (.bi .len [(.call 10 [(.v 0), (.v 1)] [.inl 0, .inl 1])]) (.bi .len [(.v 1)])) ⟨[.va (.tup (sD ws)), .va (.tup (sD vs)), .un], g⟩ = .ok (.bl true, false) ⟨[.va (.tup (sD ws)), .va (.tup (sD vs)), .un], g⟩ := by
    simp [evE, evL, rd, pk, lk, quiet, quietL, looked, Rs.bind, biV, clsOf, drf, biD, opt, cmpV, inC, cmpD, sD_len, perm, isId, dflOf, isDfl, Re.rs, io, hl, shp, eqv]
    have hl' : (ws.filter fun w => decide (w ∈ vs)).length = vs.length := by simpa using hl
    rw [hl']
  unfold f11
  refine (ss_nx ((s_ifF ((e_or (e_not b1)).trans ((e_or b2).trans (e_not a1)))).trans ss_nil)).trans (ss_rt (s_ret ((e_and a2).trans b3) (by simp)))
end PX
end

section
set_option autoImplicit false
set_option linter.all false
set_option maxRecDepth 100000
set_option maxHeartbeats 4000000
/-! P7: names, things. -/
namespace PX
open PC PF
variable {G : Gl} {cf : CF} {th : Option (Gs → Re)}
def lets : List Nat := [97, 98, 99, 100, 101, 102, 103, 104, 105, 106, 107, 108, 109, 110, 111, 112, 113, 114, 115, 116, 117, 118, 119, 120, 121, 122]
/-- a name -/
structure Nm (w : List Nat) : Prop where
  lo : 0 < w.length
  hi : w.length < 9
  mem : ∀ c ∈ w, c ∈ lets
theorem nm8_nm {w : List Nat} (h : w ∈ nm8) : Nm w := by
  simp only [nm8, List.mem_cons, List.not_mem_nil, or_false] at h
  rcases h with rfl | rfl | rfl | rfl | rfl | rfl | rfl | rfl <;> exact ⟨by decide, by decide, by decide⟩
theorem Nm.ok {w : List Nat} (h : Nm w) : okS w = true := by
  unfold okS
  rw [List.all_eq_true]
  intro c hc
  have : c ∈ lets := h.mem c hc
  have z : ∀ c ∈ lets, c < 1114112 := by decide
  exact decide_eq_true (z c this)
theorem is_name (n : Nat) {w : List Nat} {fr : Bool} {g : Gs} (hf : G.fn 8 = some f8) (hw : Nm w) : evFn G (n + 1) 8 [(.str w, fr)] none g = .ok (.bl true) false g := by
  refine fn_ret (ds := [.str w]) (s := [.va (.str w), .un]) hf rfl rfl ?_
  have hi := hw.hi
  have lo := hw.lo
  have c1 : evE G (evFn G n) none (.lc (.cmp .in_ (.v 1) (.c (.str lets))) (.n 1) (.v 0) []) ⟨[.va (.str w), .un], g⟩ = .ok (.lst ((w.map fun c => D.str [c]).flatMap fun _ => [.bl true]), true) ⟨[.va (.str w), .un], g⟩ := by
    rw [lc_run (r := (.str w, false)) (xs := w.map fun c => D.str [c]) (fun _ => [.bl true]) (by simp [lk, quiet, quietL, isDs, pk]) rfl rfl fun x hx => ?_, mk_flat (by rw [List.length_map]; unfold big; omega)]
    · rfl
    · obtain ⟨c, hc, rfl⟩ := List.mem_map.mp hx
      have c2 : lets.contains c = true := List.contains_iff_mem.mpr (hw.mem c hc)
      simp [bindT, ownT, wip, opt, Rs.bind, evA, evE, rd, pk, lk, quiet, looked, inC, drf, cmpV, cmpD, clsOf, inD, back, hw.mem c hc]
  have a1 : evE G (evFn G n) none (.bi .all [(.lc (.cmp .in_ (.v 1) (.c (.str lets))) (.n 1) (.v 0) [])]) ⟨[.va (.str w), .un], g⟩ = .ok (.bl true, false) ⟨[.va (.str w), .un], g⟩ :=
    (e_bi ((lk_nv (by simp)).trans c1)).trans (by simp only [biV, clsOf, drf, all_true .all rfl, opt])
  have b1 : evE G (evFn G n) none (.isi (.v 0) [.str]) ⟨[.va (.str w), .un], g⟩ = .ok (.bl true, false) ⟨[.va (.str w), .un], g⟩ := by simp [evE, rd, Rs.bind, tyIs, drf]
  have b2 : evE G (evFn G n) none (.chn .lt .lt (.c (.int 0)) (.bi .len [(.v 0)]) (.c (.int 9))) ⟨[.va (.str w), .un], g⟩ = .ok (.bl true, false) ⟨[.va (.str w), .un], g⟩ := by
    have z : (0 : Int) < w.length := by omega
    have z2 : (w.length : Int) < 9 := by omega
    have z3 : w.length ≤ big := by unfold big; omega
    simp [evE, rd, pk, lk, Rs.bind, biV, clsOf, drf, biD, opt, cmpD, z2, z3]
    exact List.length_pos_iff.mp lo
  exact ss_rt (s_ret ((e_and b1).trans ((e_and b2).trans a1)) (by simp))
end PX
end

section
set_option autoImplicit false
set_option linter.all false
set_option maxRecDepth 100000
set_option maxHeartbeats 4000000
/-! P8: check_things. -/
namespace PX
open PC PF
variable {G : Gl} {cf : CF} {th : Option (Gs → Re)}
/-- things that are right -/
structure Ws (ws : List (List Nat)) : Prop where
  lo : 2 ≤ ws.length
  hi : ws.length ≤ 5
  nd : ws.Nodup
  nm : ∀ w ∈ ws, Nm w
theorem Th.ws {ws : List (List Nat)} (h : Th ws) : Ws ws := ⟨h.lo, h.hi, h.nd, fun w hw => nm8_nm (h.mem w hw)⟩
theorem Ws.ok {ws : List (List Nat)} (h : Ws ws) : okL ws := fun w hw => (h.nm w hw).ok
theorem rng1 {m : Nat} (h : m < 1000000) : rngD [.int m] = some ((List.range m).map fun (k : Nat) => .int k) := by
  show (if -1000000 < (m : Int) ∧ (m : Int) < 1000000 then some ((List.range (m : Int).toNat).map fun (k : Nat) => D.int k) else none) = _
  rw [if_pos ⟨by omega, by omega⟩]
  rfl
theorem sD_get {ws : List (List Nat)} {k : Nat} (h : k < (sD ws).length) : (sD ws)[k] = .str (ws[k]'(by rw [sD_len] at h; exact h)) := by simp [sD]
theorem mk_rng {m : Nat} (h : m ≤ 1000) : mkL ((List.range m).map fun (k : Nat) => D.int k) = some (.lst ((List.range m).map fun (k : Nat) => .int k), true) := by
  have hl : ((List.range m).map fun (k : Nat) => D.int k).length ≤ big := by rw [List.length_map, List.length_range]; unfold big; omega
  generalize (List.range m).map (fun (k : Nat) => D.int k) = l at hl ⊢
  unfold mkL
  rw [if_pos hl]
theorem e_rngo {e : E} {s s1 : St} {xs : List (D × Bool)} {l : List D} {r : D × Bool} (h : evL G cf th [e] s = .ok xs s1) (hr : rngD (xs.map (·.1)) = some l) (hm : mkL l = some r) : evE G cf th (.rng [e]) s = .ok r s1 := by
  simp only [evE]
  rw [h]
  simp only [Rs.bind]
  rw [hr]
  simp only [Option.bind_some]
  rw [hm]
  rfl
theorem e_rng {e : E} {s s1 : St} {m : Nat} (h : evL G cf th [e] s = .ok [(.int m, false)] s1) (hm : m ≤ 1000) : evE G cf th (.rng [e]) s = .ok (.lst ((List.range m).map fun (k : Nat) => .int k), true) s1 := by
  have z : [((.int m, false) : D × Bool)].map (·.1) = [.int m] := rfl
  exact e_rngo h (by rw [z]; exact rng1 (by omega)) (mk_rng hm)
theorem check_things (n : Nat) {ws : List (List Nat)} {fr : Bool} {g : Gs} (hf : G.fn 8 = some f8) (hg : G.fn 9 = some f9) (hw : Ws ws) : evFn G (n + 2) 9 [(.tup (sD ws), fr)] none g = .ok .non false g := by
  have lo := hw.lo
  have hi := hw.hi
  have go := forL_run (body := fun x s3 => (opt (bindT (.n 1) x s3) s3).bind fun z _ => evSs G (evFn G (n + 1)) none [.ife (.or (.cmp .eq (.v 1) (.c (.int 5))) (.or (.not (.call 8 [(.idx (.v 0) (.v 1))] [.inl 0])) (.cmp .in_ (.idx (.v 0) (.v 1)) (.slc (.v 0) (.c .non) (.v 1))))) [.rse 12 [(.v 1)]] []] z)
    (fun _ s => ∃ sl, s = ⟨[.va (.tup (sD ws)), sl], g⟩) ((List.range ws.length).map fun (k : Nat) => D.int k) [] ⟨[.va (.tup (sD ws)), .un], g⟩ ?_ ⟨_, rfl⟩
  · obtain ⟨s', e, sl, rfl⟩ := go
    rw [fn1 (n := n + 1) hg rfl]
    show (match evSs G (evFn G (n + 1)) none f9.body ⟨[.va (.tup (sD ws)), .un], g⟩ with
      | .ok (.rt d fr) s => fin g.length d fr s.g
      | .ok .nx s => fin g.length .non false s.g
      | .ok _ _ => .no
      | .ex C fs s => finX g.length C fs s.g
      | .no => .no) = _
    have b1 : evE G (evFn G (n + 1)) none (.isi (.v 0) [.tup]) ⟨[.va (.tup (sD ws)), .un], g⟩ = .ok (.bl true, false) ⟨[.va (.tup (sD ws)), .un], g⟩ := by simp [evE, rd, Rs.bind, tyIs, drf]
    have b2 : evE G (evFn G (n + 1)) none (.cmp .lt (.bi .len [(.v 0)]) (.c (.int 2))) ⟨[.va (.tup (sD ws)), .un], g⟩ = .ok (.bl false, false) ⟨[.va (.tup (sD ws)), .un], g⟩ := by
      have z : ¬ ((ws.length : Int) < 2) := by omega
      simp [evE, rd, pk, lk, quiet, quietL, looked, Rs.bind, biV, clsOf, drf, biD, opt, cmpV, inC, cmpD, sD_len, z]
    have b3 : evE G (evFn G (n + 1)) none (.rng [(.bi .len [(.v 0)])]) ⟨[.va (.tup (sD ws)), .un], g⟩ = .ok (.lst ((List.range ws.length).map fun (k : Nat) => .int k), true) ⟨[.va (.tup (sD ws)), .un], g⟩ := by
      have l1 : evL G (evFn G (n + 1)) none [(.bi .len [(.v 0)])] ⟨[.va (.tup (sD ws)), .un], g⟩ = .ok [(.int ws.length, false)] ⟨[.va (.tup (sD ws)), .un], g⟩ := by
        simp [evE, evL, rd, pk, lk, Rs.bind, biV, clsOf, drf, biD, opt, sD_len]
      exact e_rng l1 (by omega)
    have s2 : evS G (evFn G (n + 1)) none (.for_ (.n 1) (.rng [(.bi .len [(.v 0)])]) [.ife (.or (.cmp .eq (.v 1) (.c (.int 5))) (.or (.not (.call 8 [(.idx (.v 0) (.v 1))] [.inl 0])) (.cmp .in_ (.idx (.v 0) (.v 1)) (.slc (.v 0) (.c .non) (.v 1))))) [.rse 12 [(.v 1)]] []]) ⟨[.va (.tup (sD ws)), .un], g⟩ = .ok .nx ⟨[.va (.tup (sD ws)), sl], g⟩ := by
      rw [s_for, b3]
      simp only [Rs.bind, walkI, walkS, opt]
      simp only [opt] at e
      exact e
    unfold f9
    rw [ss_nx ((s_ifF ((e_or (e_not b1)).trans b2)).trans ss_nil), ss_nx s2, ss_nil]
    exact fin_same rfl
  · rintro x d s hx ⟨sl, rfl⟩
    obtain ⟨k, hk, rfl⟩ := List.mem_map.mp hx
    have hk : k < ws.length := List.mem_range.mp hk
    refine ⟨⟨[.va (.tup (sD ws)), .va (.int k)], g⟩, ?_, _, rfl⟩
    have e8 := is_name (G := G) n (w := ws[k]) (fr := false) (g := g) hf (hw.nm _ (List.getElem_mem _))
    have gi : (sD ws)[k]? = some (.str ws[k]) := by unfold sD; rw [List.getElem?_map, List.getElem?_eq_getElem hk]; rfl
    have hlt : (k : Int) < ws.length := by omega
    have b1 : evE G (evFn G (n + 1)) none (.cmp .eq (.v 1) (.c (.int 5))) ⟨[.va (.tup (sD ws)), .va (.int k)], g⟩ = .ok (.bl false, false) ⟨[.va (.tup (sD ws)), .va (.int k)], g⟩ := by
      have z : ((k : Int) == 5) = false := by simp; omega
      simp [evE, rd, pk, lk, quiet, quietL, looked, Rs.bind, drf, opt, cmpV, inC, clsOf, cmpD, shp, eqv, z]
    have b2 : evE G (evFn G (n + 1)) none (.call 8 [(.idx (.v 0) (.v 1))] [.inl 0]) ⟨[.va (.tup (sD ws)), .va (.int k)], g⟩ = .ok (.bl true, false) ⟨[.va (.tup (sD ws)), .va (.int k)], g⟩ := by
      simp [evE, evL, rd, pk, lk, quiet, quietL, looked, Rs.bind, drf, opt, idxV, clsOf, idxD, ixOf, sD_len, sD_get, hk, perm, isId, dflOf, isDfl, Re.rs, e8]
    have c := cut_hi (xs := sD ws) (k := k) (by rw [sD_len]; omega)
    have tk : (sD ws).take k = sD (ws.take k) := by unfold sD; rw [List.map_take]
    rw [tk] at c
    have i := inD_sD (x := ws[k]) (ws := ws.take k) ((hw.nm _ (List.getElem_mem _)).ok) (fun w hw' => (hw.nm w (List.mem_of_mem_take hw')).ok) true
    have nin : (ws.take k).contains ws[k] = false := by
      rw [Bool.eq_false_iff]
      intro z
      obtain ⟨j, hj, e⟩ := List.mem_iff_getElem.mp (List.contains_iff_mem.mp z)
      rw [List.getElem_take] at e
      rw [List.length_take] at hj
      have hp := List.pairwise_iff_getElem.mp hw.nd j k (by omega) hk (by omega)
      exact hp e
    rw [nin] at i
    simp only [dS] at i
    have b3 : evE G (evFn G (n + 1)) none (.cmp .in_ (.idx (.v 0) (.v 1)) (.slc (.v 0) (.c .non) (.v 1))) ⟨[.va (.tup (sD ws)), .va (.int k)], g⟩ = .ok (.bl false, false) ⟨[.va (.tup (sD ws)), .va (.int k)], g⟩ := by
      simp [evE, evL, rd, pk, lk, quiet, quietL, looked, Rs.bind, drf, opt, idxV, clsOf, idxD, ixOf, sD_len, sD_get, hk, prt, slcD, c, cmpV, inC, cmpD, i]
    have bt : bindT (.n 1) (.int k) ⟨[.va (.tup (sD ws)), sl], g⟩ = some ⟨[.va (.tup (sD ws)), .va (.int k)], g⟩ := by simp [bindT]
    simp only [bt, opt, Rs.bind]
    exact (ss_nx ((s_ifF ((e_or b1).trans ((e_or (e_not b2)).trans b3))).trans ss_nil)).trans ss_nil
end PX
end

section
set_option autoImplicit false
set_option linter.all false
set_option maxRecDepth 100000
set_option maxHeartbeats 4000000
/-! P9: texts cut; lines. -/
namespace PX
open PC PF
variable {G : Gl} {cf : CF} {th : Option (Gs → Re)}
/-! ### cutting -/
theorem preS_eq {x : List Nat} (h : 61 ∉ x) {y : List Nat} (hy : ∀ a b, y = a :: b → a ≠ 61) : ∀ {c : Nat} {r : List Nat}, x = c :: r → preS [32, 61, 32] (c :: (r ++ y)) = false := fun {c r} e => by
  subst e
  unfold preS
  cases r with
  | nil =>
    cases y with
    | nil => simp
    | cons a b =>
      have := hy a b rfl
      simp [this]
  | cons d r =>
    have : d ≠ 61 := fun z => h (by simp [z])
    simp [this]
theorem spl_a {x y : List Nat} (hy : ∀ a b, y = a :: b → a ≠ 61) : ∀ (x acc : List Nat), 61 ∉ x → splS [32, 61, 32] 0 acc (x ++ y) = splS [32, 61, 32] 0 (acc ++ x) y
  | [], acc, _ => by simp
  | c :: r, acc, h => by
    show splS [32, 61, 32] 0 acc (c :: (r ++ y)) = _
    conv => lhs; unfold splS
    rw [preS_eq h hy rfl]
    simp only [Bool.false_eq_true, if_false]
    rw [spl_a (x := x) hy r (acc ++ [c]) fun z => h (List.mem_cons_of_mem _ z)]
    simp
theorem spl_eq {x y : List Nat} (hx : 61 ∉ x) (hy : 61 ∉ y) : splitL [32, 61, 32] (x ++ ([32, 61, 32] ++ y)) = [x, y] := by
  unfold splitL
  rw [spl_a (x := x) (y := [32, 61, 32] ++ y) (fun a b e => by simp at e; omega) x [] hx]
  show splS [32, 61, 32] 0 ([] ++ x) (32 :: 61 :: 32 :: y) = _
  have e : preS [32, 61, 32] (32 :: 61 :: 32 :: y) = true := by simp [preS]
  conv => lhs; unfold splS
  rw [if_pos e]
  show (([] ++ x) :: splS [32, 61, 32] 2 [] (61 :: 32 :: y)) = _
  simp only [splS]
  have z := spl_a (x := x) (y := []) (fun a b e => by simp at e) y [] hy
  rw [List.append_nil] at z
  rw [z]
  simp [splS]
theorem pre1 (c : Nat) (r : List Nat) : preS [32] (c :: r) = (c == 32) := by simp [preS]
theorem spl1_a {y : List Nat} : ∀ (x acc : List Nat), 32 ∉ x → splS [32] 0 acc (x ++ y) = splS [32] 0 (acc ++ x) y
  | [], acc, _ => by simp
  | c :: r, acc, h => by
    show splS [32] 0 acc (c :: (r ++ y)) = _
    have hc : (c == 32) = false := by simp; exact fun z => h (by simp [z])
    conv => lhs; unfold splS
    rw [pre1, hc]
    simp only [Bool.false_eq_true, if_false]
    rw [spl1_a r (acc ++ [c]) fun z => h (List.mem_cons_of_mem _ z)]
    simp
theorem spl1 : ∀ {us : List (List Nat)} (acc : List Nat), (∀ u ∈ us, 32 ∉ u) → ∀ u, 32 ∉ u → splS [32] 0 acc (joinL [32] (u :: us)) = (acc ++ u) :: us
  | [], acc, _, u, hu => by
    have z := spl1_a (y := []) u acc hu
    rw [List.append_nil] at z
    show splS [32] 0 acc u = _
    rw [z]
    simp [splS]
  | v :: us, acc, h, u, hu => by
    show splS [32] 0 acc (u ++ ([32] ++ joinL [32] (v :: us))) = _
    rw [spl1_a u acc hu]
    show splS [32] 0 (acc ++ u) (32 :: joinL [32] (v :: us)) = _
    conv => lhs; unfold splS
    rw [pre1]
    simp only [beq_self_eq_true, if_true]
    show _ :: splS [32] 0 [] (joinL [32] (v :: us)) = _
    rw [spl1 [] (fun w hw => h w (List.mem_cons_of_mem _ hw)) v (h v List.mem_cons_self)]
    simp
theorem split1 {us : List (List Nat)} (h : ∀ u ∈ us, 32 ∉ u) (hn : us ≠ []) : splitL [32] (joinL [32] us) = us := by
  cases us with
  | nil => exact absurd rfl hn
  | cons u us =>
    unfold splitL
    rw [spl1 [] (fun w hw => h w (List.mem_cons_of_mem _ hw)) u (h u List.mem_cons_self)]
    simp
theorem join_mem {c : Nat} : ∀ {us : List (List Nat)}, (∀ u ∈ us, c ∉ u) → c ≠ 32 → c ∉ joinL [32] us
  | [], _, _ => by simp [joinL]
  | [u], h, _ => h u List.mem_cons_self
  | u :: v :: us, h, hc => by
    show c ∉ u ++ ([32] ++ joinL [32] (v :: us))
    simp only [List.mem_append, List.mem_singleton, not_or]
    exact ⟨h u List.mem_cons_self, hc, join_mem (fun w hw => h w (List.mem_cons_of_mem _ hw)) hc⟩
theorem Nm.no {w : List Nat} (h : Nm w) {c : Nat} (hc : c ∉ lets) : c ∉ w := fun z => hc (h.mem c z)
/-- the text of a line -/
def lt (l : List (List Nat) × List Nat) : List Nat := joinL [32] l.1 ++ ([32, 61, 32] ++ l.2)
theorem join_len : ∀ {us : List (List Nat)}, (∀ u ∈ us, u.length < 9) → (joinL [32] us).length ≤ 9 * us.length
  | [], _ => by simp [joinL]
  | [u], h => by
    have := h u List.mem_cons_self
    show u.length ≤ 9 * 1
    omega
  | u :: v :: us, h => by
    have := h u List.mem_cons_self
    have := join_len (us := v :: us) fun w hw => h w (List.mem_cons_of_mem _ hw)
    show (u ++ ([32] ++ joinL [32] (v :: us))).length ≤ _
    simp only [List.length_append, List.length_cons, List.length_nil] at *
    omega
end PX
end

section
set_option autoImplicit false
set_option linter.all false
set_option maxRecDepth 100000
set_option maxHeartbeats 4000000
/-! P10: line_parts. -/
namespace PX
open PC PF
variable {G : Gl} {cf : CF} {th : Option (Gs → Re)}
/-- the program's defs about books -/
structure GB (G : Gl) : Prop where
  f8 : G.fn 8 = some f8
  f9 : G.fn 9 = some f9
  f10 : G.fn 10 = some f10
  f11 : G.fn 11 = some f11
  f12 : G.fn 12 = some f12
  f13 : G.fn 13 = some f13
  f14 : G.fn 14 = some f14
  f15 : G.fn 15 = some f15
  f16 : G.fn 16 = some f16
  ini : G.init 29 = some 16
  val : G.value 29 = true
  exc : G.excF 29 = none
  a0 : G.at_ 29 0 = some .fld
  a1 : G.at_ 29 1 = some .fld
  a2 : G.at_ 29 2 = some .fld
  a3 : G.at_ 29 3 = some .fld
/-- a line for some things -/
structure Ln (ws : List (List Nat)) (l : List (List Nat) × List Nat) : Prop where
  lo : 2 ≤ l.1.length
  nd : l.1.Nodup
  sub : ∀ u ∈ l.1, u ∈ ws
  pk : l.2 ∈ l.1
/-- things in the order of the book -/
def ord (ws vs : List (List Nat)) : List (List Nat) := ws.filter fun w => vs.contains w
theorem in_orderO (n : Nat) {ws vs : List (List Nat)} {f1 f2 : Bool} {g : Gs} (hf : G.fn 10 = some f10) (hw : okL ws) (hv : okL vs) (hb : ws.length ≤ 1000) : evFn G (n + 1) 10 [(.tup (sD ws), f1), (.tup (sD vs), f2)] none g = .ok (.tup (sD (ord ws vs))) false g := in_order n hf hw hv hb
theorem perm_of_sub {α : Type} [DecidableEq α] {a b : List α} (ha : a.Nodup) (hb : b.Nodup) (h : ∀ x, x ∈ a ↔ x ∈ b) : a.Perm b := (List.perm_ext_iff_of_nodup ha hb).mpr h
theorem ord_perm {ws vs : List (List Nat)} (hw : ws.Nodup) (hv : vs.Nodup) (hs : ∀ v ∈ vs, v ∈ ws) : (ord ws vs).Perm vs := by
  refine perm_of_sub (hw.sublist List.filter_sublist) hv fun x => ?_
  unfold ord
  rw [List.mem_filter, List.contains_iff_mem]
  exact ⟨fun h => h.2, fun h => ⟨hs x h, h⟩⟩
theorem sub_len {ws vs : List (List Nat)} (hw : ws.Nodup) (hv : vs.Nodup) (hs : ∀ v ∈ vs, v ∈ ws) : vs.length ≤ ws.length := by
  have h := (ord_perm hw hv hs).length_eq
  have : (ord ws vs).length ≤ ws.length := List.length_filter_le ..
  omega
theorem is_menuT (n : Nat) {ws vs : List (List Nat)} {f1 f2 : Bool} {g : Gs} (B : GB G) (hw : Ws ws) (hv : vs.Nodup) (hs : ∀ v ∈ vs, v ∈ ws) (h2 : 2 ≤ vs.length) : evFn G (n + 2) 11 [(.tup (sD ws), f1), (.tup (sD vs), f2)] none g = .ok (.bl true) false g := by
  have hl := sub_len hw.nd hv hs
  have hi := hw.hi
  exact is_menu n B.f10 B.f11 hw.ok (fun v hv => hw.ok v (hs v hv)) (by omega) (by omega) h2 hs (ord_perm hw.nd hv hs).length_eq
theorem sD_ne (ws : List (List Nat)) (x : List Nat) : ((sD ws).any fun y => eqv y (.str x)) = ws.contains x := any_sD x ws
theorem lt_len {ws : List (List Nat)} {l : List (List Nat) × List Nat} (hw : Ws ws) (h : Ln ws l) : (lt l).length ≤ 60 := by
  have h5 := sub_len hw.nd h.nd h.sub
  have hi := hw.hi
  have a := join_len (us := l.1) fun u hu => (hw.nm u (h.sub u hu)).hi
  have b := (hw.nm _ (h.sub _ h.pk)).hi
  unfold lt
  simp only [List.length_append, List.length_cons, List.length_nil]
  omega
theorem line_parts (n : Nat) {ws : List (List Nat)} {l : List (List Nat) × List Nat} {f1 f2 : Bool} {g : Gs} (B : GB G) (hw : Ws ws) (h : Ln ws l) : evFn G (n + 3) 12 [(.tup (sD ws), f1), (.str (lt l), f2)] none g = .ok (.tup [.tup (sD (ord ws l.1)), .str l.2]) false g := by
  refine fn_ret (ds := [.tup (sD ws), .str (lt l)]) (s := [.va (.tup (sD ws)), .va (.str (lt l)), .va (.lst [.str (joinL [32] l.1), .str l.2]), .va (.tup (sD l.1))]) B.f12 rfl rfl ?_
  have nm : ∀ u ∈ l.1, Nm u := fun u hu => hw.nm u (h.sub u hu)
  have hne : l.1 ≠ [] := fun z => by have := h.lo; rw [z] at this; simp at this
  have sp1 : splitL [32, 61, 32] (lt l) = [joinL [32] l.1, l.2] := spl_eq (join_mem (fun u hu => (nm u hu).no (by decide)) (by decide)) ((nm _ h.pk).no (by decide))
  have sp2 : splitL [32] (joinL [32] l.1) = l.1 := split1 (fun u hu => (nm u hu).no (by decide)) hne
  have l1 := lt_len hw h
  have l2 : (lt l).length + 2 ≤ big := by unfold big; omega
  have l3 : (joinL [32] l.1).length + 2 ≤ big := by
    unfold lt at l1
    rw [List.length_append] at l1
    unfold big; omega
  have h5 := sub_len hw.nd h.nd h.sub
  have hi := hw.hi
  have l4 : l.1.length ≤ big := by unfold big; omega
  have im := is_menuT (G := G) n (f1 := false) (f2 := false) (g := g) B hw h.nd h.sub h.lo
  have io := in_orderO (G := G) (n + 1) (f1 := false) (f2 := false) (g := g) B.f10 hw.ok (fun u hu => (nm u hu).ok) (vs := l.1) (by omega)
  have i := inD_sD (nm _ h.pk).ok (fun u hu => (nm u hu).ok) (ws := l.1) true
  simp only [dS] at i
  rw [List.contains_iff_mem.mpr h.pk] at i
  have m1 : mkL ([joinL [32] l.1, l.2].map D.str) = some (.lst [.str (joinL [32] l.1), .str l.2], true) := by
    unfold mkL
    rw [if_pos (by unfold big; simp)]
    rfl
  have m2 : mkL (l.1.map D.str) = some (.lst (sD l.1), true) := by
    unfold mkL
    rw [if_pos (by simpa using l4)]
    rfl
  have q1 : bmD .split (.str (lt l)) [.str [32, 61, 32]] = some (.lst [.str (joinL [32] l.1), .str l.2], true) := by
    simp only [bmD, sp1]
    rw [if_pos (by simpa using l2), m1]
  have q2 : bmD .split (.str (joinL [32] l.1)) [.str [32]] = some (.lst (sD l.1), true) := by
    simp only [bmD, sp2]
    rw [if_pos (by simpa using l3), m2]
  have z1 : bmD .split (.str (lt l)) = fun x => bmD .split (.str (lt l)) x := rfl
  have mt : ∀ a b : D, mkT [a, b] = some (.tup [a, b], false) := fun a b => by unfold mkT; rw [if_pos (by unfold big; simp)]
  have e1 : evS G (evFn G (n + 2)) none (.set 2 false (.ite (.isi (.v 1) [.str]) (.bm .split (.v 1) [(.c (.str [32, 61, 32]))]) (.lst []))) ⟨[.va (.tup (sD ws)), .va (.str (lt l)), .un, .un], g⟩ = .ok .nx ⟨[.va (.tup (sD ws)), .va (.str (lt l)), .va (.lst [.str (joinL [32] l.1), .str l.2]), .un], g⟩ := by
    simp [evS, evE, evL, rd, pk, lk, quiet, quietL, Rs.bind, drf, toB, opt, tyIs, isMut, q1, put]
  have e2 : evS G (evFn G (n + 2)) none (.ife (.cmp .ne (.bi .len [(.v 2)]) (.c (.int 2))) [.ret (.c (.non))] []) ⟨[.va (.tup (sD ws)), .va (.str (lt l)), .va (.lst [.str (joinL [32] l.1), .str l.2]), .un], g⟩ = .ok .nx ⟨[.va (.tup (sD ws)), .va (.str (lt l)), .va (.lst [.str (joinL [32] l.1), .str l.2]), .un], g⟩ := by
    simp [evSs, evS, evE, evL, evA, rd, pk, lk, quiet, quietL, looked, isDs, Rs.bind, drf, toB, opt, idxV, idxD, ixOf, clsOf, binD, cmpV, inC, cmpD, biV, biD, bindT, bindTs, setIx, isLs, put, perm, isId, dflOf, permF, isDfl, Re.rs, walkI, walkS, tyIs, prt, slcD, attrD, fldsOf, fGet, viaM, wip, ownT, ownTs, back, notB, isMut, mutD, bmD, args, biD, shp, eqv]
  have e3 : evS G (evFn G (n + 2)) none (.set 3 false (.bi .tuple [(.bm .split (.idx (.v 2) (.c (.int 0))) [(.c (.str [32]))])])) ⟨[.va (.tup (sD ws)), .va (.str (lt l)), .va (.lst [.str (joinL [32] l.1), .str l.2]), .un], g⟩ = .ok .nx ⟨[.va (.tup (sD ws)), .va (.str (lt l)), .va (.lst [.str (joinL [32] l.1), .str l.2]), .va (.tup (sD l.1))], g⟩ := by
    simp [evS, evE, evL, rd, pk, lk, quiet, quietL, Rs.bind, drf, toB, opt, isMut, idxV, idxD, ixOf, clsOf, q2, put, biV, biD]
  have e4 : evS G (evFn G (n + 2)) none (.ife (.or (.not (.call 11 [(.v 0), (.v 3)] [.inl 0, .inl 1])) (.cmp .nin (.idx (.v 2) (.c (.int 1))) (.v 3))) [.ret (.c (.non))] []) ⟨[.va (.tup (sD ws)), .va (.str (lt l)), .va (.lst [.str (joinL [32] l.1), .str l.2]), .va (.tup (sD l.1))], g⟩ = .ok .nx ⟨[.va (.tup (sD ws)), .va (.str (lt l)), .va (.lst [.str (joinL [32] l.1), .str l.2]), .va (.tup (sD l.1))], g⟩ := by
    simp [evSs, evS, evE, evL, evA, rd, pk, lk, quiet, quietL, looked, isDs, Rs.bind, drf, toB, opt, idxV, idxD, ixOf, clsOf, binD, cmpV, inC, cmpD, biV, biD, bindT, bindTs, setIx, isLs, put, perm, isId, dflOf, permF, isDfl, Re.rs, walkI, walkS, tyIs, prt, slcD, attrD, fldsOf, fGet, viaM, wip, ownT, ownTs, back, notB, isMut, mutD, bmD, args, im, i]
  have e5 : evS G (evFn G (n + 2)) none (.ret (.tup [(.call 10 [(.v 0), (.v 3)] [.inl 0, .inl 1]), (.idx (.v 2) (.c (.int 1)))])) ⟨[.va (.tup (sD ws)), .va (.str (lt l)), .va (.lst [.str (joinL [32] l.1), .str l.2]), .va (.tup (sD l.1))], g⟩ = .ok (.rt (.tup [.tup (sD (ord ws l.1)), .str l.2]) false) ⟨[.va (.tup (sD ws)), .va (.str (lt l)), .va (.lst [.str (joinL [32] l.1), .str l.2]), .va (.tup (sD l.1))], g⟩ := by
    simp [evSs, evS, evE, evL, evA, rd, pk, lk, quiet, quietL, looked, isDs, Rs.bind, drf, toB, opt, idxV, idxD, ixOf, clsOf, binD, cmpV, inC, cmpD, biV, biD, bindT, bindTs, setIx, isLs, put, perm, isId, dflOf, permF, isDfl, Re.rs, walkI, walkS, tyIs, prt, slcD, attrD, fldsOf, fGet, viaM, wip, ownT, ownTs, back, notB, isMut, mutD, bmD, args, io, mt]
  unfold f12
  exact (ss_nx e1).trans ((ss_nx e2).trans ((ss_nx e3).trans ((ss_nx e4).trans (ss_rt e5))))
end PX
end

section
set_option autoImplicit false
set_option linter.all false
set_option maxRecDepth 100000
set_option maxHeartbeats 4000000
/-! P11: tables; lines_told. -/
namespace PX
open PC PF
variable {G : Gl} {cf : CF} {th : Option (Gs → Re)}
/-- for: an invariant by how many are done -/
theorem forL_ix {body : D → St → Rs Fl} (I : Nat → St → Prop) : ∀ (xs : List D) (k : Nat) (s : St), (∀ j (hj : j < xs.length) s, I (k + j) s → ∃ s', body xs[j] s = .ok .nx s' ∧ I (k + j + 1) s') → I k s → ∃ s', forL body xs s = .ok .nx s' ∧ I (k + xs.length) s'
  | [], k, s, _, h => ⟨s, rfl, h⟩
  | x :: xs, k, s, hb, h => by
    obtain ⟨s1, e1, h1⟩ := hb 0 (by simp) s h
    obtain ⟨s2, e2, h2⟩ := forL_ix I xs (k + 1) s1 (fun j hj s hs => by
      have z := hb (j + 1) (by simpa using hj) s (by rw [show k + (j + 1) = k + 1 + j by omega]; exact hs)
      rw [show k + 1 + j + 1 = k + (j + 1) + 1 by omega]
      exact z) h1
    refine ⟨s2, ?_, by rw [show k + (x :: xs).length = k + 1 + xs.length by simp; omega]; exact h2⟩
    show (body x s).bind _ = _
    rw [show body x s = .ok .nx s1 from e1]
    exact e2
/-- a def's body that ends in a return -/
theorem fn_run {n f : Nat} {fd : Fd} {xs : List (D × Bool)} {g g1 : Gs} {ds : List D} {d : D} {fr : Bool} {s : Sg} (hf : G.fn f = some fd) (hl : xs.length = fd.ps) (ha : args fd.refs xs g = (ds, g)) (h : evSs G (evFn G n) none fd.body ⟨ds.map .va ++ List.replicate (fd.ns - xs.length) .un, g⟩ = .ok (.rt d fr) ⟨s, g1⟩) (hg : g1.length = g.length) : evFn G (n + 1) f xs none g = .ok d fr g1 := by
  rw [fn1 hf hl, ha]
  dsimp only
  rw [h]
  exact fin_same hg
theorem fn_non {n f : Nat} {fd : Fd} {xs : List (D × Bool)} {g g1 : Gs} {ds : List D} {s : Sg} (hf : G.fn f = some fd) (hl : xs.length = fd.ps) (ha : args fd.refs xs g = (ds, g)) (h : evSs G (evFn G n) none fd.body ⟨ds.map .va ++ List.replicate (fd.ns - xs.length) .un, g⟩ = .ok .nx ⟨s, g1⟩) (hg : g1.length = g.length) : evFn G (n + 1) f xs none g = .ok .non false g1 := by
  rw [fn1 hf hl, ha]
  dsimp only
  rw [h]
  exact fin_same hg
theorem mkL_ok {xs : List D} (h : xs.length ≤ big) : mkL xs = some (.lst xs, true) := by unfold mkL; rw [if_pos h]
theorem mkT_ok {xs : List D} (h : xs.length ≤ big) : mkT xs = some (.tup xs, false) := by unfold mkT; rw [if_pos h]
/-- a list comprehension, element by element; a is what an element stands for -/
theorem lc_m {α : Type} {e it : E} {t : T} {cs : List E} {s : St} {r : D × Bool} (as : List α) (f h : α → D) (p : α → Bool) (S1 : α → St) (fr : α → Bool) (hi : lk (quiet e && quietL cs && !isDs it s) it s (evE G cf th it s) = .ok r s) (hc : clr (ownT t) s.s = true) (hw : walkI it r.1 = some (as.map f)) (hl : as.length ≤ big)
    (hb : ∀ a ∈ as, bindT t (f a) ⟨wip (ownT t) s.s, s.g⟩ = some (S1 a)) (hp : ∀ a ∈ as, evA G cf th cs (S1 a) = .ok (p a) (S1 a)) (he : ∀ a ∈ as, p a = true → evE G cf th e (S1 a) = .ok (h a, fr a) (S1 a)) (hk : ∀ a ∈ as, (⟨back (ownT t) s.s (S1 a).s, (S1 a).g⟩ : St) = s) :
    evE G cf th (.lc e t it cs) s = .ok (.lst ((as.filter p).map h), true) s := by
  have hxs : ∀ as : List α, (as.map f).length = as.length := fun as => List.length_map ..
  simp only [evE]
  rw [hi]
  show ((opt (if clr (ownT t) s.s = true then walkI it r.1 else none) s).bind fun xs s1' => (lcL _ xs s1').bind _) = _
  rw [if_pos hc, hw]
  show (lcL _ (as.map f) s).bind _ = _
  have key : ∀ bs : List α, (∀ b ∈ bs, b ∈ as) → lcL (fun x s2 => (opt (bindT t x ⟨wip (ownT t) s2.s, s2.g⟩) s2).bind fun z _ => (evA G cf th cs z).bind fun k s4 => if k = true then (evE G cf th e s4).bind fun y s5 => .ok [y.1] ⟨back (ownT t) s2.s s5.s, s5.g⟩ else .ok [] ⟨back (ownT t) s2.s s4.s, s4.g⟩) (bs.map f) s = .ok ((bs.filter p).map h) s := fun bs => by
    induction bs with
    | nil => exact fun _ => rfl
    | cons b bs ih =>
      intro hb'
      have ha := hb' b List.mem_cons_self
      show (Rs.bind ((opt (bindT t (f b) ⟨wip (ownT t) s.s, s.g⟩) s).bind _) _) = _
      rw [hb b ha]
      show (((evA G cf th cs (S1 b)).bind _).bind _) = _
      rw [hp b ha]
      have ih := ih fun c hc => hb' c (List.mem_cons_of_mem _ hc)
      by_cases c : p b = true
      · show (Rs.bind (if p b = true then _ else _) _) = _
        rw [if_pos c, he b ha c]
        show (Rs.bind (Rs.ok [h b] (⟨back (ownT t) s.s (S1 b).s, (S1 b).g⟩ : St)) _) = _
        rw [hk b ha]
        show ((lcL _ (bs.map f) s).bind _) = _
        rw [ih, List.filter_cons, if_pos c]
        rfl
      · show (Rs.bind (if p b = true then _ else _) _) = _
        rw [if_neg c]
        show (Rs.bind (Rs.ok [] (⟨back (ownT t) s.s (S1 b).s, (S1 b).g⟩ : St)) _) = _
        rw [hk b ha]
        show ((lcL _ (bs.map f) s).bind _) = _
        rw [ih, List.filter_cons, if_neg c]
        rfl
  rw [key as fun _ h => h]
  show opt (mkL ((as.filter p).map h)) s = _
  rw [mkL_ok (by rw [List.length_map]; exact Nat.le_trans (List.length_filter_le ..) hl)]
  rfl
/-- .. without tests -/
theorem lc_0 {α : Type} {e it : E} {t : T} {s : St} {r : D × Bool} (as : List α) (f h : α → D) (S1 : α → St) (fr : α → Bool) (hi : lk (quiet e && !isDs it s) it s (evE G cf th it s) = .ok r s) (hc : clr (ownT t) s.s = true) (hw : walkI it r.1 = some (as.map f)) (hl : as.length ≤ big)
    (hb : ∀ a ∈ as, bindT t (f a) ⟨wip (ownT t) s.s, s.g⟩ = some (S1 a)) (he : ∀ a ∈ as, evE G cf th e (S1 a) = .ok (h a, fr a) (S1 a)) (hk : ∀ a ∈ as, (⟨back (ownT t) s.s (S1 a).s, (S1 a).g⟩ : St) = s) :
    evE G cf th (.lc e t it []) s = .ok (.lst (as.map h), true) s := by
  have z := lc_m (G := G) (cf := cf) (th := th) (e := e) (it := it) (t := t) (cs := []) (s := s) (r := r) as f h (fun _ => true) S1 fr (by simpa [quietL] using hi) hc hw hl hb (fun a _ => by simp [evA]) (fun a ha _ => he a ha) hk
  rw [List.filter_eq_self.mpr fun _ _ => rfl] at z
  exact z
/-! ### tables -/
def tS (ws : List (List Nat)) : D := .tup (sD ws)
theorem eqv_sD : ∀ a b : List (List Nat), eqvL (sD a) (sD b) = (a == b)
  | [], [] => rfl
  | [], _ :: _ => rfl
  | _ :: _, [] => rfl
  | x :: a, y :: b => by
    show (eqv (.str x) (.str y) && eqvL (sD a) (sD b)) = _
    rw [eqv_str, eqv_sD a b]
    rfl
theorem eqv_tS (a b : List (List Nat)) : eqv (tS a) (tS b) = (a == b) := by
  unfold tS
  rw [show eqv (.tup (sD a)) (.tup (sD b)) = eqvL (sD a) (sD b) by simp only [eqv]]
  exact eqv_sD a b
/-- a table of menus -/
def kv (ps : List (List (List Nat) × List Nat)) : List (D × D) := ps.map fun p => (tS p.1, .str p.2)
theorem dGet_kv (a : List (List Nat)) : ∀ ps, dGet (kv ps) (tS a) = (ps.lookup a).map .str
  | [] => rfl
  | p :: ps => by
    show (if eqv (tS p.1) (tS a) = true then some (D.str p.2) else dGet (kv ps) (tS a)) = _
    rw [eqv_tS, dGet_kv a ps, List.lookup]
    by_cases c : a = p.1
    · subst c; simp
    · have c1 : (p.1 == a) = false := by simp; exact fun z => c z.symm
      have c2 : (a == p.1) = false := by simp; exact c
      rw [c1, c2]
      rfl
theorem lookup_some {α β : Type} [BEq α] [LawfulBEq α] (a : α) : ∀ ps : List (α × β), (ps.lookup a).isSome = (ps.map (·.1)).contains a
  | [] => rfl
  | p :: ps => by
    rw [List.lookup, List.map_cons, List.contains_cons]
    cases c : a == p.1 with
    | true => rfl
    | false => simp [lookup_some a ps]
theorem keyT_tS (a : List (List Nat)) : keyOk (tS a) = true := by
  have : (sD a).all keyd = true := by
    rw [List.all_eq_true]
    intro x hx
    obtain ⟨w, _, rfl⟩ := List.mem_map.mp hx
    rfl
  unfold keyOk
  show (keyd (tS a) || keyT (tS a)) = true
  unfold tS keyT
  simp only [this]
  rfl
theorem keyFor_kv (a : List (List Nat)) (ps) : keyFor (kv ps) (tS a) = true := by
  unfold keyFor
  rw [keyT_tS, Bool.true_and, List.all_eq_true]
  intro x hx
  obtain ⟨p, _, rfl⟩ := List.mem_map.mp hx
  rfl
theorem keyNew_tS {a : List (List Nat)} (h : ∀ w ∈ a, Nm w) (hn : a ≠ []) : keyNew (tS a) = true := by
  have h1 : kcs (sD a) = false := by
    unfold kcs
    rw [Bool.or_eq_false_iff]
    refine ⟨by cases a with | nil => exact absurd rfl hn | cons => rfl, ?_⟩
    rw [List.any_eq_false]
    intro x hx
    obtain ⟨w, hw, rfl⟩ := List.mem_map.mp hx
    have := (h w hw).hi
    simp
    omega
  unfold tS keyNew
  simp [h1]
theorem inD_kv (a : List (List Nat)) (ps) : inD (tS a) (.dct (kv ps)) = some ((ps.map (·.1)).contains a) := by
  unfold inD
  simp only [keyFor_kv, if_true, dGet_kv, Option.isSome_map, lookup_some]
theorem setD_kv {a : List (List Nat)} {x : List Nat} {ps} (h : ∀ w ∈ a, Nm w) (hn : a ≠ []) (hb : ps.length < big) (hnew : a ∉ ps.map (·.1)) : PC.setD (.dct (kv ps)) (tS a) (.str x) = some (.dct (kv (ps ++ [(a, x)]))) := by
  have hl : (kv ps).length < big := by unfold kv; rwa [List.length_map]
  have ha : ((kv ps).any fun p => eqv p.1 (tS a)) = false := by
    rw [List.any_eq_false]
    intro y hy
    obtain ⟨p, hp, rfl⟩ := List.mem_map.mp hy
    rw [eqv_tS]
    intro z
    exact hnew (List.mem_map.mpr ⟨p, hp, by simpa using z⟩)
  unfold setD
  simp only [keyFor_kv, keyNew_tS h hn, decide_eq_true hl, Bool.and_self, if_true]
  unfold dPut
  rw [ha]
  simp [kv]
/-! ### lines_told -/
abbrev Lne := List (List Nat) × List Nat
/-- what lines tell, as they come -/
def tab (ws : List (List Nat)) (ls : List Lne) : List (List (List Nat) × List Nat) := ls.map fun l => (ord ws l.1, l.2)
/-- lines for some things -/
structure Ls (ws : List (List Nat)) (ls : List Lne) : Prop where
  ln : ∀ l ∈ ls, Ln ws l
  nd : (ls.map fun l => ord ws l.1).Nodup
  hi : ls.length ≤ 1000
def lD (ls : List Lne) : List D := ls.map fun l => .str (lt l)
theorem ord_nm {ws vs : List (List Nat)} (hw : Ws ws) : ∀ w ∈ ord ws vs, Nm w := fun w h => hw.nm w (List.mem_filter.mp h).1
theorem ord_ne {ws : List (List Nat)} {l : Lne} (hw : Ws ws) (h : Ln ws l) : ord ws l.1 ≠ [] := fun z => by
  have a := (ord_perm hw.nd h.nd h.sub).length_eq
  rw [z, List.length_nil] at a
  have b := h.lo
  omega
theorem lines_told (n : Nat) {ws : List (List Nat)} {ls : List Lne} {f1 f2 : Bool} {g : Gs} (B : GB G) (hw : Ws ws) (h : Ls ws ls) : evFn G (n + 4) 13 [(.tup (sD ws), f1), (.tup (lD ls), f2)] none g = .ok (.dct (kv (tab ws ls))) true g := by
  have hll : (lD ls).length = ls.length := List.length_map ..
  have go := forL_ix (body := fun x s3 => (opt (bindT (.n 3) x s3) s3).bind fun z _ => evSs G (evFn G (n + 3)) none [.set 4 false (.call 12 [(.v 0), (.idx (.v 1) (.v 3))] [.inl 0, .inl 1]), .ife (.or (.cmp .is_ (.v 4) (.c (.non))) (.cmp .in_ (.idx (.v 4) (.c (.int 0))) (.v 2))) [.rse 13 [(.v 3)]] [], .setI (.v 2) (.idx (.v 4) (.c (.int 0))) (.idx (.v 4) (.c (.int 1)))] z)
    (fun k s => ∃ s3 s4, s = ⟨[.va (.tup (sD ws)), .va (.tup (lD ls)), .ow (.dct (kv (tab ws (ls.take k)))), s3, s4], g⟩) ((List.range ls.length).map fun (k : Nat) => D.int k) 0 ⟨[.va (.tup (sD ws)), .va (.tup (lD ls)), .ow (.dct (kv (tab ws (ls.take 0)))), .un, .un], g⟩ ?_ ⟨_, _, rfl⟩
  · obtain ⟨s', e, s3, s4, rfl⟩ := go
    rw [List.length_map, List.length_range, Nat.zero_add, List.take_length] at e
    refine fn_ret (ds := [.tup (sD ws), .tup (lD ls)]) (s := [.va (.tup (sD ws)), .va (.tup (lD ls)), .un, s3, s4]) B.f13 rfl rfl ?_
    have e1 : evS G (evFn G (n + 3)) none (.ife (.not (.isi (.v 1) [.tup])) [.rse 13 [(.c (.non))]] []) ⟨[.va (.tup (sD ws)), .va (.tup (lD ls)), .un, .un, .un], g⟩ = .ok .nx ⟨[.va (.tup (sD ws)), .va (.tup (lD ls)), .un, .un, .un], g⟩ := by
      simp [evSs, evS, evE, evL, evA, rd, pk, lk, quiet, quietL, looked, isDs, Rs.bind, drf, toB, opt, idxV, idxD, ixOf, clsOf, binD, cmpV, inC, cmpD, biV, biD, bindT, bindTs, setIx, isLs, put, perm, isId, dflOf, permF, isDfl, Re.rs, walkI, walkS, tyIs, prt, slcD, attrD, fldsOf, fGet, viaM, wip, ownT, ownTs, back, notB, isMut, mutD, bmD, args]
    have e2 : evS G (evFn G (n + 3)) none (.set 2 true (.dct [])) ⟨[.va (.tup (sD ws)), .va (.tup (lD ls)), .un, .un, .un], g⟩ = .ok .nx ⟨[.va (.tup (sD ws)), .va (.tup (lD ls)), .ow (.dct []), .un, .un], g⟩ := by
      simp [evSs, evS, evE, evL, evA, rd, pk, lk, quiet, quietL, looked, isDs, Rs.bind, drf, toB, opt, idxV, idxD, ixOf, clsOf, binD, cmpV, inC, cmpD, biV, biD, bindT, bindTs, setIx, isLs, put, perm, isId, dflOf, permF, isDfl, Re.rs, walkI, walkS, tyIs, prt, slcD, attrD, fldsOf, fGet, viaM, wip, ownT, ownTs, back, notB, isMut, mutD, bmD, args, dispD]
    have b3 : evE G (evFn G (n + 3)) none (.rng [(.bi .len [(.v 1)])]) ⟨[.va (.tup (sD ws)), .va (.tup (lD ls)), .ow (.dct []), .un, .un], g⟩ = .ok (.lst ((List.range ls.length).map fun (k : Nat) => .int k), true) ⟨[.va (.tup (sD ws)), .va (.tup (lD ls)), .ow (.dct []), .un, .un], g⟩ := by
      have l1 : evL G (evFn G (n + 3)) none [(.bi .len [(.v 1)])] ⟨[.va (.tup (sD ws)), .va (.tup (lD ls)), .ow (.dct []), .un, .un], g⟩ = .ok [(.int ls.length, false)] ⟨[.va (.tup (sD ws)), .va (.tup (lD ls)), .ow (.dct []), .un, .un], g⟩ := by
        simp [evSs, evS, evE, evL, evA, rd, pk, lk, quiet, quietL, looked, isDs, Rs.bind, drf, toB, opt, idxV, idxD, ixOf, clsOf, binD, cmpV, inC, cmpD, biV, biD, bindT, bindTs, setIx, isLs, put, perm, isId, dflOf, permF, isDfl, Re.rs, walkI, walkS, tyIs, prt, slcD, attrD, fldsOf, fGet, viaM, wip, ownT, ownTs, back, notB, isMut, mutD, bmD, args, biD, hll]
      exact e_rng l1 (h.hi)
    have s2 : evS G (evFn G (n + 3)) none (.for_ (.n 3) (.rng [(.bi .len [(.v 1)])]) [.set 4 false (.call 12 [(.v 0), (.idx (.v 1) (.v 3))] [.inl 0, .inl 1]), .ife (.or (.cmp .is_ (.v 4) (.c (.non))) (.cmp .in_ (.idx (.v 4) (.c (.int 0))) (.v 2))) [.rse 13 [(.v 3)]] [], .setI (.v 2) (.idx (.v 4) (.c (.int 0))) (.idx (.v 4) (.c (.int 1)))]) ⟨[.va (.tup (sD ws)), .va (.tup (lD ls)), .ow (.dct []), .un, .un], g⟩ = .ok .nx ⟨[.va (.tup (sD ws)), .va (.tup (lD ls)), .ow (.dct (kv (tab ws ls))), s3, s4], g⟩ := by
      rw [s_for, b3]
      exact e
    unfold f13
    refine (ss_nx e1).trans ((ss_nx e2).trans ((ss_nx s2).trans (ss_rt ?_)))
    simp [evS, pk, Rs.bind]
  · rintro k hk s ⟨s3, s4, rfl⟩
    rw [List.length_map, List.length_range] at hk
    rw [Nat.zero_add]
    refine ⟨⟨[.va (.tup (sD ws)), .va (.tup (lD ls)), .ow (.dct (kv (tab ws (ls.take (k + 1))))), .va (.int k), .va (.tup [.tup (sD (ord ws ls[k].1)), .str ls[k].2])], g⟩, ?_, _, _, rfl⟩
    have hx := h.ln ls[k] (List.getElem_mem _)
    have lp := line_parts (G := G) n (f1 := false) (f2 := false) (g := g) B hw hx
    have gi : (lD ls)[k]? = some (.str (lt ls[k])) := by unfold lD; rw [List.getElem?_map, List.getElem?_eq_getElem hk]; rfl
    have gi2 : (lD ls)[k]'(by rw [hll]; exact hk) = .str (lt ls[k]) := by simp [lD]
    have hlt : (k : Int) < ls.length := by omega
    have nin : ord ws ls[k].1 ∉ (tab ws (ls.take k)).map (·.1) := by
      intro z
      have e : (tab ws (ls.take k)).map (·.1) = (ls.map fun l => ord ws l.1).take k := by unfold tab; rw [List.map_map, List.map_take]; rfl
      rw [e] at z
      obtain ⟨j, hj, e2⟩ := List.mem_iff_getElem.mp z
      rw [List.getElem_take, List.getElem_map] at e2
      rw [List.length_take, List.length_map] at hj
      have hp := List.pairwise_iff_getElem.mp h.nd j k (by rw [List.length_map]; omega) (by rw [List.length_map]; omega) (by omega)
      rw [List.getElem_map, List.getElem_map] at hp
      exact hp e2
    have i := inD_kv (ord ws ls[k].1) (tab ws (ls.take k))
    have nin' : ((tab ws (ls.take k)).map (·.1)).contains (ord ws ls[k].1) = false := by
      rw [Bool.eq_false_iff]
      exact fun z => nin (List.contains_iff_mem.mp z)
    rw [nin'] at i
    have sd := setD_kv (x := ls[k].2) (ord_nm hw) (ord_ne hw hx) (ps := tab ws (ls.take k)) (by unfold tab; rw [List.length_map, List.length_take]; have := h.hi; unfold big; omega) nin
    have et : tab ws (ls.take k) ++ [(ord ws ls[k].1, ls[k].2)] = tab ws (ls.take (k + 1)) := by
      unfold tab
      rw [List.take_succ_eq_append_getElem hk, List.map_append]
      rfl
    rw [et] at sd
    unfold tS at sd i
    have sb : bindT (.n 3) (.int k) ⟨[.va (.tup (sD ws)), .va (.tup (lD ls)), .ow (.dct (kv (tab ws (ls.take k)))), s3, s4], g⟩ = some ⟨[.va (.tup (sD ws)), .va (.tup (lD ls)), .ow (.dct (kv (tab ws (ls.take k)))), .va (.int k), s4], g⟩ := by simp [bindT]
    have e1 : evS G (evFn G (n + 3)) none (.set 4 false (.call 12 [(.v 0), (.idx (.v 1) (.v 3))] [.inl 0, .inl 1])) ⟨[.va (.tup (sD ws)), .va (.tup (lD ls)), .ow (.dct (kv (tab ws (ls.take k)))), .va (.int k), s4], g⟩ = .ok .nx ⟨[.va (.tup (sD ws)), .va (.tup (lD ls)), .ow (.dct (kv (tab ws (ls.take k)))), .va (.int k), .va (.tup [.tup (sD (ord ws ls[k].1)), .str ls[k].2])], g⟩ := by
      simp [evSs, evS, evE, evL, evA, rd, pk, lk, quiet, quietL, looked, isDs, Rs.bind, drf, toB, opt, idxV, idxD, ixOf, clsOf, binD, cmpV, inC, cmpD, biV, biD, bindT, bindTs, setIx, isLs, put, perm, isId, dflOf, permF, isDfl, Re.rs, walkI, walkS, tyIs, prt, slcD, attrD, fldsOf, fGet, viaM, wip, ownT, ownTs, back, notB, isMut, mutD, bmD, args, hll, hk, gi, gi2, lp]
    have e2 : evS G (evFn G (n + 3)) none (.ife (.or (.cmp .is_ (.v 4) (.c (.non))) (.cmp .in_ (.idx (.v 4) (.c (.int 0))) (.v 2))) [.rse 13 [(.v 3)]] []) ⟨[.va (.tup (sD ws)), .va (.tup (lD ls)), .ow (.dct (kv (tab ws (ls.take k)))), .va (.int k), .va (.tup [.tup (sD (ord ws ls[k].1)), .str ls[k].2])], g⟩ = .ok .nx ⟨[.va (.tup (sD ws)), .va (.tup (lD ls)), .ow (.dct (kv (tab ws (ls.take k)))), .va (.int k), .va (.tup [.tup (sD (ord ws ls[k].1)), .str ls[k].2])], g⟩ := by
      simp [evSs, evS, evE, evL, evA, rd, pk, lk, quiet, quietL, looked, isDs, Rs.bind, drf, toB, opt, idxV, idxD, ixOf, clsOf, binD, cmpV, inC, cmpD, biV, biD, bindT, bindTs, setIx, isLs, put, perm, isId, dflOf, permF, isDfl, Re.rs, walkI, walkS, tyIs, prt, slcD, attrD, fldsOf, fGet, viaM, wip, ownT, ownTs, back, notB, isMut, mutD, bmD, args, i]
    have e3 : evS G (evFn G (n + 3)) none (.setI (.v 2) (.idx (.v 4) (.c (.int 0))) (.idx (.v 4) (.c (.int 1)))) ⟨[.va (.tup (sD ws)), .va (.tup (lD ls)), .ow (.dct (kv (tab ws (ls.take k)))), .va (.int k), .va (.tup [.tup (sD (ord ws ls[k].1)), .str ls[k].2])], g⟩ = .ok .nx ⟨[.va (.tup (sD ws)), .va (.tup (lD ls)), .ow (.dct (kv (tab ws (ls.take (k + 1))))), .va (.int k), .va (.tup [.tup (sD (ord ws ls[k].1)), .str ls[k].2])], g⟩ := by
      simp [evS, evE, rd, pk, lk, quiet, Rs.bind, drf, opt, idxV, idxD, ixOf, clsOf, sd]
    have gx : ((List.range ls.length).map fun (k : Nat) => D.int k)[k]'(by simpa using hk) = .int k := by simp
    rw [gx]
    show ((opt _ _).bind _) = _
    rw [sb]
    show evSs G (evFn G (n + 3)) none _ _ = _
    rw [ss_nx e1, ss_nx e2, ss_nx e3, ss_nil]
end PX
end

section
set_option autoImplicit false
set_option linter.all false
set_option maxRecDepth 100000
set_option maxHeartbeats 4000000
/-! P12: all menus. -/
namespace PX
open PC PF
variable {G : Gl} {cf : CF} {th : Option (Gs → Re)}
abbrev Wd := List Nat
/-- all lots of k things, in their order -/
def lots : Nat → List Wd → List (List Wd)
  | 0, _ => [[]]
  | _ + 1, [] => []
  | k + 1, w :: r => (lots k r).map (w :: ·) ++ lots (k + 1) r
theorem lots_len : ∀ (ws : List Wd) (k : Nat), (lots k ws).length ≤ 2 ^ ws.length
  | [], 0 => by simp [lots]
  | [], k + 1 => by simp [lots]
  | w :: r, 0 => by simp [lots]; exact Nat.one_le_two_pow
  | w :: r, k + 1 => by
    have a := lots_len r k
    have b := lots_len r (k + 1)
    simp only [lots, List.length_append, List.length_map, List.length_cons, Nat.pow_succ]
    omega
theorem mem_lots : ∀ (ws : List Wd) (k : Nat) (v : List Wd), v ∈ lots k ws ↔ v.Sublist ws ∧ v.length = k
  | [], 0, v => by
    simp only [lots, List.mem_singleton, List.sublist_nil]
    exact ⟨fun h => by subst h; exact ⟨rfl, rfl⟩, fun h => h.1⟩
  | [], k + 1, v => by
    simp only [lots, List.not_mem_nil, List.sublist_nil, false_iff, not_and]
    rintro rfl
    simp
  | w :: r, 0, v => by
    simp only [lots, List.mem_singleton]
    exact ⟨fun h => by subst h; exact ⟨List.nil_sublist _, rfl⟩, fun h => List.length_eq_zero_iff.mp h.2⟩
  | w :: r, k + 1, v => by
    simp only [lots, List.mem_append, List.mem_map, mem_lots r]
    constructor
    · rintro (⟨u, ⟨h1, h2⟩, rfl⟩ | ⟨h1, h2⟩)
      · exact ⟨h1.cons_cons w, by simp [h2]⟩
      · exact ⟨h1.cons w, h2⟩
    · rintro ⟨h1, h2⟩
      cases h1 with
      | cons _ h => exact .inr ⟨h, h2⟩
      | cons_cons _ h => exact .inl ⟨_, ⟨h, by simpa using h2⟩, rfl⟩
theorem lots_nodup : ∀ (ws : List Wd) (k : Nat), ws.Nodup → (lots k ws).Nodup
  | [], 0, _ => by simp [lots]
  | [], k + 1, _ => by simp [lots]
  | w :: r, 0, _ => by simp [lots]
  | w :: r, k + 1, h => by
    rw [List.nodup_cons] at h
    simp only [lots]
    rw [List.nodup_append]
    refine ⟨List.Pairwise.map _ (fun a b (hab : a ≠ b) => by simpa using hab) (lots_nodup r k h.2), lots_nodup r (k + 1) h.2, ?_⟩
    rintro a ha b hb rfl
    obtain ⟨u, hu, rfl⟩ := List.mem_map.mp ha
    exact h.1 (((mem_lots r _ _).mp hb).1.subset List.mem_cons_self)
/-- lots, by their first thing -/
theorem lots_flat (k : Nat) : ∀ (ws : List Wd), lots (k + 1) ws = (List.range ws.length).flatMap fun i => (lots k (ws.drop (i + 1))).map (ws.getD i [] :: ·)
  | [] => by simp [lots]
  | w :: r => by
    simp only [lots]
    rw [lots_flat k r, List.length_cons, List.range_succ_eq_map, List.flatMap_cons, List.flatMap_map]
    rfl
/-- all menus -/
def allM (ws : List Wd) : List (List Wd) := (List.range (ws.length - 1)).flatMap fun i => lots (i + 2) ws
theorem mem_allM {ws v : List Wd} : v ∈ allM ws ↔ v.Sublist ws ∧ 2 ≤ v.length := by
  unfold allM
  rw [List.mem_flatMap]
  constructor
  · rintro ⟨i, _, h⟩
    obtain ⟨a, b⟩ := (mem_lots _ _ _).mp h
    exact ⟨a, by omega⟩
  · rintro ⟨a, b⟩
    have := a.length_le
    exact ⟨v.length - 2, List.mem_range.mpr (by omega), (mem_lots _ _ _).mpr ⟨a, by omega⟩⟩
theorem flat_le {α β : Type} (f : α → List β) (c : Nat) : ∀ xs : List α, (∀ x ∈ xs, (f x).length ≤ c) → (xs.flatMap f).length ≤ xs.length * c
  | [], _ => by simp
  | x :: xs, h => by
    have a := h x List.mem_cons_self
    have b := flat_le f c xs fun y hy => h y (List.mem_cons_of_mem _ hy)
    rw [List.flatMap_cons, List.length_append, List.length_cons, Nat.succ_mul]
    omega
theorem allM_len {ws : List Wd} (h : ws.length ≤ 5) : (allM ws).length ≤ 128 := by
  unfold allM
  have a := flat_le (fun i => lots (i + 2) ws) 32 (List.range (ws.length - 1)) fun i _ => Nat.le_trans (lots_len ws _) (Nat.le_trans (Nat.pow_le_pow_right (by omega) h) (by decide))
  rw [List.length_range] at a
  have : (ws.length - 1) * 32 ≤ 4 * 32 := Nat.mul_le_mul_right _ (by omega)
  omega
theorem allM_nodup {ws : List Wd} (h : ws.Nodup) : (allM ws).Nodup := by
  unfold allM
  generalize ws.length - 1 = m
  induction m with
  | zero => simp
  | succ m ih =>
    rw [List.range_succ, List.flatMap_append, List.nodup_append]
    refine ⟨ih, by simpa using lots_nodup ws (m + 2) h, ?_⟩
    rintro a ha b hb rfl
    obtain ⟨i, hi, h1⟩ := List.mem_flatMap.mp ha
    obtain ⟨j, hj, h2⟩ := List.mem_flatMap.mp hb
    have e1 := ((mem_lots _ _ _).mp h1).2
    have e2 := ((mem_lots _ _ _).mp h2).2
    have := List.mem_range.mp hi
    rw [List.mem_singleton] at hj
    omega
theorem e_bin {o : BOp} {a b : E} {s s1 s2 : St} {x y r : D × Bool} (h1 : lk (quiet b) a s (evE G cf th a s) = .ok x s1) (h2 : lk true b s1 (evE G cf th b s1) = .ok y s2) (h3 : binD o (drf s2.g x.1) (drf s2.g y.1) = some r) : evE G cf th (.bin o a b) s = .ok r s2 := by
  simp only [evE]
  rw [h1]
  simp only [Rs.bind]
  rw [h2]
  simp only
  rw [h3]
  rfl
theorem lk_va {q : Bool} {i : Nat} {s : St} {d : D} (h : s.s[i]? = some (.va d)) : lk q (.v i) s (evE G cf th (.v i) s) = .ok (d, false) s := by
  cases q <;> simp [lk, evE, rd, pk, h]
theorem lk_ow {i : Nat} {s : St} {d : D} (h : s.s[i]? = some (.ow d)) : lk true (.v i) s (evE G cf th (.v i) s) = .ok (d, false) s := by
  simp [lk, evE, rd, pk, h]
theorem e_rngs {es : List E} {s s1 : St} {xs : List (D × Bool)} {l : List D} {r : D × Bool} (h : evL G cf th es s = .ok xs s1) (hr : rngD (xs.map (·.1)) = some l) (hm : mkL l = some r) : evE G cf th (.rng es) s = .ok r s1 := by
  simp only [evE]
  rw [h]
  simp only [Rs.bind]
  rw [hr]
  simp only [Option.bind_some]
  rw [hm]
  rfl
theorem rng2 {a b : Int} (h1 : -1000000 < a) (h2 : a < 1000000) (h3 : -1000000 < b) (h4 : b < 1000000) : rngD [.int a, .int b] = some ((List.range (b - a).toNat).map fun (k : Nat) => .int (a + k)) := by
  show (if -1000000 < a ∧ a < 1000000 ∧ -1000000 < b ∧ b < 1000000 then some ((List.range (b - a).toNat).map fun (k : Nat) => D.int (a + k)) else none) = _
  rw [if_pos ⟨h1, h2, h3, h4⟩]
/-! ### the program -/
def mD (vs : List (List Wd)) : List D := vs.map tS
theorem mD_len (vs : List (List Wd)) : (mD vs).length = vs.length := List.length_map ..
theorem mD_app (a b : List (List Wd)) : mD (a ++ b) = mD a ++ mD b := List.map_append
def LotsAt (G : Gl) (k n : Nat) : Prop := ∀ {ws : List Wd} {f1 f2 : Bool} {g : Gs}, ws.length ≤ 5 → ∃ fr, evFn G (n + k + 1) 14 [(.tup (sD ws), f1), (.int k, f2)] none g = .ok (.lst (mD (lots k ws))) fr g
theorem lots_0 (B : GB G) (n : Nat) : LotsAt G 0 n := by
  intro ws f1 f2 g h5
  refine ⟨true, ?_⟩
  refine fn_ret (n := n) (ds := [.tup (sD ws), .int 0]) (s := [.va (.tup (sD ws)), .va (.int 0), .un, .un, .un]) B.f14 rfl rfl ?_
  have m : mkT [] = some (.tup [], false) := mkT_ok (by decide)
  have m2 : mkL [.tup []] = some (.lst [.tup []], true) := mkL_ok (by decide)
  unfold f14
  simp [evSs, evS, evE, evL, evA, rd, pk, lk, quiet, quietL, looked, isDs, Rs.bind, drf, toB, opt, idxV, idxD, ixOf, clsOf, binD, cmpV, inC, cmpD, biV, biD, bindT, bindTs, setIx, isLs, put, perm, isId, dflOf, permF, isDfl, Re.rs, walkI, walkS, tyIs, prt, slcD, attrD, fldsOf, fGet, viaM, wip, ownT, ownTs, back, notB, isMut, mutD, bmD, args, shp, eqv, m, m2, mD, lots, tS, sD]
theorem lots_1 (B : GB G) (k n : Nat) (IH : LotsAt G k n) : LotsAt G (k + 1) n := by
  intro ws f1 f2 g h5
  refine ⟨false, ?_⟩
  let P : Nat → List (List Wd) := fun j => (List.range j).flatMap fun i => (lots k (ws.drop (i + 1))).map (ws.getD i [] :: ·)
  have P1 : ∀ j, P (j + 1) = P j ++ (lots k (ws.drop (j + 1))).map (ws.getD j [] :: ·) := fun j => by
    show (List.range (j + 1)).flatMap _ = _
    rw [List.range_succ, List.flatMap_append]
    simp [P]
  have Pl : ∀ j, j ≤ ws.length → (P j).length ≤ 5 * 32 := fun j hj => by
    refine Nat.le_trans (flat_le _ 32 _ fun i _ => ?_) (by rw [List.length_range]; exact Nat.mul_le_mul_right _ (by omega))
    rw [List.length_map]
    refine Nat.le_trans (lots_len _ _) (Nat.le_trans (Nat.pow_le_pow_right (by omega) (show _ ≤ 5 from ?_)) (by decide))
    rw [List.length_drop]; omega
  have go := forL_ix (body := fun x s3 => (opt (bindT (.n 3) x s3) s3).bind fun z _ => evSs G (evFn G (n + (k + 1))) none [.set 2 false (.bin .add (.v 2) (.lc (.bin .add (.tup [(.idx (.v 0) (.v 3))]) (.v 4)) (.n 4) (.call 14 [(.slc (.v 0) (.bin .add (.v 3) (.c (.int 1))) (.c .non)), (.bin .sub (.v 1) (.c (.int 1)))] [.inl 0, .inl 1]) []))] z)
    (fun j s => ∃ s3, s = ⟨[.va (.tup (sD ws)), .va (.int (k + 1 : Nat)), .va (.lst (mD (P j))), s3, .un], g⟩) ((List.range ws.length).map fun (k : Nat) => D.int k) 0 ⟨[.va (.tup (sD ws)), .va (.int (k + 1 : Nat)), .va (.lst []), .un, .un], g⟩ ?_ ⟨_, rfl⟩
  · obtain ⟨s', e, s3, rfl⟩ := go
    rw [List.length_map, List.length_range, Nat.zero_add] at e
    have eP : P ws.length = lots (k + 1) ws := (lots_flat k ws).symm
    rw [eP] at e
    refine fn_ret (n := n + (k + 1)) (ds := [.tup (sD ws), .int (k + 1 : Nat)]) (s := [.va (.tup (sD ws)), .va (.int (k + 1 : Nat)), .va (.lst (mD (lots (k + 1) ws))), s3, .un]) B.f14 rfl rfl ?_
    have z0 : (((k + 1 : Nat) : Int) == 0) = false := by simp; omega
    have e1 : evS G (evFn G (n + (k + 1))) none (.ife (.cmp .eq (.v 1) (.c (.int 0))) [.ret (.lst [(.tup [])])] []) ⟨[.va (.tup (sD ws)), .va (.int (k + 1 : Nat)), .un, .un, .un], g⟩ = .ok .nx ⟨[.va (.tup (sD ws)), .va (.int (k + 1 : Nat)), .un, .un, .un], g⟩ := by
      generalize ((k + 1 : Nat) : Int) = q at z0 ⊢
      simp [evSs, evS, evE, evL, evA, rd, pk, lk, quiet, quietL, looked, isDs, Rs.bind, drf, toB, opt, idxV, idxD, ixOf, clsOf, binD, cmpV, inC, cmpD, biV, biD, bindT, bindTs, setIx, isLs, put, perm, isId, dflOf, permF, isDfl, Re.rs, walkI, walkS, tyIs, prt, slcD, attrD, fldsOf, fGet, viaM, wip, ownT, ownTs, back, notB, isMut, mutD, bmD, args, shp, eqv, z0]
    have e2 : evS G (evFn G (n + (k + 1))) none (.set 2 false (.lst [])) ⟨[.va (.tup (sD ws)), .va (.int (k + 1 : Nat)), .un, .un, .un], g⟩ = .ok .nx ⟨[.va (.tup (sD ws)), .va (.int (k + 1 : Nat)), .va (.lst []), .un, .un], g⟩ := by
      simp [evSs, evS, evE, evL, evA, rd, pk, lk, quiet, quietL, looked, isDs, Rs.bind, drf, toB, opt, idxV, idxD, ixOf, clsOf, binD, cmpV, inC, cmpD, biV, biD, bindT, bindTs, setIx, isLs, put, perm, isId, dflOf, permF, isDfl, Re.rs, walkI, walkS, tyIs, prt, slcD, attrD, fldsOf, fGet, viaM, wip, ownT, ownTs, back, notB, isMut, mutD, bmD, args, mkL_ok (xs := []) (by decide)]
    have b3 : evE G (evFn G (n + (k + 1))) none (.rng [(.bi .len [(.v 0)])]) ⟨[.va (.tup (sD ws)), .va (.int (k + 1 : Nat)), .va (.lst []), .un, .un], g⟩ = .ok (.lst ((List.range ws.length).map fun (k : Nat) => .int k), true) ⟨[.va (.tup (sD ws)), .va (.int (k + 1 : Nat)), .va (.lst []), .un, .un], g⟩ := by
      have l1 : evL G (evFn G (n + (k + 1))) none [(.bi .len [(.v 0)])] ⟨[.va (.tup (sD ws)), .va (.int (k + 1 : Nat)), .va (.lst []), .un, .un], g⟩ = .ok [(.int ws.length, false)] ⟨[.va (.tup (sD ws)), .va (.int (k + 1 : Nat)), .va (.lst []), .un, .un], g⟩ := by
        simp [evSs, evS, evE, evL, evA, rd, pk, lk, quiet, quietL, looked, isDs, Rs.bind, drf, toB, opt, idxV, idxD, ixOf, clsOf, binD, cmpV, inC, cmpD, biV, biD, bindT, bindTs, setIx, isLs, put, perm, isId, dflOf, permF, isDfl, Re.rs, walkI, walkS, tyIs, prt, slcD, attrD, fldsOf, fGet, viaM, wip, ownT, ownTs, back, notB, isMut, mutD, bmD, args, biD, sD_len]
      exact e_rng l1 (by omega)
    unfold f14
    refine (ss_nx e1).trans ((ss_nx e2).trans ((ss_nx (s1 := ⟨[.va (.tup (sD ws)), .va (.int (k + 1 : Nat)), .va (.lst (mD (lots (k + 1) ws))), s3, .un], g⟩) ?_).trans (ss_rt ?_)))
    · rw [s_for, b3]
      exact e
    · simp [evS, pk, Rs.bind]
  · rintro j hj s ⟨s3, rfl⟩
    rw [List.length_map, List.length_range] at hj
    rw [Nat.zero_add]
    refine ⟨⟨[.va (.tup (sD ws)), .va (.int (k + 1 : Nat)), .va (.lst (mD (P (j + 1)))), .va (.int j), .un], g⟩, ?_, _, rfl⟩
    obtain ⟨fr, ih⟩ := IH (ws := ws.drop (j + 1)) (f1 := false) (f2 := false) (g := g) (by rw [List.length_drop]; omega)
    have gx : ((List.range ws.length).map fun (k : Nat) => D.int k)[j]'(by simpa using hj) = .int j := by simp
    have gi : ws.getD j [] = ws[j] := by rw [List.getD_eq_getElem?_getD, List.getElem?_eq_getElem hj]; rfl
    have hlt : (j : Int) < ws.length := by omega
    have c2 := cut_lo (xs := sD ws) (k := j + 1) (by rw [sD_len]; omega)
    have c2 : cutD (sD ws) (some ((j : Int) + 1)) none = (sD ws).drop (j + 1) := c2
    have c3 : (sD ws).drop (j + 1) = sD (ws.drop (j + 1)) := by unfold sD; rw [List.map_drop]
    rw [c3] at c2
    have hl : (lots k (ws.drop (j + 1))).length ≤ 32 := by
      refine Nat.le_trans (lots_len _ _) (Nat.le_trans (Nat.pow_le_pow_right (by omega) (show _ ≤ 5 from ?_)) (by decide))
      rw [List.length_drop]; omega
    rw [gx]
    show ((opt (some _) _).bind _) = _
    show evSs G (evFn G (n + (k + 1))) none _ ⟨[.va (.tup (sD ws)), .va (.int (k + 1 : Nat)), .va (.lst (mD (P j))), .va (.int j), .un], g⟩ = _
    have es : ((k + 1 : Nat) : Int) - 1 = k := by omega
    have call : evE G (evFn G (n + (k + 1))) none (.call 14 [(.slc (.v 0) (.bin .add (.v 3) (.c (.int 1))) (.c .non)), (.bin .sub (.v 1) (.c (.int 1)))] [.inl 0, .inl 1]) ⟨[.va (.tup (sD ws)), .va (.int (k + 1 : Nat)), .va (.lst (mD (P j))), .va (.int j), .un], g⟩ = .ok (.lst (mD (lots k (ws.drop (j + 1)))), fr) ⟨[.va (.tup (sD ws)), .va (.int (k + 1 : Nat)), .va (.lst (mD (P j))), .va (.int j), .un], g⟩ := by
      have ih' : evFn G (n + (k + 1)) 14 [(.tup (sD (ws.drop (j + 1))), false), (.int k, false)] none g = .ok (.lst (mD (lots k (ws.drop (j + 1))))) fr g := ih
      generalize ((k + 1 : Nat) : Int) = q at es ⊢
      simp [evSs, evS, evE, evL, evA, rd, pk, lk, quiet, quietL, looked, isDs, Rs.bind, drf, toB, opt, idxV, idxD, ixOf, clsOf, binD, cmpV, inC, cmpD, biV, biD, bindT, bindTs, setIx, isLs, put, perm, isId, dflOf, permF, isDfl, Re.rs, walkI, walkS, tyIs, prt, slcD, attrD, fldsOf, fGet, viaM, wip, ownT, ownTs, back, notB, isMut, mutD, bmD, args, c2, es, ih']
    have lc := lc_0 (G := G) (cf := evFn G (n + (k + 1))) (th := none) (e := .bin .add (.tup [(.idx (.v 0) (.v 3))]) (.v 4)) (it := .call 14 [(.slc (.v 0) (.bin .add (.v 3) (.c (.int 1))) (.c .non)), (.bin .sub (.v 1) (.c (.int 1)))] [.inl 0, .inl 1]) (t := .n 4) (s := ⟨[.va (.tup (sD ws)), .va (.int (k + 1 : Nat)), .va (.lst (mD (P j))), .va (.int j), .un], g⟩) (r := (.lst (mD (lots k (ws.drop (j + 1)))), fr)) (lots k (ws.drop (j + 1))) tS (fun v => tS (ws[j] :: v)) (fun v => ⟨[.va (.tup (sD ws)), .va (.int (k + 1 : Nat)), .va (.lst (mD (P j))), .va (.int j), .va (tS v)], g⟩) (fun _ => false) ((lk_nv (by simp)).trans call) rfl rfl (by unfold big; omega) (fun v _ => rfl) (fun v hv => ?_) (fun _ _ => rfl)
    · have ml : mkL (mD (P j) ++ List.map (fun v => tS (ws[j] :: v)) (lots k (ws.drop (j + 1)))) = some (.lst (mD (P (j + 1))), true) := by
        have e : mD (P j) ++ List.map (fun v => tS (ws[j] :: v)) (lots k (ws.drop (j + 1))) = mD (P (j + 1)) := by
          rw [P1, mD_app, gi]
          unfold mD
          rw [List.map_map]
          rfl
        rw [e]
        refine mkL_ok ?_
        rw [mD_len]
        have := Pl (j + 1) (by omega)
        unfold big; omega
      refine (ss_nx (s1 := ⟨[.va (.tup (sD ws)), .va (.int (k + 1 : Nat)), .va (.lst (mD (P (j + 1)))), .va (.int j), .un], g⟩) ?_).trans ss_nil
      simp only [evS]
      have : evE G (evFn G (n + (k + 1))) none (.bin .add (.v 2) (.lc (.bin .add (.tup [(.idx (.v 0) (.v 3))]) (.v 4)) (.n 4) (.call 14 [(.slc (.v 0) (.bin .add (.v 3) (.c (.int 1))) (.c .non)), (.bin .sub (.v 1) (.c (.int 1)))] [.inl 0, .inl 1]) [])) ⟨[.va (.tup (sD ws)), .va (.int (k + 1 : Nat)), .va (.lst (mD (P j))), .va (.int j), .un], g⟩ = .ok (.lst (mD (P (j + 1))), true) ⟨[.va (.tup (sD ws)), .va (.int (k + 1 : Nat)), .va (.lst (mD (P j))), .va (.int j), .un], g⟩ := by
        exact e_bin (lk_va rfl) ((lk_nv (by simp)).trans lc) (by simp only [binD, drf]; exact ml)
      rw [this]
      rfl
    · have hv5 := ((mem_lots _ _ _).mp hv).1.length_le
      rw [List.length_drop] at hv5
      have m1 : ∀ d : D, mkT [d] = some (.tup [d], false) := fun d => mkT_ok (by simp [big])
      have m2 : mkT (.str ws[j] :: sD v) = some (.tup (sD (ws[j] :: v)), false) := mkT_ok (by rw [List.length_cons, sD_len]; unfold big; omega)
      simp [evSs, evS, evE, evL, evA, rd, pk, lk, quiet, quietL, looked, isDs, Rs.bind, drf, toB, opt, idxV, idxD, ixOf, clsOf, binD, cmpV, inC, cmpD, biV, biD, bindT, bindTs, setIx, isLs, put, perm, isId, dflOf, permF, isDfl, Re.rs, walkI, walkS, tyIs, prt, slcD, attrD, fldsOf, fGet, viaM, wip, ownT, ownTs, back, notB, isMut, mutD, bmD, args, sD_len, sD_get, hj, m1, tS, m2]
theorem lots_of (B : GB G) (n : Nat) : ∀ k : Nat, LotsAt G k n
  | 0 => lots_0 B n
  | k + 1 => lots_1 B k n (lots_of B n k)
theorem all_menus (n : Nat) {ws : List Wd} {f1 : Bool} {g : Gs} (B : GB G) (h2 : 2 ≤ ws.length) (h5 : ws.length ≤ 5) : evFn G (n + 7) 15 [(.tup (sD ws), f1)] none g = .ok (.lst (mD (allM ws))) false g := by
  let P : Nat → List (List Wd) := fun j => (List.range j).flatMap fun i => lots (i + 2) ws
  have P1 : ∀ j, P (j + 1) = P j ++ lots (j + 2) ws := fun j => by
    show (List.range (j + 1)).flatMap _ = _
    rw [List.range_succ, List.flatMap_append]
    simp [P]
  have Pl : ∀ j, j ≤ ws.length → (P j).length ≤ 5 * 32 := fun j hj => by
    refine Nat.le_trans (flat_le _ 32 _ fun i _ => ?_) (by rw [List.length_range]; exact Nat.mul_le_mul_right _ (by omega))
    exact Nat.le_trans (lots_len _ _) (Nat.le_trans (Nat.pow_le_pow_right (by omega) h5) (by decide))
  let R : List D := (List.range (ws.length - 1)).map fun (k : Nat) => D.int (2 + k)
  have Rl : R.length = ws.length - 1 := by simp [R]
  have go := forL_ix (body := fun x s3 => (opt (bindT (.n 2) x s3) s3).bind fun z _ => evSs G (evFn G (n + 6)) none [.set 1 false (.bin .add (.v 1) (.call 14 [(.v 0), (.v 2)] [.inl 0, .inl 1]))] z)
    (fun j s => ∃ s3, s = ⟨[.va (.tup (sD ws)), .va (.lst (mD (P j))), s3], g⟩) R 0 ⟨[.va (.tup (sD ws)), .va (.lst []), .un], g⟩ ?_ ⟨_, rfl⟩
  · obtain ⟨s', e, s3, rfl⟩ := go
    rw [Rl, Nat.zero_add] at e
    have eP : P (ws.length - 1) = allM ws := rfl
    rw [eP] at e
    refine fn_ret (n := n + 6) (ds := [.tup (sD ws)]) (s := [.va (.tup (sD ws)), .va (.lst (mD (allM ws))), s3]) B.f15 rfl rfl ?_
    have e2 : evS G (evFn G (n + 6)) none (.set 1 false (.lst [])) ⟨[.va (.tup (sD ws)), .un, .un], g⟩ = .ok .nx ⟨[.va (.tup (sD ws)), .va (.lst []), .un], g⟩ := by
      simp [evSs, evS, evE, evL, evA, rd, pk, lk, quiet, quietL, looked, isDs, Rs.bind, drf, toB, opt, idxV, idxD, ixOf, clsOf, binD, cmpV, inC, cmpD, biV, biD, bindT, bindTs, setIx, isLs, put, perm, isId, dflOf, permF, isDfl, Re.rs, walkI, walkS, tyIs, prt, slcD, attrD, fldsOf, fGet, viaM, wip, ownT, ownTs, back, notB, isMut, mutD, bmD, args, mkL_ok (xs := []) (by decide)]
    have b3 : evE G (evFn G (n + 6)) none (.rng [(.c (.int 2)), (.bin .add (.bi .len [(.v 0)]) (.c (.int 1)))]) ⟨[.va (.tup (sD ws)), .va (.lst []), .un], g⟩ = .ok (.lst R, true) ⟨[.va (.tup (sD ws)), .va (.lst []), .un], g⟩ := by
      have l1 : evL G (evFn G (n + 6)) none [(.c (.int 2)), (.bin .add (.bi .len [(.v 0)]) (.c (.int 1)))] ⟨[.va (.tup (sD ws)), .va (.lst []), .un], g⟩ = .ok [(.int 2, false), (.int (ws.length + 1), false)] ⟨[.va (.tup (sD ws)), .va (.lst []), .un], g⟩ := by
        simp [evSs, evS, evE, evL, evA, rd, pk, lk, quiet, quietL, looked, isDs, Rs.bind, drf, toB, opt, idxV, idxD, ixOf, clsOf, binD, cmpV, inC, cmpD, biV, biD, bindT, bindTs, setIx, isLs, put, perm, isId, dflOf, permF, isDfl, Re.rs, walkI, walkS, tyIs, prt, slcD, attrD, fldsOf, fGet, viaM, wip, ownT, ownTs, back, notB, isMut, mutD, bmD, args, biD, sD_len]
      refine e_rngs l1 (l := R) ?_ (mkL_ok (by rw [Rl]; unfold big; omega))
      show rngD [.int 2, .int (ws.length + 1)] = some R
      rw [rng2 (by omega) (by omega) (by omega) (by omega), show ((ws.length : Int) + 1 - 2).toNat = ws.length - 1 by omega]
    unfold f15
    refine (ss_nx e2).trans ((ss_nx (s1 := ⟨[.va (.tup (sD ws)), .va (.lst (mD (allM ws))), s3], g⟩) ?_).trans (ss_rt ?_))
    · rw [s_for, b3]
      exact e
    · simp [evS, pk, Rs.bind]
  · rintro j hj s ⟨s3, rfl⟩
    rw [Rl] at hj
    rw [Nat.zero_add]
    refine ⟨⟨[.va (.tup (sD ws)), .va (.lst (mD (P (j + 1)))), .va (.int (2 + j))], g⟩, ?_, _, rfl⟩
    obtain ⟨fr, e⟩ := lots_of (G := G) B (n + 6 - (j + 3)) (j + 2) (ws := ws) (f1 := false) (f2 := false) (g := g) h5
    rw [show n + 6 - (j + 3) + (j + 2) + 1 = n + 6 by omega] at e
    have e' : evFn G (n + 6) 14 [(.tup (sD ws), false), (.int (2 + j), false)] none g = .ok (.lst (mD (lots (j + 2) ws))) fr g := by
      rw [show (2 + (j : Int)) = ((j + 2 : Nat) : Int) by omega]
      exact e
    have gx : R[j]'(by rw [Rl]; exact hj) = .int (2 + j) := by simp [R]
    rw [gx]
    show evSs G (evFn G (n + 6)) none _ ⟨[.va (.tup (sD ws)), .va (.lst (mD (P j))), .va (.int (2 + j))], g⟩ = _
    have ml : mkL (mD (P j) ++ mD (lots (j + 2) ws)) = some (.lst (mD (P (j + 1))), true) := by
      rw [← mD_app, ← P1]
      refine mkL_ok ?_
      rw [mD_len]
      have := Pl (j + 1) (by omega)
      unfold big; omega
    generalize (2 + (j : Int)) = q at e' ⊢
    simp [evSs, evS, evE, evL, evA, rd, pk, lk, quiet, quietL, looked, isDs, Rs.bind, drf, toB, opt, idxV, idxD, ixOf, clsOf, binD, cmpV, inC, cmpD, biV, biD, bindT, bindTs, setIx, isLs, put, perm, isId, dflOf, permF, isDfl, Re.rs, walkI, walkS, tyIs, prt, slcD, attrD, fldsOf, fGet, viaM, wip, ownT, ownTs, back, notB, isMut, mutD, bmD, args, e', ml]
end PX
end

section
set_option autoImplicit false
set_option linter.all false
set_option maxRecDepth 100000
set_option maxHeartbeats 4000000
/-! P13: a book. -/
namespace PX
open PC PF
variable {G : Gl} {cf : CF} {th : Option (Gs → Re)}
theorem g_last (g : Gs) (c : Cl) : (g ++ [c])[g.length]? = some c := by simp
theorem g_set (g : Gs) (c d : Cl) : (g ++ [c]).set g.length d = g ++ [d] := by simp
/-- the told menus in the order of all -/
def byM (ws : List Wd) (ls : List Lne) : List (List Wd × Wd) := ((allM ws).filter fun m => ((tab ws ls).map (·.1)).contains m).map fun m => (m, ((tab ws ls).lookup m).getD [])
theorem dc_run {s : St} {step : D → List (D × D) → St → Rs (List (D × D))} (q : List Wd → Bool) (v : List Wd → Wd) : ∀ (as : List (List Wd)) (ps : List (List Wd × Wd)), (∀ m ∈ as, ∀ ps : List (List Wd × Wd), ps.length < 1000 → m ∉ ps.map (·.1) → step (tS m) (kv ps) s = .ok (kv (if q m = true then ps ++ [(m, v m)] else ps)) s) → ps.length + as.length ≤ 1000 → (ps.map (·.1) ++ as).Nodup → lcK step (mD as) (kv ps) s = .ok (kv (ps ++ (as.filter q).map fun m => (m, v m))) s
  | [], ps, _, _, _ => by simp [mD, lcK]
  | m :: as, ps, h, hl, hn => by
    rw [List.length_cons] at hl
    have hm : m ∉ ps.map (·.1) := fun z => (List.nodup_append.mp hn).2.2 m z m List.mem_cons_self rfl
    show ((step (tS m) (kv ps) s).bind _) = _
    rw [h m List.mem_cons_self ps (by omega) hm]
    show lcK step (mD as) _ s = _
    by_cases c : q m = true
    · rw [if_pos c, dc_run q v as _ (fun a ha => h a (List.mem_cons_of_mem _ ha)) (by rw [List.length_append, List.length_singleton]; omega) (by simpa using hn), List.filter_cons, if_pos c]
      simp
    · rw [if_neg c, dc_run q v as _ (fun a ha => h a (List.mem_cons_of_mem _ ha)) (by omega) (hn.sublist (List.Sublist.append_left (List.sublist_cons_self m as) _)), List.filter_cons, if_neg c]
/-- a book's fields -/
def bF (ws : List Wd) (ls : List Lne) : List (Nat × D) := [(0, .tup (sD ws)), (1, .tup (lD ls)), (2, .tup (mD (allM ws))), (3, .dct (kv (byM ws ls)))]
/-- a book -/
def Bo (ws : List Wd) (ls : List Lne) : D := .obj 29 (bF ws ls)
theorem allM_nm {ws : List Wd} (hw : Ws ws) {m : List Wd} (h : m ∈ allM ws) : (∀ w ∈ m, Nm w) ∧ m ≠ [] := by
  obtain ⟨a, b⟩ := mem_allM.mp h
  exact ⟨fun w hw' => hw.nm w (a.subset hw'), fun z => by rw [z] at b; simp at b⟩
theorem s_ex {e : E} {s s1 : St} {r : D × Bool} (h : evE G cf th e s = .ok r s1) : evS G cf th (.ex e) s = .ok .nx s1 := by
  simp only [evS]
  rw [h]
  rfl
theorem s_set {x : Nat} {mk : Bool} {e : E} {s s1 : St} {r : D × Bool} (h : evE G cf th e s = .ok r s1) : evS G cf th (.set x mk e) s = .ok .nx ⟨PC.put x mk r s1.s, s1.g⟩ := by
  simp only [evS]
  rw [h]
  rfl
theorem book_init (n : Nat) {ws : List Wd} {ls : List Lne} {f0 f1 f2 : Bool} {g : Gs} (B : GB G) (hw : Ws ws) (h : Ls ws ls) : evFn G (n + 8) 16 [(.cell g.length, f0), (.tup (sD ws), f1), (.tup (lD ls), f2)] none (g ++ [.inst 29 []]) = .ok .non false (g ++ [.inst 29 (bF ws ls)]) := by
  have ct := check_things (G := G) (n + 5) (fr := false) (g := g ++ [.inst 29 []]) B.f8 B.f9 hw
  have lt := lines_told (G := G) (n + 3) (f1 := false) (f2 := false) (g := g ++ [.inst 29 []]) B hw h
  have am := all_menus (G := G) n (f1 := false) (g := g ++ [.inst 29 [(0, .tup (sD ws)), (1, .tup (lD ls))]]) B hw.lo hw.hi
  have a2 := B.a2
  let T : D := .dct (kv (tab ws ls))
  refine fn_non (n := n + 7) (ds := [.cell g.length, .tup (sD ws), .tup (lD ls)]) (s := [.va (.cell g.length), .va (.tup (sD ws)), .va (.tup (lD ls)), .va T, .un]) B.f16 rfl rfl ?_ (by simp)
  have e1 : evS G (evFn G (n + 7)) none (.ex (.call 9 [(.v 1)] [.inl 0])) ⟨[.va (.cell g.length), .va (.tup (sD ws)), .va (.tup (lD ls)), .un, .un], g ++ [.inst 29 []]⟩ = .ok .nx ⟨[.va (.cell g.length), .va (.tup (sD ws)), .va (.tup (lD ls)), .un, .un], g ++ [.inst 29 []]⟩ := by
    simp [evSs, evS, evE, evL, evA, rd, pk, lk, quiet, quietL, looked, isDs, Rs.bind, drf, toB, opt, idxV, idxD, ixOf, clsOf, binD, cmpV, inC, cmpD, biV, biD, bindT, bindTs, setIx, isLs, put, perm, isId, dflOf, permF, isDfl, Re.rs, walkI, walkS, tyIs, prt, slcD, attrD, fldsOf, fGet, viaM, wip, ownT, ownTs, back, notB, isMut, mutD, bmD, args, ct]
  have e2 : evS G (evFn G (n + 7)) none (.set 3 false (.call 13 [(.v 1), (.v 2)] [.inl 0, .inl 1])) ⟨[.va (.cell g.length), .va (.tup (sD ws)), .va (.tup (lD ls)), .un, .un], g ++ [.inst 29 []]⟩ = .ok .nx ⟨[.va (.cell g.length), .va (.tup (sD ws)), .va (.tup (lD ls)), .va T, .un], g ++ [.inst 29 []]⟩ := by
    simp [evSs, evS, evE, evL, evA, rd, pk, lk, quiet, quietL, looked, isDs, Rs.bind, drf, toB, opt, idxV, idxD, ixOf, clsOf, binD, cmpV, inC, cmpD, biV, biD, bindT, bindTs, setIx, isLs, put, perm, isId, dflOf, permF, isDfl, Re.rs, walkI, walkS, tyIs, prt, slcD, attrD, fldsOf, fGet, viaM, wip, ownT, ownTs, back, notB, isMut, mutD, bmD, args, lt, T]
  have e3 : evS G (evFn G (n + 7)) none (.setF (.v 0) 0 (.v 1)) ⟨[.va (.cell g.length), .va (.tup (sD ws)), .va (.tup (lD ls)), .va T, .un], g ++ [.inst 29 []]⟩ = .ok .nx ⟨[.va (.cell g.length), .va (.tup (sD ws)), .va (.tup (lD ls)), .va T, .un], g ++ [.inst 29 [(0, .tup (sD ws))]]⟩ := by
    simp [evSs, evS, evE, evL, evA, rd, pk, lk, quiet, quietL, looked, isDs, Rs.bind, drf, toB, opt, idxV, idxD, ixOf, clsOf, binD, cmpV, inC, cmpD, biV, biD, bindT, bindTs, setIx, isLs, put, perm, isId, dflOf, permF, isDfl, Re.rs, walkI, walkS, tyIs, prt, slcD, attrD, fldsOf, fGet, viaM, wip, ownT, ownTs, back, notB, isMut, mutD, bmD, args, g_last, g_set, fPut]
  have e4 : evS G (evFn G (n + 7)) none (.setF (.v 0) 1 (.v 2)) ⟨[.va (.cell g.length), .va (.tup (sD ws)), .va (.tup (lD ls)), .va T, .un], g ++ [.inst 29 [(0, .tup (sD ws))]]⟩ = .ok .nx ⟨[.va (.cell g.length), .va (.tup (sD ws)), .va (.tup (lD ls)), .va T, .un], g ++ [.inst 29 [(0, .tup (sD ws)), (1, .tup (lD ls))]]⟩ := by
    simp [evSs, evS, evE, evL, evA, rd, pk, lk, quiet, quietL, looked, isDs, Rs.bind, drf, toB, opt, idxV, idxD, ixOf, clsOf, binD, cmpV, inC, cmpD, biV, biD, bindT, bindTs, setIx, isLs, put, perm, isId, dflOf, permF, isDfl, Re.rs, walkI, walkS, tyIs, prt, slcD, attrD, fldsOf, fGet, viaM, wip, ownT, ownTs, back, notB, isMut, mutD, bmD, args, g_last, g_set, fPut]
  have e5 : evS G (evFn G (n + 7)) none (.setF (.v 0) 2 (.bi .tuple [(.call 15 [(.v 1)] [.inl 0])])) ⟨[.va (.cell g.length), .va (.tup (sD ws)), .va (.tup (lD ls)), .va T, .un], g ++ [.inst 29 [(0, .tup (sD ws)), (1, .tup (lD ls))]]⟩ = .ok .nx ⟨[.va (.cell g.length), .va (.tup (sD ws)), .va (.tup (lD ls)), .va T, .un], g ++ [.inst 29 [(0, .tup (sD ws)), (1, .tup (lD ls)), (2, .tup (mD (allM ws)))]]⟩ := by
    simp [evSs, evS, evE, evL, evA, rd, pk, lk, quiet, quietL, looked, isDs, Rs.bind, drf, toB, opt, idxV, idxD, ixOf, clsOf, binD, cmpV, inC, cmpD, biV, biD, bindT, bindTs, setIx, isLs, put, perm, isId, dflOf, permF, isDfl, Re.rs, walkI, walkS, tyIs, prt, slcD, attrD, fldsOf, fGet, viaM, wip, ownT, ownTs, back, notB, isMut, mutD, bmD, args, g_last, g_set, fPut, am, biD]
  have e6 : evS G (evFn G (n + 7)) none (.setF (.v 0) 3 (.dc (.v 4) (.idx (.v 3) (.v 4)) (.n 4) (.attr (.v 0) 2) [(.cmp .in_ (.v 4) (.v 3))])) ⟨[.va (.cell g.length), .va (.tup (sD ws)), .va (.tup (lD ls)), .va T, .un], g ++ [.inst 29 [(0, .tup (sD ws)), (1, .tup (lD ls)), (2, .tup (mD (allM ws)))]]⟩ = .ok .nx ⟨[.va (.cell g.length), .va (.tup (sD ws)), .va (.tup (lD ls)), .va T, .un], g ++ [.inst 29 (bF ws ls)]⟩ := by
    have ed : evE G (evFn G (n + 7)) none (.dc (.v 4) (.idx (.v 3) (.v 4)) (.n 4) (.attr (.v 0) 2) [(.cmp .in_ (.v 4) (.v 3))]) ⟨[.va (.cell g.length), .va (.tup (sD ws)), .va (.tup (lD ls)), .va T, .un], g ++ [.inst 29 [(0, .tup (sD ws)), (1, .tup (lD ls)), (2, .tup (mD (allM ws)))]]⟩ = .ok (.dct (kv (byM ws ls)), true) ⟨[.va (.cell g.length), .va (.tup (sD ws)), .va (.tup (lD ls)), .va T, .un], g ++ [.inst 29 [(0, .tup (sD ws)), (1, .tup (lD ls)), (2, .tup (mD (allM ws)))]]⟩ := by
      have ei : evE G (evFn G (n + 7)) none (.attr (.v 0) 2) ⟨[.va (.cell g.length), .va (.tup (sD ws)), .va (.tup (lD ls)), .va T, .un], g ++ [.inst 29 [(0, .tup (sD ws)), (1, .tup (lD ls)), (2, .tup (mD (allM ws)))]]⟩ = .ok (.tup (mD (allM ws)), false) ⟨[.va (.cell g.length), .va (.tup (sD ws)), .va (.tup (lD ls)), .va T, .un], g ++ [.inst 29 [(0, .tup (sD ws)), (1, .tup (lD ls)), (2, .tup (mD (allM ws)))]]⟩ := by
        simp [evSs, evS, evE, evL, evA, rd, pk, lk, quiet, quietL, looked, isDs, Rs.bind, drf, toB, opt, idxV, idxD, ixOf, clsOf, binD, cmpV, inC, cmpD, biV, biD, bindT, bindTs, setIx, isLs, put, perm, isId, dflOf, permF, isDfl, Re.rs, walkI, walkS, tyIs, prt, slcD, attrD, fldsOf, fGet, viaM, wip, ownT, ownTs, back, notB, isMut, mutD, bmD, args, g_last, a2]
      rw [evE, ei]
      show ((lcK _ (mD (allM ws)) [] _).bind _) = _
      rw [show ([] : List (D × D)) = kv [] from rfl, dc_run (fun m => ((tab ws ls).map (·.1)).contains m) (fun m => ((tab ws ls).lookup m).getD []) (allM ws) [] ?_ ?_ ?_]
      · rfl
      · intro m hm ps hp hn
        obtain ⟨hm1, hm2⟩ := allM_nm hw hm
        have i := inD_kv m (tab ws ls)
        have gt := dGet_kv m (tab ws ls)
        have kf := keyFor_kv m (tab ws ls)
        have sd := setD_kv (x := ((tab ws ls).lookup m).getD []) hm1 hm2 (ps := ps) (by unfold big; omega) hn
        have ls' := lookup_some m (tab ws ls)
        cases c : ((tab ws ls).map (·.1)).contains m with
        | true =>
          rw [c] at i ls'
          obtain ⟨v, hv⟩ := Option.isSome_iff_exists.mp ls'
          rw [hv] at gt sd
          simp only [Option.map_some, Option.getD_some] at gt sd
          simp [evSs, evS, evE, evL, evA, rd, pk, lk, quiet, quietL, looked, isDs, Rs.bind, drf, toB, opt, idxV, idxD, ixOf, clsOf, binD, cmpV, inC, cmpD, biV, biD, bindT, bindTs, setIx, isLs, put, perm, isId, dflOf, permF, isDfl, Re.rs, walkI, walkS, tyIs, prt, slcD, attrD, fldsOf, fGet, viaM, wip, ownT, ownTs, back, notB, isMut, mutD, bmD, args, T, i, gt, kf, hv, sd]
        | false =>
          rw [c] at i
          simp [evSs, evS, evE, evL, evA, rd, pk, lk, quiet, quietL, looked, isDs, Rs.bind, drf, toB, opt, idxV, idxD, ixOf, clsOf, binD, cmpV, inC, cmpD, biV, biD, bindT, bindTs, setIx, isLs, put, perm, isId, dflOf, permF, isDfl, Re.rs, walkI, walkS, tyIs, prt, slcD, attrD, fldsOf, fGet, viaM, wip, ownT, ownTs, back, notB, isMut, mutD, bmD, args, T, i]
      · have := allM_len hw.hi
        simp
        omega
      · simpa using allM_nodup hw.nd
    simp only [evS]
    rw [ed]
    simp [evE, rd, Rs.bind, g_last, g_set, fPut, bF]
  unfold f16
  exact (ss_nx e1).trans ((ss_nx e2).trans ((ss_nx e3).trans ((ss_nx e4).trans ((ss_nx e5).trans ((ss_nx e6).trans ss_nil)))))
/-! ### what holds no cells -/
theorem below_sD (n : Nat) : ∀ ws : List Wd, belowL n (sD ws) = true
  | [] => rfl
  | w :: ws => by show (below n (.str w) && belowL n (sD ws)) = true; rw [below_sD n ws]; rfl
theorem below_lD (n : Nat) (ls : List Lne) : belowL n (lD ls) = true := by
  have := below_sD n (ls.map lt)
  unfold sD at this
  rw [List.map_map] at this
  exact this
theorem below_tS (n : Nat) (ws : List Wd) : below n (tS ws) = true := by
  unfold tS
  simp only [below, below_sD]
theorem below_mD (n : Nat) : ∀ ms : List (List Wd), belowL n (mD ms) = true
  | [] => rfl
  | m :: ms => by show (below n (tS m) && belowL n (mD ms)) = true; rw [below_mD n ms, below_tS]; rfl
theorem below_kv (n : Nat) : ∀ ps : List (List Wd × Wd), belowK n (kv ps) = true
  | [] => rfl
  | p :: ps => by show ((below n (tS p.1) && below n (.str p.2)) && belowK n (kv ps)) = true; rw [below_kv n ps, below_tS]; rfl
theorem below_bF (n : Nat) (ws : List Wd) (ls : List Lne) : belowF n (bF ws ls) = true := by
  simp only [bF, belowF, belowNF, below, below_sD, below_lD, below_mD, below_kv, Bool.and_self]
/-- a store whose cells see only cells of it -/
def gk (g : Gs) : Prop := g.all (clB g.length) = true
theorem gk_pu (a b z : Int) : gk (pu a b z) := rfl
theorem make_book (n : Nat) {ws : List Wd} {ls : List Lne} {f1 f2 : Bool} {s : Sg} {g : Gs} (B : GB G) (hw : Ws ws) (h : Ls ws ls) (hg : gk g) : makeD G (evFn G (n + 8)) 29 [(.tup (sD ws), f1), (.tup (lD ls), f2)] ⟨s, g⟩ = .ok (Bo ws ls, false) ⟨s, g⟩ := by
  have e := book_init (G := G) n (f0 := false) (f1 := f1) (f2 := f2) (g := g) B hw h
  have hg' : ((g ++ [Cl.inst 29 (bF ws ls)]).take g.length).all (clB g.length) = true := by
    rw [List.take_left' rfl]
    exact hg
  simp only [makeD, B.exc, B.ini, e, B.val, if_true, g_last, below_bF]
  rw [if_pos]
  · rw [List.take_left' rfl]
    rfl
  · simp only [hg', List.length_append, List.length_singleton]
    simp
end PX
end

section
set_option autoImplicit false
set_option linter.all false
set_option maxRecDepth 100000
set_option maxHeartbeats 4000000
/-! P14: what a book tells. -/
namespace PX
open PC PF
variable {G : Gl} {cf : CF} {th : Option (Gs → Re)}
theorem ord_sub {ws : List Wd} {v : List Wd} (h : v.Sublist ws) (hn : ws.Nodup) : ord ws v = v := by
  unfold ord
  induction h with
  | slnil => rfl
  | @cons l1 l2 a h ih =>
    rw [List.nodup_cons] at hn
    have c : (l1.contains a) = false := by
      rw [Bool.eq_false_iff]
      exact fun z => hn.1 (h.subset (List.contains_iff_mem.mp z))
    rw [List.filter_cons, c]
    exact ih hn.2
  | @cons_cons l1 l2 a h ih =>
    rw [List.nodup_cons] at hn
    rw [List.filter_cons]
    simp only [List.contains_cons, beq_self_eq_true, Bool.true_or, if_true]
    congr 1
    refine Eq.trans ?_ (ih hn.2)
    refine List.filter_congr fun x hx => ?_
    have : (x == a) = false := by simp; exact fun z => hn.1 (z ▸ hx)
    rw [this, Bool.false_or]
theorem ord_mem {ws : List Wd} {l : Lne} (hw : Ws ws) (h : Ln ws l) : ord ws l.1 ∈ allM ws := by
  refine mem_allM.mpr ⟨List.filter_sublist, ?_⟩
  rw [(ord_perm hw.nd h.nd h.sub).length_eq]
  exact h.lo
/-- the menus that are told -/
def told (ws : List Wd) (ls : List Lne) : List (List Wd) := (allM ws).filter fun m => ((tab ws ls).map (·.1)).contains m
theorem byM_keys (ws : List Wd) (ls : List Lne) : (byM ws ls).map (·.1) = told ws ls := by
  unfold byM told
  rw [List.map_map]
  exact List.map_id' _
theorem tab_keys (ws : List Wd) (ls : List Lne) : (tab ws ls).map (·.1) = ls.map fun l => ord ws l.1 := by unfold tab; rw [List.map_map]; rfl
theorem mem_told {ws : List Wd} {ls : List Lne} (hw : Ws ws) (h : ∀ l ∈ ls, Ln ws l) {m : List Wd} : m ∈ told ws ls ↔ ∃ l ∈ ls, ord ws l.1 = m := by
  unfold told
  rw [List.mem_filter, List.contains_iff_mem, tab_keys, List.mem_map]
  refine ⟨fun z => z.2, fun z => ⟨?_, z⟩⟩
  obtain ⟨l, hl, rfl⟩ := z
  exact ord_mem hw (h l hl)
theorem lookup_map {β : Type} (f : List Wd → β) (m : List Wd) : ∀ ms : List (List Wd), (ms.map fun x => (x, f x)).lookup m = if m ∈ ms then some (f m) else none
  | [] => rfl
  | x :: ms => by
    rw [List.map_cons, List.lookup_cons, lookup_map f m ms]
    by_cases c : m = x
    · subst c; simp
    · have c2 : (m == x) = false := by simp; exact c
      rw [c2]
      simp only [List.mem_cons, c, false_or]
theorem lookup_byM {ws : List Wd} {ls : List Lne} (hw : Ws ws) (h : ∀ l ∈ ls, Ln ws l) (m : List Wd) : (byM ws ls).lookup m = (tab ws ls).lookup m := by
  have e : byM ws ls = (told ws ls).map fun m => (m, ((tab ws ls).lookup m).getD []) := rfl
  rw [e, lookup_map]
  have s := lookup_some m (tab ws ls)
  have mt : m ∈ told ws ls ↔ ((tab ws ls).map (·.1)).contains m = true := by
    rw [mem_told hw h, List.contains_iff_mem, tab_keys, List.mem_map]
  by_cases c : m ∈ told ws ls
  · rw [if_pos c]
    rw [mt.mp c] at s
    obtain ⟨v, hv⟩ := Option.isSome_iff_exists.mp s
    rw [hv]
    rfl
  · rw [if_neg c]
    have : ((tab ws ls).map (·.1)).contains m = false := by rw [Bool.eq_false_iff]; exact fun z => c (mt.mpr z)
    rw [this] at s
    cases hx : (tab ws ls).lookup m with
    | none => rfl
    | some v => rw [hx] at s; cases s
/-! ### comparing data -/
def plainV : D → Bool
  | .obj _ _ => false
  | .cell _ => false
  | _ => true
theorem plain_cls {g : Gs} {x : D} (h : plainV x = true) : clsOf g x = none := by cases x <;> first | rfl | cases h
theorem e_cmp {o : COp} {a b : E} {s s1 s2 : St} {x y : D} {f1 f2 k : Bool} (h1 : lk (quiet b) a s (evE G cf th a s) = .ok (x, f1) s1) (h2 : lk true b s1 (evE G cf th b s1) = .ok (y, f2) s2) (hx : plainV x = true) (hy : plainV y = true) (h3 : cmpD o x y = some k) : evE G cf th (.cmp o a b) s = .ok (.bl k, false) s2 := by
  have hi : inC o s2.g x y = false := by
    cases o <;> simp only [inC, plain_cls hx, Option.isSome_none]
    · cases y <;> first | rfl | cases hy
    · cases y <;> first | rfl | cases hy
  have hd : ∀ g, drf g y = y := fun g => by cases y <;> first | rfl | cases hy
  rw [evE, h1]
  show ((lk true b s1 _).bind _) = _
  rw [h2]
  show (if (inC o s2.g x y && _) = true then _ else cmpV G cf o (x, f1) (y, f2) s2) = _
  rw [hi, Bool.false_and, if_neg (by decide)]
  unfold cmpV
  split
  all_goals first | (rename_i e; simp only at e; subst e; cases hx) | skip
  all_goals first | (rename_i e _; simp only at e; subst e; cases hx) | skip
  all_goals first | (rename_i e; simp only at e; subst e; cases hy) | skip
  simp only [h3, opt, Rs.bind]
/-! ### attributes -/
theorem e_fld {e : E} {s s1 : St} {ws : List Wd} {ls : List Lne} {fr : Bool} {f : Nat} {d : D} (h : evE G cf th e s = .ok (Bo ws ls, fr) s1) (ha : G.at_ 29 f = some .fld) (hf : fGet (bF ws ls) f = some d) : evE G cf th (.attr e f) s = .ok (d, false) s1 := by
  rw [evE, h]
  simp [Rs.bind, attrD, Bo, clsOf, fldsOf, ha, opt, hf]
theorem e_prop {e : E} {s s1 : St} {ws : List Wd} {ls : List Lne} {fr k : Bool} {f p : Nat} {d : D} (h : evE G cf th e s = .ok (Bo ws ls, fr) s1) (ha : G.at_ 29 f = some (.prop p)) (hf : cf p [(Bo ws ls, false)] none s1.g = .ok d k s1.g) : evE G cf th (.attr e f) s = .ok (d, k) s1 := by
  rw [evE, h]
  unfold Bo at hf
  simp [Rs.bind, attrD, Bo, clsOf, fldsOf, ha, hf, Re.rs]
theorem g_things (n : Nat) {ws : List Wd} {ls : List Lne} {fr : Bool} {g : Gs} (B : GB G) (h : G.fn 18 = some f18) : evFn G (n + 1) 18 [(Bo ws ls, fr)] none g = .ok (.tup (sD ws)) false g :=
  fn_ret (ds := [Bo ws ls]) (s := [.va (Bo ws ls)]) h rfl rfl (show evSs G (evFn G n) none f18.body ⟨[.va (Bo ws ls)], g⟩ = _ from ss_rt (s_ret (e_fld (ws := ws) (ls := ls) (fr := false) (by simp [evE, rd]) B.a0 rfl) (by simp)))
theorem g_lines (n : Nat) {ws : List Wd} {ls : List Lne} {fr : Bool} {g : Gs} (B : GB G) (h : G.fn 19 = some f19) : evFn G (n + 1) 19 [(Bo ws ls, fr)] none g = .ok (.tup (lD ls)) false g :=
  fn_ret (ds := [Bo ws ls]) (s := [.va (Bo ws ls)]) h rfl rfl (show evSs G (evFn G n) none f19.body ⟨[.va (Bo ws ls)], g⟩ = _ from ss_rt (s_ret (e_fld (ws := ws) (ls := ls) (fr := false) (by simp [evE, rd]) B.a1 rfl) (by simp)))
theorem g_menus (n : Nat) {ws : List Wd} {ls : List Lne} {fr : Bool} {g : Gs} (B : GB G) (h : G.fn 20 = some f20) : evFn G (n + 1) 20 [(Bo ws ls, fr)] none g = .ok (.tup (mD (allM ws))) false g :=
  fn_ret (ds := [Bo ws ls]) (s := [.va (Bo ws ls)]) h rfl rfl (show evSs G (evFn G n) none f20.body ⟨[.va (Bo ws ls)], g⟩ = _ from ss_rt (s_ret (e_fld (ws := ws) (ls := ls) (fr := false) (by simp [evE, rd]) B.a2 rfl) (by simp)))
theorem kv_keys (ps : List (List Wd × Wd)) : (kv ps).map (·.1) = mD (ps.map (·.1)) := by unfold kv mD; rw [List.map_map, List.map_map]; rfl
theorem e_bi1 {b : Bi} {x : E} {s s1 : St} {d : D} {fr : Bool} {r : D × Bool} (h : lk true x s (evE G cf th x s) = .ok (d, fr) s1) (hc : clsOf s1.g d = none) (hb : biD b [drf s1.g d] = some r) : evE G cf th (.bi b [x]) s = .ok r s1 := by
  rw [e_bi h]
  simp only [biV, hc, hb, opt]
theorem g_told (n : Nat) {ws : List Wd} {ls : List Lne} {fr : Bool} {g : Gs} (B : GB G) (h : G.fn 21 = some f21) : evFn G (n + 1) 21 [(Bo ws ls, fr)] none g = .ok (.tup (mD (told ws ls))) false g := by
  refine fn_ret (ds := [Bo ws ls]) (s := [.va (Bo ws ls)]) h rfl rfl (show evSs G (evFn G n) none f21.body ⟨[.va (Bo ws ls)], g⟩ = _ from ss_rt (s_ret (e_bi1 ((lk_nv (by simp)).trans (e_fld (ws := ws) (ls := ls) (fr := false) (by simp [evE, rd]) B.a3 rfl)) rfl ?_) (by simp)))
  simp only [drf, biD, kv_keys, byM_keys]
theorem g_whole (n : Nat) {ws : List Wd} {ls : List Lne} {fr : Bool} {g : Gs} (B : GB G) (h : G.fn 52 = some f52) : evFn G (n + 1) 52 [(Bo ws ls, fr)] none g = .ok (.bl ((told ws ls).length == (allM ws).length)) false g := by
  have e : (kv (byM ws ls)).length = (told ws ls).length := by rw [← byM_keys, List.length_map]; unfold kv; rw [List.length_map]
  refine fn_ret (ds := [Bo ws ls]) (s := [.va (Bo ws ls)]) h rfl rfl (show evSs G (evFn G n) none f52.body ⟨[.va (Bo ws ls)], g⟩ = _ from ss_rt (s_ret (s1 := ⟨[.va (Bo ws ls)], g⟩) ?_ (by simp)))
  have e1 : evE G (evFn G n) none (.bi .len [(.attr (.v 0) 3)]) ⟨[.va (Bo ws ls)], g⟩ = .ok (.int (told ws ls).length, false) ⟨[.va (Bo ws ls)], g⟩ :=
    e_bi1 ((lk_nv (by simp)).trans (e_fld (ws := ws) (ls := ls) (fr := false) (by simp [evE, rd]) B.a3 rfl)) rfl (by simp only [drf, biD, e])
  have e2 : evE G (evFn G n) none (.bi .len [(.attr (.v 0) 2)]) ⟨[.va (Bo ws ls)], g⟩ = .ok (.int (allM ws).length, false) ⟨[.va (Bo ws ls)], g⟩ :=
    e_bi1 ((lk_nv (by simp)).trans (e_fld (ws := ws) (ls := ls) (fr := false) (by simp [evE, rd]) B.a2 rfl)) rfl (by simp only [drf, biD, mD_len])
  have z : (((told ws ls).length : Int) == (allM ws).length) = ((told ws ls).length == (allM ws).length) := by
    rw [Bool.eq_iff_iff, beq_iff_eq, beq_iff_eq]
    omega
  exact e_cmp ((lk_nv (by simp)).trans e1) ((lk_nv (by simp)).trans e2) rfl rfl (by simp [cmpD, shp, eqv, z])
theorem lD_sD (ls : List Lne) : lD ls = sD (ls.map lt) := by unfold lD sD; rw [List.map_map]; rfl
theorem lD_len (ls : List Lne) : (lD ls).length = ls.length := List.length_map ..
theorem lt_ok {ws : List Wd} {l : Lne} (hw : Ws ws) (h : Ln ws l) : okS (lt l) = true := by
  have mem : ∀ c ∈ lt l, c < 1114112 := by
    intro c hc
    have nm : ∀ u ∈ l.1, Nm u := fun u hu => hw.nm u (h.sub u hu)
    have z : ∀ c ∈ lets, c < 1114112 := by decide
    have jm : ∀ us : List Wd, (∀ u ∈ us, Nm u) → ∀ c ∈ joinL [32] us, c < 1114112 := fun us => by
      induction us with
      | nil => intro _ c hc; simp [joinL] at hc
      | cons u us ih =>
        intro hu c hc
        cases us with
        | nil => exact z c ((hu u List.mem_cons_self).mem c hc)
        | cons v us =>
          have hc : c ∈ u ++ ([32] ++ joinL [32] (v :: us)) := hc
          rcases List.mem_append.mp hc with hc | hc
          · exact z c ((hu u List.mem_cons_self).mem c hc)
          · rcases List.mem_append.mp hc with hc | hc
            · rw [List.mem_singleton.mp hc]; decide
            · exact ih (fun w hw => hu w (List.mem_cons_of_mem _ hw)) c hc
    unfold lt at hc
    rcases List.mem_append.mp hc with hc | hc
    · exact jm _ nm c hc
    · rcases List.mem_append.mp hc with hc | hc
      · simp at hc; omega
      · exact z c ((nm _ h.pk).mem c hc)
  unfold okS
  rw [List.all_eq_true]
  exact fun c hc => decide_eq_true (mem c hc)
theorem Ls.ok {ws : List Wd} {ls : List Lne} (hw : Ws ws) (h : Ls ws ls) : okL (ls.map lt) := fun w hw' => by
  obtain ⟨l, hl, rfl⟩ := List.mem_map.mp hw'
  exact lt_ok hw (h.ln l hl)
/-- == of books -/
theorem g_eq (n : Nat) {ws ws2 : List Wd} {ls ls2 : List Lne} {f1 f2 : Bool} {g : Gs} (B : GB G) (h : G.fn 24 = some f24) (h18 : G.fn 18 = some f18) (h19 : G.fn 19 = some f19) (a4 : G.at_ 29 4 = some (.prop 18)) (a5 : G.at_ 29 5 = some (.prop 19)) (hw : Ws ws) (hl : Ls ws ls) (hw2 : Ws ws2) (hl2 : Ls ws2 ls2) : evFn G (n + 2) 24 [(Bo ws ls, f1), (Bo ws2 ls2, f2)] none g = .ok (.bl (ws == ws2 && ls.map lt == ls2.map lt)) false g := by
  refine fn_ret (n := n + 1) (ds := [Bo ws ls, Bo ws2 ls2]) (s := [.va (Bo ws ls), .va (Bo ws2 ls2)]) h rfl rfl (show evSs G (evFn G (n + 1)) none f24.body ⟨[.va (Bo ws ls), .va (Bo ws2 ls2)], g⟩ = _ from ss_rt (s_ret (s1 := ⟨[.va (Bo ws ls), .va (Bo ws2 ls2)], g⟩) ?_ (by simp)))
  have e0 : evE G (evFn G (n + 1)) none (.isi (.v 1) [.cls 29]) ⟨[.va (Bo ws ls), .va (Bo ws2 ls2)], g⟩ = .ok (.bl true, false) ⟨[.va (Bo ws ls), .va (Bo ws2 ls2)], g⟩ := by
    simp [evSs, evS, evE, evL, evA, rd, pk, lk, quiet, quietL, looked, isDs, Rs.bind, drf, toB, opt, idxV, idxD, ixOf, clsOf, binD, cmpV, inC, cmpD, biV, biD, bindT, bindTs, setIx, isLs, put, perm, isId, dflOf, permF, isDfl, Re.rs, walkI, walkS, tyIs, prt, slcD, attrD, fldsOf, fGet, viaM, wip, ownT, ownTs, back, notB, isMut, mutD, bmD, args, Bo]
  have c1 : evE G (evFn G (n + 1)) none (.cmp .eq (.attr (.v 0) 0) (.attr (.v 1) 4)) ⟨[.va (Bo ws ls), .va (Bo ws2 ls2)], g⟩ = .ok (.bl (ws == ws2), false) ⟨[.va (Bo ws ls), .va (Bo ws2 ls2)], g⟩ := by
    have x1 : evE G (evFn G (n + 1)) none (.attr (.v 0) 0) ⟨[.va (Bo ws ls), .va (Bo ws2 ls2)], g⟩ = .ok (.tup (sD ws), false) ⟨[.va (Bo ws ls), .va (Bo ws2 ls2)], g⟩ := e_fld (ws := ws) (ls := ls) (fr := false) (by simp [evE, rd]) B.a0 rfl
    have x2 : evE G (evFn G (n + 1)) none (.attr (.v 1) 4) ⟨[.va (Bo ws ls), .va (Bo ws2 ls2)], g⟩ = .ok (.tup (sD ws2), false) ⟨[.va (Bo ws ls), .va (Bo ws2 ls2)], g⟩ := e_prop (ws := ws2) (ls := ls2) (fr := false) (by simp [evE, rd]) a4 (g_things n B h18)
    exact e_cmp ((lk_nv (by simp)).trans x1) ((lk_nv (by simp)).trans x2) rfl rfl (by simp [cmpD, shp, eqv, shp_sD hw.ok, shp_sD hw2.ok, eqv_sD])
  have c2 : evE G (evFn G (n + 1)) none (.cmp .eq (.attr (.v 0) 1) (.attr (.v 1) 5)) ⟨[.va (Bo ws ls), .va (Bo ws2 ls2)], g⟩ = .ok (.bl (ls.map lt == ls2.map lt), false) ⟨[.va (Bo ws ls), .va (Bo ws2 ls2)], g⟩ := by
    have x1 : evE G (evFn G (n + 1)) none (.attr (.v 0) 1) ⟨[.va (Bo ws ls), .va (Bo ws2 ls2)], g⟩ = .ok (.tup (lD ls), false) ⟨[.va (Bo ws ls), .va (Bo ws2 ls2)], g⟩ := e_fld (ws := ws) (ls := ls) (fr := false) (by simp [evE, rd]) B.a1 rfl
    have x2 : evE G (evFn G (n + 1)) none (.attr (.v 1) 5) ⟨[.va (Bo ws ls), .va (Bo ws2 ls2)], g⟩ = .ok (.tup (lD ls2), false) ⟨[.va (Bo ws ls), .va (Bo ws2 ls2)], g⟩ := e_prop (ws := ws2) (ls := ls2) (fr := false) (by simp [evE, rd]) a5 (g_lines n B h19)
    exact e_cmp ((lk_nv (by simp)).trans x1) ((lk_nv (by simp)).trans x2) rfl rfl (by simp [cmpD, shp, eqv, lD_sD, shp_sD (hl.ok hw), shp_sD (hl2.ok hw2), eqv_sD])
  cases hb : ws == ws2 with
  | true =>
    rw [hb] at c1
    exact (e_and e0).trans ((e_and c1).trans c2)
  | false =>
    rw [hb] at c1
    exact (e_and e0).trans (e_andF c1)
end PX
end

section
set_option autoImplicit false
set_option linter.all false
set_option maxRecDepth 100000
set_option maxHeartbeats 4000000
/-! P15: picks, lines put and taken, texts. -/
namespace PX
open PC PF
variable {G : Gl} {cf : CF} {th : Option (Gs → Re)}
theorem l_n {s : St} : evL G cf th [] s = .ok [] s := by simp only [evL]
theorem l_c {e : E} {es : List E} {s s1 s2 : St} {x : D × Bool} {xs : List (D × Bool)} (h : evE G cf th e s = .ok x s1) (h2 : evL G cf th es s1 = .ok xs s2) (hn : ∀ a, e ≠ .star a := by intro a; nofun) : evL G cf th (e :: es) s = .ok (x :: xs) s2 := by
  rw [evL]
  · rw [h]
    show ((evL _ _ _ _ _).bind _) = _
    rw [h2]
    rfl
  · exact hn
theorem l_s {a : E} {es : List E} {s s1 s2 : St} {x : D} {f : Bool} {ys : List D} {xs : List (D × Bool)} (h : lk (quietL es) a s (evE G cf th a s) = .ok (x, f) s1) (hy : seqLT x = some ys) (h2 : evL G cf th es s1 = .ok xs s2) : evL G cf th (.star a :: es) s = .ok (ys.map (fun y => (y, false)) ++ xs) s2 := by
  rw [evL, h]
  show ((opt (seqLT x) s1).bind _) = _
  rw [hy]
  show ((evL _ _ _ _ _).bind _) = _
  rw [h2]
  rfl
theorem e_v {i : Nat} {s : St} {d : D} (h : s.s[i]? = some (.va d)) : evE G cf th (.v i) s = .ok (d, false) s := by
  simp only [evE, rd, h]
theorem e_c {d : D} {s : St} : evE G cf th (.c d) s = .ok (d, false) s := by simp only [evE]
theorem e_tup {es : List E} {s s1 : St} {xs : List (D × Bool)} {r : D × Bool} (h : evL G cf th es s = .ok xs s1) (hm : mkT (xs.map (·.1)) = some r) : evE G cf th (.tup es) s = .ok r s1 := by
  rw [evE, h]
  show opt (mkT (xs.map (·.1))) s1 = _
  rw [hm]
  rfl
theorem e_lst {es : List E} {s s1 : St} {xs : List (D × Bool)} {r : D × Bool} (h : evL G cf th es s = .ok xs s1) (hm : mkL (xs.map (·.1)) = some r) : evE G cf th (.lst es) s = .ok r s1 := by
  rw [evE, h]
  show opt (mkL (xs.map (·.1))) s1 = _
  rw [hm]
  rfl
theorem e_call {f : Nat} {es : List E} {ps : List (Sum Nat D)} {s s1 : St} {xs ys : List (D × Bool)} {d : D} {fr : Bool} {g : Gs} (h : evL G cf th es s = .ok xs s1) (hp : perm xs ps = some ys) (hc : cf f ys none s1.g = .ok d fr g) : evE G cf th (.call f es ps) s = .ok (d, fr) ⟨s1.s, g⟩ := by
  rw [evE, h]
  show ((opt (perm xs ps) s1).bind _) = _
  rw [hp]
  show ((cf f ys none s1.g).rs s1.s) = _
  rw [hc]
  rfl
theorem e_make {C : Nat} {es : List E} {ps : List (Sum Nat D)} {s s1 s2 : St} {xs ys : List (D × Bool)} {r : D × Bool} (h : evL G cf th es s = .ok xs s1) (hp : perm xs ps = some ys) (hc : makeD G cf C ys s1 = .ok r s2) : evE G cf th (.make C es ps) s = .ok r s2 := by
  rw [evE, h]
  show ((opt (perm xs ps) s1).bind _) = _
  rw [hp]
  exact hc
theorem e_meth {o : E} {m C f : Nat} {es : List E} {ps : List (Sum Nat D)} {s s1 s2 : St} {x : D × Bool} {xs ys : List (D × Bool)} {d : D} {fr : Bool} {g : Gs} (ho : evE G cf th o s = .ok x s1) (hC : clsOf s1.g x.1 = some C) (h : evL G cf th es s1 = .ok xs s2) (hp : perm xs ps = some ys) (hm : G.meth C m = some f) (hc : cf f (x :: ys) none s2.g = .ok d fr g) : evE G cf th (.meth o m es ps) s = .ok (d, fr) ⟨s2.s, g⟩ := by
  rw [evE, ho]
  show (match clsOf s1.g x.1 with
    | some C => (evL G cf th es s1).bind fun xs s2 => (opt (perm xs ps) s2).bind fun ys s3 => viaM G cf m (x :: ys) C s3
    | none => .no) = _
  rw [hC]
  simp only
  rw [h]
  show ((opt (perm xs ps) s2).bind _) = _
  rw [hp]
  show viaM G cf m (x :: ys) C s2 = _
  unfold viaM
  rw [hm]
  show (cf f (x :: ys) none s2.g).rs s2.s = _
  rw [hc]
  rfl
theorem check_menu (n : Nat) {ws v : List Wd} {ls : List Lne} {f1 f2 : Bool} {g : Gs} (B : GB G) (h : G.fn 27 = some f27) (h18 : G.fn 18 = some f18) (a4 : G.at_ 29 4 = some (.prop 18)) (hw : Ws ws) (hv : v.Nodup) (hs : ∀ x ∈ v, x ∈ ws) (h2 : 2 ≤ v.length) : evFn G (n + 3) 27 [(Bo ws ls, f1), (.tup (sD v), f2)] none g = .ok .non false g := by
  refine fn_non (n := n + 2) (ds := [Bo ws ls, .tup (sD v)]) (s := [.va (Bo ws ls), .va (.tup (sD v))]) h rfl rfl ?_ rfl
  show evSs G (evFn G (n + 2)) none f27.body ⟨[.va (Bo ws ls), .va (.tup (sD v))], g⟩ = _
  have x1 : evE G (evFn G (n + 2)) none (.attr (.v 0) 4) ⟨[.va (Bo ws ls), .va (.tup (sD v))], g⟩ = .ok (.tup (sD ws), false) ⟨[.va (Bo ws ls), .va (.tup (sD v))], g⟩ := e_prop (ws := ws) (ls := ls) (fr := false) (by simp [evE, rd]) a4 (g_things (n + 1) B h18)
  have im := is_menuT (G := G) n (f1 := false) (f2 := false) (g := g) B hw hv hs h2
  have e1 : evE G (evFn G (n + 2)) none (.call 11 [(.attr (.v 0) 4), (.v 1)] [.inl 0, .inl 1]) ⟨[.va (Bo ws ls), .va (.tup (sD v))], g⟩ = .ok (.bl true, false) ⟨[.va (Bo ws ls), .va (.tup (sD v))], g⟩ := by
    exact e_call (l_c x1 (l_c (e_v rfl) l_n)) rfl im
  exact (ss_nx ((s_ifF (e_not e1)).trans ss_nil)).trans ss_nil
theorem menu_of (n : Nat) {ws v : List Wd} {ls : List Lne} {f1 f2 : Bool} {g : Gs} (B : GB G) (h : G.fn 28 = some f28) (h18 : G.fn 18 = some f18) (a4 : G.at_ 29 4 = some (.prop 18)) (hw : Ws ws) (hs : ∀ x ∈ v, x ∈ ws) : evFn G (n + 2) 28 [(Bo ws ls, f1), (.tup (sD v), f2)] none g = .ok (.tup (sD (ord ws v))) false g := by
  refine fn_ret (n := n + 1) (ds := [Bo ws ls, .tup (sD v)]) (s := [.va (Bo ws ls), .va (.tup (sD v))]) h rfl rfl ?_
  show evSs G (evFn G (n + 1)) none f28.body ⟨[.va (Bo ws ls), .va (.tup (sD v))], g⟩ = _
  have x1 : evE G (evFn G (n + 1)) none (.attr (.v 0) 4) ⟨[.va (Bo ws ls), .va (.tup (sD v))], g⟩ = .ok (.tup (sD ws), false) ⟨[.va (Bo ws ls), .va (.tup (sD v))], g⟩ := e_prop (ws := ws) (ls := ls) (fr := false) (by simp [evE, rd]) a4 (g_things n B h18)
  have im := in_orderO (G := G) n (f1 := false) (f2 := false) (g := g) B.f10 hw.ok (vs := v) (fun u hu => hw.ok u (hs u hu)) (by have := hw.hi; omega)
  exact ss_rt (s_ret (e_call (l_c x1 (l_c (e_v rfl) l_n)) rfl im) (by simp))
/-- what is picked -/
theorem pick_of (n : Nat) {ws v : List Wd} {ls : List Lne} {p : Wd} {f1 f2 : Bool} {g : Gs} (B : GB G) (h : G.fn 29 = some f29) (h27 : G.fn 27 = some f27) (h28 : G.fn 28 = some f28) (h18 : G.fn 18 = some f18) (a4 : G.at_ 29 4 = some (.prop 18)) (hw : Ws ws) (hl : ∀ l ∈ ls, Ln ws l) (hv : v.Nodup) (hs : ∀ x ∈ v, x ∈ ws) (h2 : 2 ≤ v.length) (hp : (tab ws ls).lookup (ord ws v) = some p) : evFn G (n + 4) 29 [(Bo ws ls, f1), (.tup (sD v), f2)] none g = .ok (.str p) false g := by
  refine fn_ret (n := n + 3) (ds := [Bo ws ls, .tup (sD v)]) (s := [.va (Bo ws ls), .va (.tup (sD v)), .va (.tup (sD (ord ws v)))]) h rfl rfl ?_
  show evSs G (evFn G (n + 3)) none f29.body ⟨[.va (Bo ws ls), .va (.tup (sD v)), .un], g⟩ = _
  have cm := check_menu (G := G) n (ls := ls) (f1 := false) (f2 := false) (g := g) B h27 h18 a4 hw hv hs h2
  have mo := menu_of (G := G) (n + 1) (ls := ls) (f1 := false) (f2 := false) (g := g) B h28 h18 a4 hw hs
  have e1 : evS G (evFn G (n + 3)) none (.ex (.call 27 [(.v 0), (.v 1)] [.inl 0, .inl 1])) ⟨[.va (Bo ws ls), .va (.tup (sD v)), .un], g⟩ = .ok .nx ⟨[.va (Bo ws ls), .va (.tup (sD v)), .un], g⟩ := by
    simp [evSs, evS, evE, evL, evA, rd, pk, lk, quiet, quietL, looked, isDs, Rs.bind, drf, toB, opt, idxV, idxD, ixOf, clsOf, binD, cmpV, inC, cmpD, biV, biD, bindT, bindTs, setIx, isLs, put, perm, isId, dflOf, permF, isDfl, Re.rs, walkI, walkS, tyIs, prt, slcD, attrD, fldsOf, fGet, viaM, wip, ownT, ownTs, back, notB, isMut, mutD, bmD, args, cm]
  have e2 : evS G (evFn G (n + 3)) none (.set 2 false (.call 28 [(.v 0), (.v 1)] [.inl 0, .inl 1])) ⟨[.va (Bo ws ls), .va (.tup (sD v)), .un], g⟩ = .ok .nx ⟨[.va (Bo ws ls), .va (.tup (sD v)), .va (.tup (sD (ord ws v)))], g⟩ := by
    simp [evSs, evS, evE, evL, evA, rd, pk, lk, quiet, quietL, looked, isDs, Rs.bind, drf, toB, opt, idxV, idxD, ixOf, clsOf, binD, cmpV, inC, cmpD, biV, biD, bindT, bindTs, setIx, isLs, put, perm, isId, dflOf, permF, isDfl, Re.rs, walkI, walkS, tyIs, prt, slcD, attrD, fldsOf, fGet, viaM, wip, ownT, ownTs, back, notB, isMut, mutD, bmD, args, mo]
  have x3 : evE G (evFn G (n + 3)) none (.attr (.v 0) 3) ⟨[.va (Bo ws ls), .va (.tup (sD v)), .va (.tup (sD (ord ws v)))], g⟩ = .ok (.dct (kv (byM ws ls)), false) ⟨[.va (Bo ws ls), .va (.tup (sD v)), .va (.tup (sD (ord ws v)))], g⟩ := e_fld (ws := ws) (ls := ls) (fr := false) (by simp [evE, rd]) B.a3 rfl
  have i := inD_kv (ord ws v) (byM ws ls)
  have lb := lookup_byM hw hl (ord ws v)
  rw [← lookup_some, lb, hp] at i
  have gt := dGet_kv (ord ws v) (byM ws ls)
  rw [lb, hp] at gt
  have kf := keyFor_kv (ord ws v) (byM ws ls)
  have e3 : evS G (evFn G (n + 3)) none (.ife (.cmp .nin (.v 2) (.attr (.v 0) 3)) [.rse 18 [(.v 2)]] []) ⟨[.va (Bo ws ls), .va (.tup (sD v)), .va (.tup (sD (ord ws v)))], g⟩ = .ok .nx ⟨[.va (Bo ws ls), .va (.tup (sD v)), .va (.tup (sD (ord ws v)))], g⟩ := by
    refine (s_ifF (e_cmp (x := tS (ord ws v)) (y := .dct (kv (byM ws ls))) (lk_va rfl) ((lk_nv (by simp)).trans x3) rfl rfl (k := false) ?_)).trans ss_nil
    simp [cmpD, i]
  refine (ss_nx e1).trans ((ss_nx e2).trans ((ss_nx e3).trans (ss_rt (s_ret ?_ (by simp)))))
  rw [evE, lk_nv (by simp), x3]
  unfold tS at gt kf
  simp [evSs, evS, evE, evL, evA, rd, pk, lk, quiet, quietL, looked, isDs, Rs.bind, drf, toB, opt, idxV, idxD, ixOf, clsOf, binD, cmpV, inC, cmpD, biV, biD, bindT, bindTs, setIx, isLs, put, perm, isId, dflOf, permF, isDfl, Re.rs, walkI, walkS, tyIs, prt, slcD, attrD, fldsOf, fGet, viaM, wip, ownT, ownTs, back, notB, isMut, mutD, bmD, args, kf, gt]
/-- a line more -/
theorem with_line (n : Nat) {ws : List Wd} {ls : List Lne} {l : Lne} {f1 f2 : Bool} {g : Gs} (B : GB G) (h : G.fn 62 = some f62) (hw : Ws ws) (hl : Ls ws (ls ++ [l])) (hg : gk g) : evFn G (n + 9) 62 [(Bo ws ls, f1), (.str (lt l), f2)] none g = .ok (Bo ws (ls ++ [l])) false g := by
  have hln : Ln ws l := hl.ln l (by simp)
  have nin : ord ws l.1 ∉ told ws ls := by
    rw [mem_told hw fun x hx => hl.ln x (List.mem_append_left _ hx)]
    rintro ⟨x, hx, e⟩
    have nd := hl.nd
    rw [List.map_append, List.nodup_append] at nd
    exact nd.2.2 _ (List.mem_map_of_mem hx) _ (by simp) e
  refine fn_ret (n := n + 8) (ds := [Bo ws ls, .str (lt l)]) (s := [.va (Bo ws ls), .va (.str (lt l)), .va (.tup [.tup (sD (ord ws l.1)), .str l.2])]) h rfl rfl ?_
  show evSs G (evFn G (n + 8)) none f62.body ⟨[.va (Bo ws ls), .va (.str (lt l)), .un], g⟩ = _
  have lp := line_parts (G := G) (n + 5) (f1 := false) (f2 := false) (g := g) B hw hln
  have mb := make_book (G := G) n (f1 := false) (f2 := false) (s := [.va (Bo ws ls), .va (.str (lt l)), .va (.tup [.tup (sD (ord ws l.1)), .str l.2])]) (g := g) B hw hl hg
  have x0 : evE G (evFn G (n + 8)) none (.attr (.v 0) 0) ⟨[.va (Bo ws ls), .va (.str (lt l)), .un], g⟩ = .ok (.tup (sD ws), false) ⟨[.va (Bo ws ls), .va (.str (lt l)), .un], g⟩ := e_fld (ws := ws) (ls := ls) (fr := false) (by simp [evE, rd]) B.a0 rfl
  have y0 : evE G (evFn G (n + 8)) none (.attr (.v 0) 0) ⟨[.va (Bo ws ls), .va (.str (lt l)), .va (.tup [.tup (sD (ord ws l.1)), .str l.2])], g⟩ = .ok (.tup (sD ws), false) ⟨[.va (Bo ws ls), .va (.str (lt l)), .va (.tup [.tup (sD (ord ws l.1)), .str l.2])], g⟩ := e_fld (ws := ws) (ls := ls) (fr := false) (by simp [evE, rd]) B.a0 rfl
  have y1 : evE G (evFn G (n + 8)) none (.attr (.v 0) 1) ⟨[.va (Bo ws ls), .va (.str (lt l)), .va (.tup [.tup (sD (ord ws l.1)), .str l.2])], g⟩ = .ok (.tup (lD ls), false) ⟨[.va (Bo ws ls), .va (.str (lt l)), .va (.tup [.tup (sD (ord ws l.1)), .str l.2])], g⟩ := e_fld (ws := ws) (ls := ls) (fr := false) (by simp [evE, rd]) B.a1 rfl
  have y3 : evE G (evFn G (n + 8)) none (.attr (.v 0) 3) ⟨[.va (Bo ws ls), .va (.str (lt l)), .va (.tup [.tup (sD (ord ws l.1)), .str l.2])], g⟩ = .ok (.dct (kv (byM ws ls)), false) ⟨[.va (Bo ws ls), .va (.str (lt l)), .va (.tup [.tup (sD (ord ws l.1)), .str l.2])], g⟩ := e_fld (ws := ws) (ls := ls) (fr := false) (by simp [evE, rd]) B.a3 rfl
  have i := inD_kv (ord ws l.1) (byM ws ls)
  rw [byM_keys, show (told ws ls).contains (ord ws l.1) = false from by rw [Bool.eq_false_iff]; exact fun z => nin (List.contains_iff_mem.mp z)] at i
  have e1 : evS G (evFn G (n + 8)) none (.set 2 false (.call 12 [(.attr (.v 0) 0), (.v 1)] [.inl 0, .inl 1])) ⟨[.va (Bo ws ls), .va (.str (lt l)), .un], g⟩ = .ok .nx ⟨[.va (Bo ws ls), .va (.str (lt l)), .va (.tup [.tup (sD (ord ws l.1)), .str l.2])], g⟩ := by
    refine s_set (r := (.tup [.tup (sD (ord ws l.1)), .str l.2], false)) (s1 := ⟨[.va (Bo ws ls), .va (.str (lt l)), .un], g⟩) ?_
    exact e_call (l_c x0 (l_c (e_v rfl) l_n)) rfl lp
  have b1 : evE G (evFn G (n + 8)) none (.cmp .is_ (.v 2) (.c (.non))) ⟨[.va (Bo ws ls), .va (.str (lt l)), .va (.tup [.tup (sD (ord ws l.1)), .str l.2])], g⟩ = .ok (.bl false, false) ⟨[.va (Bo ws ls), .va (.str (lt l)), .va (.tup [.tup (sD (ord ws l.1)), .str l.2])], g⟩ := by
    simp [evSs, evS, evE, evL, evA, rd, pk, lk, quiet, quietL, looked, isDs, Rs.bind, drf, toB, opt, idxV, idxD, ixOf, clsOf, binD, cmpV, inC, cmpD, biV, biD, bindT, bindTs, setIx, isLs, put, perm, isId, dflOf, permF, isDfl, Re.rs, walkI, walkS, tyIs, prt, slcD, attrD, fldsOf, fGet, viaM, wip, ownT, ownTs, back, notB, isMut, mutD, bmD, args]
  have b2 : evE G (evFn G (n + 8)) none (.cmp .in_ (.idx (.v 2) (.c (.int 0))) (.attr (.v 0) 3)) ⟨[.va (Bo ws ls), .va (.str (lt l)), .va (.tup [.tup (sD (ord ws l.1)), .str l.2])], g⟩ = .ok (.bl false, false) ⟨[.va (Bo ws ls), .va (.str (lt l)), .va (.tup [.tup (sD (ord ws l.1)), .str l.2])], g⟩ := by
    refine e_cmp (x := tS (ord ws l.1)) (y := .dct (kv (byM ws ls))) (f1 := false) ((lk_nv (by simp)).trans ?_) ((lk_nv (by simp)).trans y3) rfl rfl (by simp [cmpD, i])
    simp [evSs, evS, evE, evL, evA, rd, pk, lk, quiet, quietL, looked, isDs, Rs.bind, drf, toB, opt, idxV, idxD, ixOf, clsOf, binD, cmpV, inC, cmpD, biV, biD, bindT, bindTs, setIx, isLs, put, perm, isId, dflOf, permF, isDfl, Re.rs, walkI, walkS, tyIs, prt, slcD, attrD, fldsOf, fGet, viaM, wip, ownT, ownTs, back, notB, isMut, mutD, bmD, args, tS]
  refine (ss_nx e1).trans ((ss_nx ((s_ifF ((e_or b1).trans b2)).trans ss_nil)).trans (ss_rt (s_ret ?_ (by simp))))
  have mt : mkT (lD ls ++ [.str (lt l)]) = some (.tup (lD (ls ++ [l])), false) := by
    rw [show lD (ls ++ [l]) = lD ls ++ [.str (lt l)] by simp [lD]]
    refine mkT_ok ?_
    have := hl.hi
    rw [List.length_append] at this ⊢
    rw [lD_len]
    simp only [List.length_singleton] at this ⊢
    unfold big; omega
  have et : evE G (evFn G (n + 8)) none (.tup [(.star (.attr (.v 0) 1)), (.v 1)]) ⟨[.va (Bo ws ls), .va (.str (lt l)), .va (.tup [.tup (sD (ord ws l.1)), .str l.2])], g⟩ = .ok (.tup (lD (ls ++ [l])), false) ⟨[.va (Bo ws ls), .va (.str (lt l)), .va (.tup [.tup (sD (ord ws l.1)), .str l.2])], g⟩ := by
    refine e_tup (l_s ((lk_nv (by simp)).trans y1) rfl (l_c (e_v rfl) l_n)) ?_
    rw [List.map_append, List.map_map, show ((fun x => x.1) ∘ fun (y : D) => (y, false)) = id from rfl, List.map_id]
    exact mt
  exact e_make (l_c y0 (l_c et l_n)) rfl mb
/-- without a line -/
theorem without (n : Nat) {ws : List Wd} {ls : List Lne} {k : Nat} {f1 f2 : Bool} {g : Gs} (B : GB G) (h : G.fn 63 = some f63) (h60 : G.fn 60 = some f60) (h61 : G.fn 61 = some f61) (hw : Ws ws) (hl : Ls ws (ls.take k ++ ls.drop (k + 1))) (hk : k < ls.length) (hb : ls.length ≤ 1000) (hg : gk g) : evFn G (n + 9) 63 [(Bo ws ls, f1), (.int k, f2)] none g = .ok (Bo ws (ls.take k ++ ls.drop (k + 1))) false g := by
  refine fn_ret (n := n + 8) (ds := [Bo ws ls, .int k]) (s := [.va (Bo ws ls), .va (.int k)]) h rfl rfl ?_
  show evSs G (evFn G (n + 8)) none f63.body ⟨[.va (Bo ws ls), .va (.int k)], g⟩ = _
  have mb := make_book (G := G) n (f1 := false) (f2 := false) (s := [.va (Bo ws ls), .va (.int k)]) (g := g) B hw hl hg
  have y0 : evE G (evFn G (n + 8)) none (.attr (.v 0) 0) ⟨[.va (Bo ws ls), .va (.int k)], g⟩ = .ok (.tup (sD ws), false) ⟨[.va (Bo ws ls), .va (.int k)], g⟩ := e_fld (ws := ws) (ls := ls) (fr := false) (by simp [evE, rd]) B.a0 rfl
  have y1 : evE G (evFn G (n + 8)) none (.attr (.v 0) 1) ⟨[.va (Bo ws ls), .va (.int k)], g⟩ = .ok (.tup (lD ls), false) ⟨[.va (Bo ws ls), .va (.int k)], g⟩ := e_fld (ws := ws) (ls := ls) (fr := false) (by simp [evE, rd]) B.a1 rfl
  have i60 : ∀ fr, evFn G (n + 7) 60 [(.int k, fr)] none g = .ok (.bl true) false g := fun fr => by
    refine fn_ret (n := n + 6) (ds := [.int k]) (s := [.va (.int k)]) h60 rfl rfl ?_
    show evSs G (evFn G (n + 6)) none f60.body ⟨[.va (.int k)], g⟩ = _
    unfold f60
    simp [evSs, evS, evE, evL, evA, rd, pk, lk, quiet, quietL, looked, isDs, Rs.bind, drf, toB, opt, idxV, idxD, ixOf, clsOf, binD, cmpV, inC, cmpD, biV, biD, bindT, bindTs, setIx, isLs, put, perm, isId, dflOf, permF, isDfl, Re.rs, walkI, walkS, tyIs, prt, slcD, attrD, fldsOf, fGet, viaM, wip, ownT, ownTs, back, notB, isMut, mutD, bmD, args]
  have i61 : ∀ m : Nat, (k : Int) ≤ (m : Int) - 1 → evFn G (n + 8) 61 [(.int k, false), (.int 0, false), (.int ((m : Int) - 1), false)] none g = .ok (.bl true) false g := fun m hm => by
    refine fn_ret (n := n + 7) (ds := [.int k, .int 0, .int ((m : Int) - 1)]) (s := [.va (.int k), .va (.int 0), .va (.int ((m : Int) - 1))]) h61 rfl rfl ?_
    show evSs G (evFn G (n + 7)) none f61.body ⟨[.va (.int k), .va (.int 0), .va (.int ((m : Int) - 1))], g⟩ = _
    have hk0 : (0 : Int) ≤ k := by omega
    unfold f61
    simp [evSs, evS, evE, evL, evA, rd, pk, lk, quiet, quietL, looked, isDs, Rs.bind, drf, toB, opt, idxV, idxD, ixOf, clsOf, binD, cmpV, inC, cmpD, biV, biD, bindT, bindTs, setIx, isLs, put, perm, isId, dflOf, permF, isDfl, Re.rs, walkI, walkS, tyIs, prt, slcD, attrD, fldsOf, fGet, viaM, wip, ownT, ownTs, back, notB, isMut, mutD, bmD, args, i60, hk0, hm]
  have lenE : evE G (evFn G (n + 8)) none (.bi .len [(.attr (.v 0) 1)]) ⟨[.va (Bo ws ls), .va (.int k)], g⟩ = .ok (.int ls.length, false) ⟨[.va (Bo ws ls), .va (.int k)], g⟩ :=
    e_bi1 ((lk_nv (by simp)).trans y1) rfl (by simp only [drf, biD, lD_len])
  have e1 : evE G (evFn G (n + 8)) none (.call 61 [(.v 1), (.c (.int 0)), (.bin .sub (.bi .len [(.attr (.v 0) 1)]) (.c (.int 1)))] [.inl 0, .inl 1, .inl 2]) ⟨[.va (Bo ws ls), .va (.int k)], g⟩ = .ok (.bl true, false) ⟨[.va (Bo ws ls), .va (.int k)], g⟩ := by
    have eb : evE G (evFn G (n + 8)) none (.bin .sub (.bi .len [(.attr (.v 0) 1)]) (.c (.int 1))) ⟨[.va (Bo ws ls), .va (.int k)], g⟩ = .ok (.int ((ls.length : Int) - 1), false) ⟨[.va (Bo ws ls), .va (.int k)], g⟩ :=
      e_bin ((lk_nv (by simp)).trans lenE) (y := (.int 1, false)) (by simp [lk, evE]) (by simp [binD, drf])
    have i := i61 ls.length (by omega)
    exact e_call (l_c (e_v rfl) (l_c e_c (l_c eb l_n))) rfl i
  have tl : ∀ xs : List Lne, (sD (xs.map lt)).length = xs.length := fun xs => by rw [sD_len, List.length_map]
  have c1 := cut_hi (xs := lD ls) (k := k) (by rw [lD_len]; omega)
  have c2 := cut_lo (xs := lD ls) (k := k + 1) (by rw [lD_len]; omega)
  have c2 : cutD (lD ls) (some ((k : Int) + 1)) none = (lD ls).drop (k + 1) := c2
  have st : (lD ls).take k ++ (lD ls).drop (k + 1) = lD (ls.take k ++ ls.drop (k + 1)) := by unfold lD; rw [List.map_append, List.map_take, List.map_drop]
  have mt : mkT ((lD ls).take k ++ (lD ls).drop (k + 1)) = some (.tup (lD (ls.take k ++ ls.drop (k + 1))), false) := by
    rw [st]
    refine mkT_ok ?_
    have := hl.hi
    rw [lD_len]
    unfold big; omega
  have s1 : evE G (evFn G (n + 8)) none (.slc (.attr (.v 0) 1) (.c .non) (.v 1)) ⟨[.va (Bo ws ls), .va (.int k)], g⟩ = .ok (.tup ((lD ls).take k), false) ⟨[.va (Bo ws ls), .va (.int k)], g⟩ := by
    rw [evE, lk_nv (by simp), y1]
    simp [evSs, evS, evE, evL, evA, rd, pk, lk, quiet, quietL, looked, isDs, Rs.bind, drf, toB, opt, idxV, idxD, ixOf, clsOf, binD, cmpV, inC, cmpD, biV, biD, bindT, bindTs, setIx, isLs, put, perm, isId, dflOf, permF, isDfl, Re.rs, walkI, walkS, tyIs, prt, slcD, attrD, fldsOf, fGet, viaM, wip, ownT, ownTs, back, notB, isMut, mutD, bmD, args, c1]
  have s2 : evE G (evFn G (n + 8)) none (.slc (.attr (.v 0) 1) (.bin .add (.v 1) (.c (.int 1))) (.c .non)) ⟨[.va (Bo ws ls), .va (.int k)], g⟩ = .ok (.tup ((lD ls).drop (k + 1)), false) ⟨[.va (Bo ws ls), .va (.int k)], g⟩ := by
    rw [evE, lk_nv (by simp), y1]
    simp [evSs, evS, evE, evL, evA, rd, pk, lk, quiet, quietL, looked, isDs, Rs.bind, drf, toB, opt, idxV, idxD, ixOf, clsOf, binD, cmpV, inC, cmpD, biV, biD, bindT, bindTs, setIx, isLs, put, perm, isId, dflOf, permF, isDfl, Re.rs, walkI, walkS, tyIs, prt, slcD, attrD, fldsOf, fGet, viaM, wip, ownT, ownTs, back, notB, isMut, mutD, bmD, args, c2]
  have et : evE G (evFn G (n + 8)) none (.bin .add (.slc (.attr (.v 0) 1) (.c .non) (.v 1)) (.slc (.attr (.v 0) 1) (.bin .add (.v 1) (.c (.int 1))) (.c .non))) ⟨[.va (Bo ws ls), .va (.int k)], g⟩ = .ok (.tup (lD (ls.take k ++ ls.drop (k + 1))), false) ⟨[.va (Bo ws ls), .va (.int k)], g⟩ :=
    e_bin ((lk_nv (by simp)).trans s1) ((lk_nv (by simp)).trans s2) (by simp only [binD, drf]; exact mt)
  exact (ss_nx ((s_ifF (e_not e1)).trans ss_nil)).trans (ss_rt (s_ret (e_make (l_c y0 (l_c et l_n)) rfl mb) (by simp)))
end PX
end

section
set_option autoImplicit false
set_option linter.all false
set_option maxRecDepth 100000
set_option maxHeartbeats 4000000
/-! P16: texts of books; the law's menus. -/
namespace PX
open PC PF
variable {G : Gl} {cf : CF} {th : Option (Gs → Re)}
theorem e_bm1 {m : Bm} {o e : E} {s s1 s2 : St} {x y : D} {f1 f2 : Bool} {r : D × Bool} (hm : isMut m = false) (ho : lk (quietL [e]) o s (evE G cf th o s) = .ok (x, f1) s1) (he : lk true e s1 (evE G cf th e s1) = .ok (y, f2) s2) (hb : bmD m (drf s2.g x) [y] = some r) : evE G cf th (.bm m o [e]) s = .ok r s2 := by
  rw [evE.eq_def]
  simp only
  rw [if_neg (by rw [hm]; decide), ho]
  show ((lk true e s1 _).bind _) = _
  rw [he]
  show opt (bmD m (drf s2.g x) [y]) s2 = _
  rw [hb]
  rfl
theorem s_app {j : Nat} {e : E} {s s1 : St} {x : D} {f : Bool} {l : List D} (h0 : isLs s j = true) (he : evE G cf th e s = .ok (x, f) s1) (hj : s1.s[j]? = some (.ow (.lst l))) (hl : l.length < big) (hn : ∀ a, e ≠ .star a := by intro a; nofun) : evS G cf th (.ex (.bm .append (.v j) [e])) s = .ok .nx ⟨s1.s.set j (.ow (.lst (l ++ [x]))), s1.g⟩ := by
  have e1 : evE G cf th (.bm .append (.v j) [e]) s = .ok (.non, false) ⟨s1.s.set j (.ow (.lst (l ++ [x]))), s1.g⟩ := by
    rw [evE, if_pos (by rfl)]
    rw [if_neg (by rw [h0]; decide), l_c he l_n hn]
    simp only [Rs.bind]
    rw [hj]
    simp only [List.map, mutD, if_pos hl, opt]
  exact s_ex e1
theorem strs_sD : ∀ ws : List Wd, strsO (sD ws) = some ws
  | [] => rfl
  | w :: ws => by
    show ((strsO (sD ws)).map (w :: ·)) = _
    rw [strs_sD ws]
    rfl
theorem sum_le {c : Nat} : ∀ ts : List Wd, (∀ t ∈ ts, t.length ≤ c) → (ts.map List.length).sum ≤ ts.length * c
  | [], _ => by simp
  | t :: ts, h => by
    have a := h t List.mem_cons_self
    have b := sum_le ts fun u hu => h u (List.mem_cons_of_mem _ hu)
    rw [List.map_cons, List.sum_cons, List.length_cons, Nat.succ_mul]
    omega
theorem join_ok {sep : Wd} {ts : List Wd} {c : Nat} (h : ∀ t ∈ ts, t.length ≤ c) (hb : ts.length * (c + sep.length) ≤ big) (t : Bool) : bmD .join (.str sep) [dS t (sD ts)] = some (.str (joinL sep ts), false) := by
  have a := sum_le ts h
  have b : ts.length * (c + sep.length) = ts.length * c + ts.length * sep.length := Nat.mul_add ..
  cases t <;> simp only [dS, bmD, strs_sD, Option.bind_some] <;> rw [if_pos (by omega)]
/-- a book's text -/
def strB (ws : List Wd) (ls : List Lne) : Wd := joinL [10] (([116, 104, 105, 110, 103, 115, 32] ++ joinL [32] ws) :: ls.map lt)
theorem g_str (n : Nat) {ws : List Wd} {ls : List Lne} {fr : Bool} {g : Gs} (B : GB G) (h : G.fn 25 = some f25) (hw : Ws ws) (hl : Ls ws ls) : evFn G (n + 1) 25 [(Bo ws ls, fr)] none g = .ok (.str (strB ws ls)) false g := by
  refine fn_ret (ds := [Bo ws ls]) (s := [.va (Bo ws ls)]) h rfl rfl ?_
  show evSs G (evFn G n) none f25.body ⟨[.va (Bo ws ls)], g⟩ = _
  have hi := hw.hi
  have lh := hl.hi
  have wl : ∀ w ∈ ws, w.length ≤ 8 := fun w hw' => by have := (hw.nm w hw').hi; omega
  have x0 : evE G (evFn G n) none (.attr (.v 0) 0) ⟨[.va (Bo ws ls)], g⟩ = .ok (.tup (sD ws), false) ⟨[.va (Bo ws ls)], g⟩ := e_fld (ws := ws) (ls := ls) (e_v rfl) B.a0 rfl
  have x1 : evE G (evFn G n) none (.attr (.v 0) 1) ⟨[.va (Bo ws ls)], g⟩ = .ok (.tup (lD ls), false) ⟨[.va (Bo ws ls)], g⟩ := e_fld (ws := ws) (ls := ls) (e_v rfl) B.a1 rfl
  have j1 := e_bm1 (G := G) (cf := evFn G n) (th := none) (m := .join) (o := .c (.str [32])) rfl ((lk_nv (by simp)).trans e_c) ((lk_nv (by simp)).trans x0) (join_ok (sep := [32]) (ts := ws) (c := 8) wl (by simp; unfold big; omega) true)
  have jl := join_len (us := ws) fun w hw' => (hw.nm w hw').hi
  have m1 : mkS ([116, 104, 105, 110, 103, 115, 32] ++ joinL [32] ws) = some (.str ([116, 104, 105, 110, 103, 115, 32] ++ joinL [32] ws), false) := by
    unfold mkS
    rw [if_pos (by simp; unfold big; omega)]
  have b1 := e_bin (G := G) (cf := evFn G n) (th := none) (o := .add) (a := .c (.str [116, 104, 105, 110, 103, 115, 32])) ((lk_nv (by simp)).trans e_c) ((lk_nv (by simp)).trans j1) (by simp only [binD, drf]; exact m1)
  have ll := l_c (G := G) (cf := evFn G n) (th := none) b1 (l_s ((lk_nv (by simp)).trans x1) rfl l_n)
  have et := e_lst ll (r := (.lst (sD (([116, 104, 105, 110, 103, 115, 32] ++ joinL [32] ws) :: ls.map lt)), true)) (by
    rw [List.map_cons, List.map_append, List.map_map, show ((fun x => x.1) ∘ fun (y : D) => (y, false)) = id from rfl, List.map_id]
    simp only [List.map_nil, List.append_nil]
    rw [lD_sD]
    refine mkL_ok ?_
    rw [List.length_cons, sD_len, List.length_map]
    unfold big; omega)
  refine ss_rt (s_ret (e_bm1 (x := .str [10]) (f1 := false) rfl ((lk_nv (by simp)).trans e_c) ((lk_nv (by simp)).trans et) (join_ok (sep := [10]) (c := 70) ?_ ?_ false)) (by simp))
  · intro t ht
    rcases List.mem_cons.mp ht with rfl | ht
    · simp; omega
    · obtain ⟨l, hl', rfl⟩ := List.mem_map.mp ht
      have := lt_len hw (hl.ln l hl')
      omega
  · simp
    unfold big; omega
/-! ### the law's menus -/
def iD (is : List Nat) : D := .tup (is.map fun (i : Nat) => .int i)
/-- all lots of places, by doubling -/
def ixs : Nat → List (List Nat)
  | 0 => [[]]
  | k + 1 => ixs k ++ (ixs k).map (· ++ [k])
/-- .. in order -/
def ixo (n : Nat) : List (List Nat) := (List.range (n + 1)).flatMap fun k => lotsI k (List.range n)
where lotsI : Nat → List Nat → List (List Nat)
  | 0, _ => [[]]
  | _ + 1, [] => []
  | k + 1, w :: r => (lotsI k r).map (w :: ·) ++ lotsI (k + 1) r
/-! ### sorting -/
theorem strLt_asym : ∀ a b : List Nat, strLt a b = true → strLt b a = true → False
  | [], [], h, _ => by cases h
  | [], _ :: _, _, h => by cases h
  | _ :: _, [], h, _ => by cases h
  | a :: r, b :: t, h, k => by
    unfold strLt at h k
    by_cases c : a < b
    · rw [if_neg (by omega), if_pos c] at k
      cases k
    · rw [if_neg c] at h
      by_cases d : b < a
      · rw [if_pos d] at h
        cases h
      · rw [if_neg d] at h
        rw [if_neg d, if_neg c] at k
        exact strLt_asym r t h k
theorem strLt_neg : ∀ a b c : List Nat, strLt a c = true → strLt a b = true ∨ strLt b c = true
  | [], [], c, h => .inr h
  | [], _ :: _, _, _ => .inl rfl
  | _ :: _, _, [], h => by cases h
  | _ :: _, [], _ :: _, _ => .inr rfl
  | a :: r, b :: s, c :: t, h => by
    unfold strLt at h ⊢
    by_cases h1 : a < b
    · exact .inl (by rw [if_pos h1])
    · by_cases h2 : b < c
      · exact .inr (by rw [if_pos h2])
      · rw [if_neg h1, if_neg h2]
        by_cases h3 : b < a
        · rw [if_pos h3]
          by_cases h4 : c < b
          · rw [if_neg (by omega), if_pos (by omega)] at h
            cases h
          · rw [if_neg (by omega), if_pos (by omega)] at h
            cases h
        · rw [if_neg h3]
          by_cases h4 : c < b
          · rw [if_neg (by omega), if_pos (by omega)] at h
            cases h
          · rw [if_neg h4]
            rw [if_neg (by omega), if_neg (by omega)] at h
            exact strLt_neg r s t h
theorem ltTok_asym : ∀ a b, ltTok a b = true → ltTok b a = true → False
  | .inl a, .inl b, h, k => by simp [ltTok] at h k; omega
  | .inr a, .inr b, h, k => strLt_asym a b h k
  | .inl _, .inr _, _, k => by cases k
  | .inr _, .inl _, h, _ => by cases h
theorem ltTok_neg : ∀ a b c, ltTok a c = true → ltTok a b = true ∨ ltTok b c = true
  | .inl a, .inl b, .inl c, h => by simp [ltTok] at h ⊢; omega
  | .inr a, .inr b, .inr c, h => strLt_neg a b c h
  | .inl _, .inr _, _, _ => .inl rfl
  | .inr _, .inl _, .inr _, _ => .inr rfl
  | .inr _, _, .inl _, h => by cases h
  | .inl _, .inl _, .inr _, _ => .inr rfl
theorem ltToks_asym : ∀ a b, ltToks a b = true → ltToks b a = true → False
  | [], [], h, _ => by cases h
  | [], _ :: _, _, h => by cases h
  | _ :: _, [], h, _ => by cases h
  | x :: r, y :: t, h, k => by
    simp only [ltToks, Bool.or_eq_true, Bool.and_eq_true, Bool.not_eq_true'] at h k
    rcases h with h | ⟨h1, h2⟩
    · rcases k with k | ⟨k1, k2⟩
      · exact ltTok_asym _ _ h k
      · rw [h] at k1; cases k1
    · rcases k with k | ⟨k1, k2⟩
      · rw [k] at h1; cases h1
      · exact ltToks_asym r t h2 k2
theorem ltToks_neg : ∀ a b c, ltToks a c = true → ltToks a b = true ∨ ltToks b c = true
  | [], [], c, h => .inr h
  | [], _ :: _, _, _ => .inl rfl
  | _ :: _, _, [], h => by cases h
  | _ :: _, [], _ :: _, _ => .inr rfl
  | x :: r, y :: s, z :: t, h => by
    simp only [ltToks, Bool.or_eq_true, Bool.and_eq_true, Bool.not_eq_true'] at h ⊢
    rcases h with h | ⟨h1, h2⟩
    · rcases ltTok_neg x y z h with k | k
      · exact .inl (.inl k)
      · exact .inr (.inl k)
    · cases hxy : ltTok x y with
      | true => exact .inl (.inl rfl)
      | false =>
        cases hyz : ltTok y z with
        | true => exact .inr (.inl rfl)
        | false =>
          have n1 : ltTok y x = false := by
            rw [Bool.eq_false_iff]
            intro c
            rcases ltTok_neg y z x c with k | k
            · rw [hyz] at k; cases k
            · rw [h1] at k; cases k
          have n2 : ltTok z y = false := by
            rw [Bool.eq_false_iff]
            intro c
            rcases ltTok_neg z x y c with k | k
            · rw [h1] at k; cases k
            · rw [hxy] at k; cases k
          rcases ltToks_neg r s t h2 with k | k
          · exact .inl (.inr ⟨n1, k⟩)
          · exact .inr (.inr ⟨n2, k⟩)
theorem leD_total (a b : D) : (leD a b || leD b a) = true := by
  unfold leD
  cases h : ltToks (toksD b) (toksD a) with
  | false => rfl
  | true =>
    cases k : ltToks (toksD a) (toksD b) with
    | false => rfl
    | true => exact (ltToks_asym _ _ h k).elim
theorem leD_trans (a b c : D) (h : leD a b = true) (k : leD b c = true) : leD a c = true := by
  unfold leD at *
  simp only [Bool.not_eq_true'] at *
  rw [Bool.eq_false_iff]
  intro z
  rcases ltToks_neg _ (toksD b) _ z with w | w
  · rw [w] at k; cases k
  · rw [w] at h; cases h
/-- sorted: an ordered row of the same things -/
theorem sortD_of {key : D → D} {l m : List D} (h1 : sortable (l.map key) = true) (h2 : l.length ≤ 16777216) (hp : m.Perm l) (hs : m.Pairwise fun a b => ltToks (toksD (key a)) (toksD (key b)) = true) : sortD key l = some m := by
  unfold sortD
  rw [if_pos (by rw [h1, decide_eq_true h2]; rfl)]
  congr 1
  refine List.Perm.eq_of_pairwise (le := fun a b => leD (key a) (key b) = true) ?_ (List.pairwise_mergeSort (le := fun a b => leD (key a) (key b)) (fun a b c => leD_trans (key a) (key b) (key c)) (fun a b => leD_total (key a) (key b)) l) (hs.imp fun {a b} h => ?_) ((List.mergeSort_perm l _).trans hp.symm)
  · intro a b ha hb h k
    have ha : a ∈ m := ((List.mergeSort_perm l _).trans hp.symm).mem_iff.mp ha
    have key2 : a = b ∨ ltToks (toksD (key a)) (toksD (key b)) = true ∨ ltToks (toksD (key b)) (toksD (key a)) = true := by
      clear h k h1 h2 hp
      induction m with
      | nil => cases ha
      | cons x m ih =>
        rw [List.pairwise_cons] at hs
        rcases List.mem_cons.mp ha with e1 | ha1
        · rcases List.mem_cons.mp hb with e2 | hb1
          · exact .inl (e1.trans e2.symm)
          · subst e1; exact .inr (.inl (hs.1 b hb1))
        · rcases List.mem_cons.mp hb with e2 | hb1
          · subst e2; exact .inr (.inr (hs.1 a ha1))
          · exact ih hs.2 hb1 ha1
    unfold leD at h k
    simp only [Bool.not_eq_true'] at h k
    rcases key2 with e | e | e
    · exact e
    · rw [e] at k; cases k
    · rw [e] at h; cases h
  · unfold leD
    rw [Bool.not_eq_true']
    rw [Bool.eq_false_iff]
    exact fun z => ltToks_asym _ _ h z
/-- sorted: some row of the same things -/
theorem sortD_some {key : D → D} {l : List D} (h1 : sortable (l.map key) = true) (h2 : l.length ≤ 16777216) : ∃ m, sortD key l = some m ∧ m.Perm l := by
  unfold sortD
  rw [if_pos (by rw [h1, decide_eq_true h2]; rfl)]
  exact ⟨_, rfl, List.mergeSort_perm l _⟩
theorem srt_ix (n : Nat) (h : n ≤ 5) : srtLD (.lst ((ixs n).map iD)) = some (.lst ((ixo n).map iD), true) := by
  have key : ∀ n, n ≤ 5 → sortable (((ixs n).map iD).map lenKey) = true ∧ (ixs n).length ≤ 1000 ∧ (ixo n).length ≤ 1000 ∧ (ixo n).isPerm (ixs n) = true ∧ (((ixo n).map iD).Pairwise fun a b => ltToks (toksD (lenKey a)) (toksD (lenKey b)) = true) ∧ ((ixs n).map iD).all isTupD = true := by
    intro n hn
    have : n = 0 ∨ n = 1 ∨ n = 2 ∨ n = 3 ∨ n = 4 ∨ n = 5 := by omega
    rcases this with rfl | rfl | rfl | rfl | rfl | rfl <;> decide +kernel
  obtain ⟨h1, h2, h3, h4, h5, h6⟩ := key n h
  have s := sortD_of (key := lenKey) (l := (ixs n).map iD) (m := (ixo n).map iD) h1 (by rw [List.length_map]; omega) ((List.isPerm_iff.mp h4).map iD) h5
  simp only [srtLD]
  rw [if_pos h6, s]
  show mkL _ = _
  exact mkL_ok (by rw [List.length_map]; unfold big; omega)
end PX
end

section
set_option autoImplicit false
set_option linter.all false
set_option maxRecDepth 100000
set_option maxHeartbeats 4000000
/-! P17: the law's menus are the book's. -/
namespace PX
open PC PF
variable {G : Gl} {cf : CF} {th : Option (Gs → Re)}
/-- things by places -/
def at_ (ws : List Wd) (is : List Nat) : List Wd := is.map fun i => ws.getD i []
theorem lots_map (f : Nat → Wd) : ∀ (k : Nat) (is : List Nat), lots k (is.map f) = (ixo.lotsI k is).map fun v => v.map f
  | 0, _ => by simp [lots, ixo.lotsI]
  | k + 1, [] => by simp [lots, ixo.lotsI]
  | k + 1, i :: is => by
    simp only [List.map_cons, lots, ixo.lotsI, List.map_append, List.map_map, lots_map f k is]
    rw [lots_map f (k + 1) is]
    rfl
theorem range_at (ws : List Wd) : at_ ws (List.range ws.length) = ws := by
  unfold at_
  apply List.ext_getElem
  · simp
  · intro i h1 h2
    simp [List.getD_eq_getElem?_getD, List.getElem?_eq_getElem h2]
theorem lotsI_len : ∀ (k : Nat) (is v : List Nat), v ∈ ixo.lotsI k is → v.length = k
  | 0, _, v, h => by simp [ixo.lotsI] at h; simp [h]
  | k + 1, [], v, h => by simp [ixo.lotsI] at h
  | k + 1, i :: is, v, h => by
    simp only [ixo.lotsI, List.mem_append, List.mem_map] at h
    rcases h with ⟨u, hu, rfl⟩ | h
    · simp [lotsI_len k is u hu]
    · exact lotsI_len (k + 1) is v h
theorem lotsI_mem : ∀ (k : Nat) (is v : List Nat), v ∈ ixo.lotsI k is → ∀ i ∈ v, i ∈ is
  | 0, _, v, h => by simp [ixo.lotsI] at h; simp [h]
  | k + 1, [], v, h => by simp [ixo.lotsI] at h
  | k + 1, j :: is, v, h => by
    simp only [ixo.lotsI, List.mem_append, List.mem_map] at h
    rcases h with ⟨u, hu, rfl⟩ | h
    · intro i hi
      rcases List.mem_cons.mp hi with rfl | hi
      · exact List.mem_cons_self
      · exact List.mem_cons_of_mem _ (lotsI_mem k is u hu i hi)
    · exact fun i hi => List.mem_cons_of_mem _ (lotsI_mem (k + 1) is v h i hi)
theorem ixo_mem {n : Nat} {v : List Nat} (h : v ∈ ixo n) : ∀ i ∈ v, i < n := fun i hi => by
  obtain ⟨k, _, hk⟩ := List.mem_flatMap.mp h
  exact List.mem_range.mp (lotsI_mem _ _ _ hk i hi)
/-- the lots of two or more -/
def ixm (n : Nat) : List (List Nat) := (ixo n).filter fun is => decide (1 < is.length)
theorem ixm_all (ws : List Wd) (h : 2 ≤ ws.length) : (ixm ws.length).map (at_ ws) = allM ws := by
  have e1 : ∀ k, (ixo.lotsI k (List.range ws.length)).map (at_ ws) = lots k ws := fun k => by
    have := lots_map (fun i => ws.getD i []) k (List.range ws.length)
    rw [show (List.range ws.length).map (fun i => ws.getD i []) = ws from range_at ws] at this
    exact this.symm
  have e2 : ∀ k, (ixo.lotsI k (List.range ws.length)).filter (fun is => decide (1 < is.length)) = if 1 < k then ixo.lotsI k (List.range ws.length) else [] := fun k => by
    by_cases c : 1 < k
    · rw [if_pos c, List.filter_eq_self]
      intro v hv
      rw [lotsI_len _ _ _ hv]
      exact decide_eq_true c
    · rw [if_neg c, List.filter_eq_nil_iff]
      intro v hv
      rw [lotsI_len _ _ _ hv]
      simpa using c
  unfold ixm ixo allM
  rw [List.filter_flatMap, List.map_flatMap]
  obtain ⟨m, hm⟩ : ∃ m, ws.length = m + 1 := ⟨ws.length - 1, by omega⟩
  have : (List.range (ws.length + 1)) = 0 :: 1 :: (List.range (ws.length - 1)).map (· + 2) := by
    rw [hm, List.range_succ_eq_map, List.range_succ_eq_map]
    simp
  rw [this, List.flatMap_cons, List.flatMap_cons, e2, e2, List.flatMap_map]
  simp only [Nat.not_lt_zero, Nat.lt_irrefl, if_false, List.map_nil, List.nil_append]
  congr 1
  funext i
  rw [e2, if_pos (by omega), e1]
/-- for: every turn does something or nothing with what was gathered -/
theorem law_menus (n : Nat) {ws : List Wd} {fr : Bool} {g : Gs} (hf : G.fn 36 = some f36) (h2 : 2 ≤ ws.length) (h5 : ws.length ≤ 5) : evFn G (n + 1) 36 [(.tup (sD ws), fr)] none g = .ok (.lst (mD (allM ws))) true g := by
  let L : Nat → List D := fun k => (ixs k).map iD
  have Ll : ∀ k, k ≤ 5 → (ixs k).length ≤ 32 := by
    have : ∀ k, (ixs k).length = 2 ^ k := fun k => by
      induction k with
      | zero => rfl
      | succ k ih => simp only [ixs, List.length_append, List.length_map, ih, Nat.pow_succ]; omega
    intro k hk
    rw [this]
    exact Nat.pow_le_pow_right (by omega) hk
  have Lm : ∀ k, k ≤ 5 → ∀ v ∈ ixs k, v.length ≤ 5 := by
    have : ∀ k, ∀ v ∈ ixs k, v.length ≤ k := fun k => by
      induction k with
      | zero => intro v hv; simp [ixs] at hv; simp [hv]
      | succ k ih =>
        intro v hv
        simp only [ixs, List.mem_append, List.mem_map] at hv
        rcases hv with hv | ⟨u, hu, rfl⟩
        · have := ih v hv; omega
        · have := ih u hu; simp; omega
    intro k hk v hv
    have := this k v hv
    omega
  -- the first loop
  have go1 := forL_ix (body := fun x s3 => (opt (bindT (.n 1) x s3) s3).bind fun z _ => evSs G (evFn G n) none [.set 3 false (.bin .add (.v 3) (.lc (.bin .add (.v 2) (.tup [(.v 1)])) (.n 2) (.v 3) []))] z)
    (fun j s => ∃ s1, s = ⟨[.va (.tup (sD ws)), s1, .un, .va (.lst (L j)), .ow (.lst []), .un], g⟩ ∧ ∀ d, s1 ≠ .ow d) ((List.range ws.length).map fun (k : Nat) => D.int k) 0 ⟨[.va (.tup (sD ws)), .un, .un, .va (.lst (L 0)), .ow (.lst []), .un], g⟩ ?_ ⟨.un, rfl, fun d => by nofun⟩
  · obtain ⟨s1', e1, q, rfl, hq⟩ := go1
    rw [List.length_map, List.length_range, Nat.zero_add] at e1
    -- the second loop
    have go2 := forL_ix (body := fun x s3 => (opt (bindT (.n 2) x s3) s3).bind fun z _ => evSs G (evFn G n) none [.ife (.cmp .gt (.bi .len [(.v 2)]) (.c (.int 1))) [.ex (.bm .append (.v 4) [(.bi .tuple [(.lc (.idx (.v 0) (.v 1)) (.n 1) (.v 2) [])])])] []] z)
      (fun j s => ∃ s2, s = ⟨[.va (.tup (sD ws)), q, s2, .va (.lst (L ws.length)), .ow (.lst ((((ixo ws.length).take j).filter fun is => decide (1 < is.length)).map fun is => tS (at_ ws is))), .un], g⟩) ((ixo ws.length).map iD) 0 ⟨[.va (.tup (sD ws)), q, .un, .va (.lst (L ws.length)), .ow (.lst []), .un], g⟩ ?_ ⟨.un, rfl⟩
    · obtain ⟨s2', e2, r, rfl⟩ := go2
      rw [List.length_map, Nat.zero_add, List.take_length] at e2
      have em : (((ixo ws.length).filter fun is => decide (1 < is.length)).map fun is => tS (at_ ws is)) = mD (allM ws) := by
        rw [← ixm_all ws h2]
        unfold mD ixm
        rw [List.map_map]
        rfl
      rw [em] at e2
      refine fn_ret (n := n) (ds := [.tup (sD ws)]) (s := [.va (.tup (sD ws)), q, r, .va (.lst (L ws.length)), .un, .un]) hf rfl rfl ?_
      show evSs G (evFn G n) none f36.body ⟨[.va (.tup (sD ws)), .un, .un, .un, .un, .un], g⟩ = _
      have p1 : evS G (evFn G n) none (.par [(3, false), (4, true)] [(.lst [(.tup [])]), (.lst [])]) ⟨[.va (.tup (sD ws)), .un, .un, .un, .un, .un], g⟩ = .ok .nx ⟨[.va (.tup (sD ws)), .un, .un, .va (.lst (L 0)), .ow (.lst []), .un], g⟩ := by
        have l0 : L 0 = [.tup []] := rfl
        rw [l0]
        simp [evSs, evS, evE, evL, evA, rd, pk, lk, quiet, quietL, looked, isDs, Rs.bind, drf, toB, opt, idxV, idxD, ixOf, clsOf, binD, cmpV, inC, cmpD, biV, biD, bindT, bindTs, setIx, isLs, put, perm, isId, dflOf, permF, isDfl, Re.rs, walkI, walkS, tyIs, prt, slcD, attrD, fldsOf, fGet, viaM, wip, ownT, ownTs, back, notB, isMut, mutD, bmD, args, puts, mkT_ok (xs := []) (by decide), mkL_ok (xs := []) (by decide), mkL_ok (xs := [.tup []]) (by decide)]
      have r1 : evE G (evFn G n) none (.rng [(.bi .len [(.v 0)])]) ⟨[.va (.tup (sD ws)), .un, .un, .va (.lst (L 0)), .ow (.lst []), .un], g⟩ = .ok (.lst ((List.range ws.length).map fun (k : Nat) => .int k), true) ⟨[.va (.tup (sD ws)), .un, .un, .va (.lst (L 0)), .ow (.lst []), .un], g⟩ :=
        e_rng (l_c (e_bi1 (lk_va rfl) rfl (by simp only [drf, biD, sD_len])) l_n) (by omega)
      have r2 : evE G (evFn G n) none (.srtL (.v 3)) ⟨[.va (.tup (sD ws)), q, .un, .va (.lst (L ws.length)), .ow (.lst []), .un], g⟩ = .ok (.lst ((ixo ws.length).map iD), true) ⟨[.va (.tup (sD ws)), q, .un, .va (.lst (L ws.length)), .ow (.lst []), .un], g⟩ := by
        rw [evE, lk_va rfl]
        show opt (srtLD (.lst (L ws.length))) _ = _
        rw [srt_ix ws.length h5]
        rfl
      refine (ss_nx p1).trans ((ss_nx (s1 := ⟨[.va (.tup (sD ws)), q, .un, .va (.lst (L ws.length)), .ow (.lst []), .un], g⟩) ?_).trans ((ss_nx (s1 := ⟨[.va (.tup (sD ws)), q, r, .va (.lst (L ws.length)), .ow (.lst (mD (allM ws))), .un], g⟩) ?_).trans (ss_rt ?_)))
      · rw [s_for, r1]
        exact e1
      · rw [s_for, r2]
        exact e2
      · simp [evS, pk, Rs.bind]
    · rintro j hj s ⟨s2, rfl⟩
      rw [List.length_map] at hj
      rw [Nat.zero_add]
      have gx : ((ixo ws.length).map iD)[j]'(by simpa using hj) = iD (ixo ws.length)[j] := by simp
      rw [gx]
      generalize hv : (ixo ws.length)[j] = v
      have hvm : ∀ i ∈ v, i < ws.length := ixo_mem (by rw [← hv]; exact List.getElem_mem _)
      have hvl : v.length ≤ 1000 := by
        have key : ∀ n, n ≤ 5 → ∀ v ∈ ixo n, v.length ≤ 1000 := by
          intro n hn
          have : n = 0 ∨ n = 1 ∨ n = 2 ∨ n = 3 ∨ n = 4 ∨ n = 5 := by omega
          rcases this with rfl | rfl | rfl | rfl | rfl | rfl <;> decide +kernel
        exact key _ h5 v (by rw [← hv]; exact List.getElem_mem _)
      have hol : (ixo ws.length).length ≤ 1000 := by
        have key : ∀ n, n ≤ 5 → (ixo n).length ≤ 1000 := by
          intro n hn
          have : n = 0 ∨ n = 1 ∨ n = 2 ∨ n = 3 ∨ n = 4 ∨ n = 5 := by omega
          rcases this with rfl | rfl | rfl | rfl | rfl | rfl <;> decide +kernel
        exact key _ h5
      rw [List.take_succ_eq_append_getElem hj, hv, List.filter_append, List.map_append]
      generalize hA : ((((ixo ws.length).take j).filter fun is => decide (1 < is.length)).map fun is => tS (at_ ws is)) = A
      have hAl : A.length < big := by
        rw [← hA, List.length_map]
        have := List.length_filter_le (fun is => decide (1 < is.length)) ((ixo ws.length).take j)
        rw [List.length_take] at this
        unfold big; omega
      have sb : ((opt (bindT (.n 2) (iD v) ⟨[.va (.tup (sD ws)), q, s2, .va (.lst (L ws.length)), .ow (.lst A), .un], g⟩) ⟨[.va (.tup (sD ws)), q, s2, .va (.lst (L ws.length)), .ow (.lst A), .un], g⟩).bind fun z _ => evSs G (evFn G n) none [.ife (.cmp .gt (.bi .len [(.v 2)]) (.c (.int 1))) [.ex (.bm .append (.v 4) [(.bi .tuple [(.lc (.idx (.v 0) (.v 1)) (.n 1) (.v 2) [])])])] []] z) = evSs G (evFn G n) none [.ife (.cmp .gt (.bi .len [(.v 2)]) (.c (.int 1))) [.ex (.bm .append (.v 4) [(.bi .tuple [(.lc (.idx (.v 0) (.v 1)) (.n 1) (.v 2) [])])])] []] ⟨[.va (.tup (sD ws)), q, .va (iD v), .va (.lst (L ws.length)), .ow (.lst A), .un], g⟩ := rfl
      have tst : evE G (evFn G n) none (.cmp .gt (.bi .len [(.v 2)]) (.c (.int 1))) ⟨[.va (.tup (sD ws)), q, .va (iD v), .va (.lst (L ws.length)), .ow (.lst A), .un], g⟩ = .ok (.bl (decide (1 < v.length)), false) ⟨[.va (.tup (sD ws)), q, .va (iD v), .va (.lst (L ws.length)), .ow (.lst A), .un], g⟩ := by
        refine e_cmp (x := .int v.length) (f1 := false) (f2 := false) ((lk_nv (by simp)).trans (e_bi1 (lk_va (d := iD v) rfl) rfl ?_)) ((lk_nv (by simp)).trans e_c) rfl rfl ?_
        · simp [drf, iD, biD]
        · have : decide ((1 : Int) < v.length) = decide (1 < v.length) := decide_eq_decide.mpr (by omega)
          simp only [cmpD, this]
      by_cases c : 1 < v.length
      · refine ⟨⟨[.va (.tup (sD ws)), q, .va (iD v), .va (.lst (L ws.length)), .ow (.lst (A ++ [tS (at_ ws v)])), .un], g⟩, ?_, .va (iD v), by simp [c]⟩
        refine sb.trans ?_
        rw [decide_eq_true c] at tst
        have lc := lc_0 (G := G) (cf := evFn G n) (th := none) (e := .idx (.v 0) (.v 1)) (it := .v 2) (t := .n 1) (s := ⟨[.va (.tup (sD ws)), q, .va (iD v), .va (.lst (L ws.length)), .ow (.lst A), .un], g⟩) (r := (iD v, false)) v (fun i => .int i) (fun i => .str (ws.getD i [])) (fun i => ⟨[.va (.tup (sD ws)), .va (.int i), .va (iD v), .va (.lst (L ws.length)), .ow (.lst A), .un], g⟩) (fun _ => false) (lk_va rfl) ?_ rfl (by unfold big; omega) (fun _ _ => rfl) ?_ (fun _ _ => rfl)
        · have et := e_bi1 (b := .tuple) (r := (tS (at_ ws v), false)) ((lk_nv (by simp)).trans lc) rfl (by
            simp only [drf, biD]
            unfold tS sD at_
            rw [List.map_map]
            rfl)
          exact (ss_nx ((s_ifT tst).trans ((ss_nx (s_app rfl et rfl hAl)).trans ss_nil))).trans ss_nil
        · cases q <;> first | rfl | exact absurd rfl (hq _)
        · intro i hi
          have hi' := hvm i hi
          have gi : ws[i]? = some ws[i] := List.getElem?_eq_getElem hi'
          have gd : ws.getD i [] = ws[i] := by rw [List.getD_eq_getElem?_getD, gi]; rfl
          have hlt : (i : Int) < ws.length := by omega
          simp [evSs, evS, evE, evL, evA, rd, pk, lk, quiet, quietL, looked, isDs, Rs.bind, drf, toB, opt, idxV, idxD, ixOf, clsOf, binD, cmpV, inC, cmpD, biV, biD, bindT, bindTs, setIx, isLs, put, perm, isId, dflOf, permF, isDfl, Re.rs, walkI, walkS, tyIs, prt, slcD, attrD, fldsOf, fGet, viaM, wip, ownT, ownTs, back, notB, isMut, mutD, bmD, args, sD_len, sD_get, hi', gi]
      · refine ⟨⟨[.va (.tup (sD ws)), q, .va (iD v), .va (.lst (L ws.length)), .ow (.lst A), .un], g⟩, ?_, .va (iD v), by simp [c]⟩
        refine sb.trans ?_
        rw [decide_eq_false c] at tst
        exact (ss_nx ((s_ifF tst).trans ss_nil)).trans ss_nil
  · rintro j hj s ⟨s1, rfl, hs1⟩
    rw [List.length_map, List.length_range] at hj
    rw [Nat.zero_add]
    refine ⟨⟨[.va (.tup (sD ws)), .va (.int j), .un, .va (.lst (L (j + 1))), .ow (.lst []), .un], g⟩, ?_, _, rfl, fun d => by nofun⟩
    have gx : ((List.range ws.length).map fun (k : Nat) => D.int k)[j]'(by simpa using hj) = .int j := by simp
    rw [gx]
    show evSs G (evFn G n) none _ ⟨[.va (.tup (sD ws)), .va (.int j), .un, .va (.lst (L j)), .ow (.lst []), .un], g⟩ = _
    have lj := Ll j (by omega)
    have lj1 := Ll (j + 1) (by omega)
    have lc := lc_0 (G := G) (cf := evFn G n) (th := none) (e := .bin .add (.v 2) (.tup [(.v 1)])) (it := .v 3) (t := .n 2) (s := ⟨[.va (.tup (sD ws)), .va (.int j), .un, .va (.lst (L j)), .ow (.lst []), .un], g⟩) (r := (.lst (L j), false)) (ixs j) iD (fun v => iD (v ++ [j])) (fun v => ⟨[.va (.tup (sD ws)), .va (.int j), .va (iD v), .va (.lst (L j)), .ow (.lst []), .un], g⟩) (fun _ => false) (lk_va rfl) rfl rfl (by unfold big; omega) (fun _ _ => rfl) ?_ (fun _ _ => rfl)
    · have mt : mkL (L j ++ (ixs j).map fun v => iD (v ++ [j])) = some (.lst (L (j + 1)), true) := by
        have e : (L j ++ (ixs j).map fun v => iD (v ++ [j])) = L (j + 1) := by
          show _ = (ixs j ++ (ixs j).map (· ++ [j])).map iD
          rw [List.map_append, List.map_map]
          rfl
        rw [e]
        refine mkL_ok ?_
        show ((ixs (j + 1)).map iD).length ≤ big
        rw [List.length_map]
        unfold big; omega
      exact (ss_nx (s_set (e_bin (lk_va rfl) ((lk_nv (by simp)).trans lc) (by simp only [binD, drf]; exact mt)))).trans ss_nil
    · intro v hv
      have := Lm j (by omega) v hv
      refine e_bin (lk_va rfl) ((lk_nv (by simp)).trans (e_tup (l_c (e_v rfl) l_n) (mkT_ok (by simp [big])))) ?_
      simp only [binD, drf, iD]
      rw [List.map_append]
      exact mkT_ok (by simp; unfold big; omega)
end PX
end

section
set_option autoImplicit false
set_option linter.all false
set_option maxRecDepth 100000
set_option maxHeartbeats 4000000
/-! P18: a purse at work; a deed (k06). -/
namespace PX
open PC PF
variable {G : Gl} {cf : CF} {th : Option (Gs → Re)}
/-! ### rolls in expressions -/
theorem rollE (n : Nat) {a b z k : Int} {f : Bool} {e : E} {s : Sg} (hf : G.fn 32 = some f32) (h : puOk a b) (h1 : 1 ≤ k) (h2 : k < 1073741824) (h0 : s[0]? = some (.va (.cell 0))) (he : evE G (evFn G (n + 1)) none e ⟨s, pu a b z⟩ = .ok (.int k, f) ⟨s, pu a b z⟩) (hn : ∀ a, e ≠ .star a := by intro a; nofun) :
    ∃ r a' b' z', evE G (evFn G (n + 1)) none (.call 32 [(.v 0), e] [.inl 0, .inl 1]) ⟨s, pu a b z⟩ = .ok (.int r, false) ⟨s, pu a' b' z'⟩ ∧ puOk a' b' ∧ 0 ≤ r ∧ r < k := by
  obtain ⟨r, a', b', z', e1, ok, r0, r1⟩ := roll (G := G) n (z := z) (s := k) hf h h1 h2
  have key : evFn G (n + 1) 32 [(.cell 0, false), (.int k, f)] none (pu a b z) = .ok (.int r) false (pu a' b' z') := by
    have : evFn G (n + 1) 32 [(.cell 0, false), (.int k, f)] none (pu a b z) = evFn G (n + 1) 32 [(.cell 0, false), (.int k, false)] none (pu a b z) := by
      rw [fn1 hf rfl, fn1 hf rfl]
      rfl
    rw [this]
    exact e1
  exact ⟨r, a', b', z', e_call (l_c (e_v h0) (l_c he l_n hn)) rfl key, ok, r0, r1⟩
theorem pickE (n : Nat) {a b z : Int} {t f : Bool} {xs : List D} {e : E} {s : Sg} (hf : G.fn 32 = some f32) (hg : G.fn 33 = some f33) (h : puOk a b) (h1 : xs ≠ []) (h2 : xs.length < 1073741824) (h0 : s[0]? = some (.va (.cell 0))) (he : evE G (evFn G (n + 2)) none e ⟨s, pu a b z⟩ = .ok (dS t xs, f) ⟨s, pu a b z⟩) (hn : ∀ a, e ≠ .star a := by intro a; nofun) :
    ∃ x a' b' z', evE G (evFn G (n + 2)) none (.call 33 [(.v 0), e] [.inl 0, .inl 1]) ⟨s, pu a b z⟩ = .ok (x, false) ⟨s, pu a' b' z'⟩ ∧ puOk a' b' ∧ x ∈ xs := by
  obtain ⟨r, a', b', z', e1, ok, r0⟩ := PX.pick (G := G) n (z := z) (t := t) (fr := f) hf hg h h1 h2
  exact ⟨r, a', b', z', e_call (l_c (e_v h0) (l_c he l_n hn)) rfl e1, ok, r0⟩
theorem mixedE (n : Nat) {a b z : Int} {t f : Bool} {ws : List Wd} {e : E} {s : Sg} (hf : G.fn 32 = some f32) (hg : G.fn 34 = some f34) (h : puOk a b) (hw : okL ws) (h2 : ws.length < 100000) (h0 : s[0]? = some (.va (.cell 0))) (he : evE G (evFn G (n + 2)) none e ⟨s, pu a b z⟩ = .ok (dS t (sD ws), f) ⟨s, pu a b z⟩) (hn : ∀ a, e ≠ .star a := by intro a; nofun) :
    ∃ vs a' b' z', evE G (evFn G (n + 2)) none (.call 34 [(.v 0), e] [.inl 0, .inl 1]) ⟨s, pu a b z⟩ = .ok (.lst (sD vs), true) ⟨s, pu a' b' z'⟩ ∧ puOk a' b' ∧ vs.Perm ws := by
  obtain ⟨ys, a', b', z', e1, ok, p⟩ := mixed (G := G) n (z := z) (t := t) (fr := f) (xs := sD ws) hf hg h (shp_sD hw) (by rw [sD_len]; exact h2)
  obtain ⟨vs, rfl, pv⟩ := perm_sD p
  exact ⟨vs, a', b', z', e_call (l_c (e_v h0) (l_c he l_n hn)) rfl e1, ok, pv⟩
/-! ### rows of menus -/
theorem shp_tS {k : Nat} {m : List Wd} (h : okL m) : shp (k + 1) (tS m) = true := by
  unfold tS
  simp only [shp, shp_sD h]
theorem shp_mD {k : Nat} {ms : List (List Wd)} (h : ∀ m ∈ ms, okL m) : shpL (k + 1) (mD ms) = true := shpL_all.mpr fun x hx => by
  obtain ⟨m, hm, rfl⟩ := List.mem_map.mp hx
  exact shp_tS (h m hm)
theorem any_mD (x : List Wd) : ∀ ms : List (List Wd), ((mD ms).any fun y => eqv y (tS x)) = ms.contains x
  | [] => rfl
  | m :: ms => by
    show (eqv (tS m) (tS x) || (mD ms).any fun y => eqv y (tS x)) = _
    rw [any_mD x ms, eqv_tS, List.contains_cons]
    congr 1
    rw [Bool.eq_iff_iff, beq_iff_eq, beq_iff_eq]
    exact ⟨Eq.symm, Eq.symm⟩
theorem inD_mD {x : List Wd} {ms : List (List Wd)} (hx : okL x) (h : ∀ m ∈ ms, okL m) (t : Bool) : inD (tS x) (dS t (mD ms)) = some (ms.contains x) := by
  cases t <;> simp only [inD, dS, shp_tS hx, shp_mD h, any_mD, Bool.and_self, if_true]
theorem eqv_mD : ∀ a b : List (List Wd), eqvL (mD a) (mD b) = (a == b)
  | [], [] => rfl
  | [], _ :: _ => rfl
  | _ :: _, [] => rfl
  | x :: a, y :: b => by
    show (eqv (tS x) (tS y) && eqvL (mD a) (mD b)) = _
    rw [eqv_tS, eqv_mD a b]
    rfl
theorem allM_ok {ws : List Wd} (hw : Ws ws) : ∀ m ∈ allM ws, okL m := fun m hm w hw' => ((allM_nm hw hm).1 w hw').ok
theorem told_sub {ws : List Wd} {ls : List Lne} {m : List Wd} (h : m ∈ told ws ls) : m ∈ allM ws := (List.mem_filter.mp h).1
/-! ### rows of lines -/
theorem nodup_len {α : Type} [DecidableEq α] {a b : List α} (ha : a.Nodup) (hb : b.Nodup) (h : ∀ x ∈ a, x ∈ b) : a.length ≤ b.length := by
  have p : (b.filter fun x => a.contains x).Perm a := by
    refine perm_of_sub (hb.sublist List.filter_sublist) ha fun x => ?_
    rw [List.mem_filter, List.contains_iff_mem]
    exact ⟨fun h => h.2, fun k => ⟨h x k, k⟩⟩
  rw [← p.length_eq]
  exact List.length_filter_le ..
theorem Ls.mk' {ws : List Wd} {ls : List Lne} (hw : Ws ws) (h : ∀ l ∈ ls, Ln ws l) (hn : (ls.map fun l => ord ws l.1).Nodup) : Ls ws ls := by
  refine ⟨h, hn, ?_⟩
  have := nodup_len hn (allM_nodup hw.nd) fun x hx => by
    obtain ⟨l, hl, rfl⟩ := List.mem_map.mp hx
    exact ord_mem hw (h l hl)
  rw [List.length_map] at this
  have := allM_len hw.hi
  omega
theorem Ls.sub {ws : List Wd} {ls ls2 : List Lne} (h : Ls ws ls) (hs : ls2.Sublist ls) : Ls ws ls2 :=
  ⟨fun l hl => h.ln l (hs.subset hl), h.nd.sublist (hs.map _), Nat.le_trans hs.length_le h.hi⟩
theorem take_drop_sub {α : Type} (xs : List α) (k : Nat) : (xs.take k ++ xs.drop (k + 1)).Sublist xs := by
  have h : (xs.drop (k + 1)).Sublist (xs.drop k) := by
    rw [← List.drop_drop (i := 1) (j := k)] <;> exact List.drop_sublist ..
  have := (List.Sublist.refl (xs.take k)).append h
  rwa [List.take_append_drop] at this
/-- the line for a mixed menu and a pick of it -/
theorem ln_of {ws m us : List Wd} {p : Wd} (hw : Ws ws) (hm : m ∈ allM ws) (hu : us.Perm m) (hp : p ∈ m) : Ln ws (us, p) ∧ ord ws us = m := by
  obtain ⟨hs, h2⟩ := mem_allM.mp hm
  refine ⟨⟨by show 2 ≤ us.length; rw [hu.length_eq]; exact h2, hu.symm.nodup (hw.nd.sublist hs), fun u h => hs.subset (hu.mem_iff.mp h), hu.mem_iff.mpr hp⟩, ?_⟩
  refine Eq.trans ?_ (ord_sub hs hw.nd)
  unfold ord
  refine List.filter_congr fun x _ => ?_
  rw [Bool.eq_iff_iff, List.contains_iff_mem, List.contains_iff_mem]
  exact hu.mem_iff
theorem lt_asc (us : List Wd) (p : Wd) : (joinL [32] us ++ [32, 61, 32]) ++ p = lt (us, p) := List.append_assoc ..
/-! ### a deed -/
structure GD (G : Gl) : Prop where
  B : GB G
  f18 : G.fn 18 = some f18
  f19 : G.fn 19 = some f19
  f21 : G.fn 21 = some f21
  f60 : G.fn 60 = some f60
  f61 : G.fn 61 = some f61
  f62 : G.fn 62 = some f62
  f63 : G.fn 63 = some f63
  f32 : G.fn 32 = some f32
  f33 : G.fn 33 = some f33
  f34 : G.fn 34 = some f34
  f36 : G.fn 36 = some f36
  a8 : G.at_ 29 8 = some (.prop 21)
  m28 : G.meth 29 28 = some 63
  m29 : G.meth 29 29 = some 62
theorem deed (n : Nat) {a b z : Int} {ws : List Wd} {ls : List Lne} {k1 k2 k3 k4 : Bool} (D' : GD G) (h64 : G.fn 64 = some f64) (h : puOk a b) (hw : Ws ws) (hl : Ls ws ls) :
    ∃ ls' a' b' z', evFn G (n + 10) 64 [(.cell 0, k1), (Bo ws ls, k2), (.tup (sD ws), k3), (.tup (lD ls), k4)] none (pu a b z) = .ok (.tup [Bo ws ls', .tup (lD ls')]) false (pu a' b' z') ∧ puOk a' b' ∧ Ls ws ls' := by
  have B := D'.B
  let op : List (List Wd) := (allM ws).filter fun m => !(told ws ls).contains m
  have hopl : op.length ≤ 128 := Nat.le_trans (List.length_filter_le ..) (allM_len hw.hi)
  have hm : ∀ (g : Gs) (fr : Bool), evFn G (n + 9) 36 [(.tup (sD ws), fr)] none g = .ok (.lst (mD (allM ws))) true g := fun g fr => law_menus (n + 8) D'.f36 hw.lo hw.hi
  have at8 : ∀ (s : Sg) (g : Gs), s[1]? = some (.va (Bo ws ls)) → evE G (evFn G (n + 9)) none (.attr (.v 1) 8) ⟨s, g⟩ = .ok (.tup (mD (told ws ls)), false) ⟨s, g⟩ := fun s g hs => e_prop (e_v hs) D'.a8 (g_told (n + 8) B D'.f21)
  have e1 : evS G (evFn G (n + 9)) none (.set 4 false (.lc (.v 5) (.n 5) (.call 36 [(.v 2)] [.inl 0]) [(.cmp .nin (.v 5) (.attr (.v 1) 8))])) ⟨[.va (.cell 0), .va (Bo ws ls), .va (.tup (sD ws)), .va (.tup (lD ls)), .un, .un, .un, .un, .un], pu a b z⟩ = .ok .nx ⟨[.va (.cell 0), .va (Bo ws ls), .va (.tup (sD ws)), .va (.tup (lD ls)), .va (.lst (mD op)), .un, .un, .un, .un], pu a b z⟩ := by
    have lc := lc_m (G := G) (cf := evFn G (n + 9)) (th := none) (e := .v 5) (it := .call 36 [(.v 2)] [.inl 0]) (t := .n 5) (cs := [(.cmp .nin (.v 5) (.attr (.v 1) 8))]) (s := ⟨[.va (.cell 0), .va (Bo ws ls), .va (.tup (sD ws)), .va (.tup (lD ls)), .un, .un, .un, .un, .un], pu a b z⟩) (r := (.lst (mD (allM ws)), true)) (allM ws) tS tS (fun m => !(told ws ls).contains m) (fun m => ⟨[.va (.cell 0), .va (Bo ws ls), .va (.tup (sD ws)), .va (.tup (lD ls)), .un, .va (tS m), .un, .un, .un], pu a b z⟩) (fun _ => false)
      ((lk_nv (by simp)).trans (e_call (l_c (e_v rfl) l_n) rfl (hm _ _))) rfl rfl (by have := allM_len hw.hi; unfold big; omega) (fun _ _ => rfl) (fun m hm' => ?_) (fun m _ _ => e_v rfl) (fun _ _ => rfl)
    · exact s_set lc
    · have i := inD_mD (allM_ok hw m hm') (fun x hx => allM_ok hw x (told_sub (ls := ls) hx)) true
      have ec : evE G (evFn G (n + 9)) none (.cmp .nin (.v 5) (.attr (.v 1) 8)) ⟨[.va (.cell 0), .va (Bo ws ls), .va (.tup (sD ws)), .va (.tup (lD ls)), .un, .va (tS m), .un, .un, .un], pu a b z⟩ = .ok (.bl (!(told ws ls).contains m), false) ⟨[.va (.cell 0), .va (Bo ws ls), .va (.tup (sD ws)), .va (.tup (lD ls)), .un, .va (tS m), .un, .un, .un], pu a b z⟩ :=
        e_cmp (x := tS m) (y := .tup (mD (told ws ls))) (lk_va rfl) ((lk_nv (by simp)).trans (at8 _ _ rfl)) rfl rfl (by simp only [dS] at i; simp only [cmpD, i, Option.map_some])
      simp only [evA, ec, Rs.bind, toB]
      cases (!(told ws ls).contains m) <;> rfl
  -- the two ways on
  have wayA : ∀ a b z : Int, puOk a b → ls ≠ [] → ∃ ls' a' b' z' s', evSs G (evFn G (n + 9)) none [.set 8 false (.call 32 [(.v 0), (.bi .len [(.v 3)])] [.inl 0, .inl 1]), .set 7 false (.ite (.cmp .eq (.call 32 [(.v 0), (.c (.int 2))] [.inl 0, .inl 1]) (.c (.int 0))) (.meth (.v 1) 28 [(.v 8)] [.inl 0]) (.meth (.v 1) 28 [(.v 8)] [.inl 0])), .ret (.tup [(.v 7), (.bin .add (.slc (.v 3) (.c .non) (.v 8)) (.slc (.v 3) (.bin .add (.v 8) (.c (.int 1))) (.c .non)))])] ⟨[.va (.cell 0), .va (Bo ws ls), .va (.tup (sD ws)), .va (.tup (lD ls)), .va (.lst (mD op)), .un, .un, .un, .un], pu a b z⟩ = .ok (.rt (.tup [Bo ws ls', .tup (lD ls')]) false) ⟨s', pu a' b' z'⟩ ∧ puOk a' b' ∧ Ls ws ls' := by
    intro a b z ok hne
    have hlen : 0 < ls.length := List.length_pos_iff.mpr hne
    have hlh := hl.hi
    obtain ⟨r, a1, b1, z1, r1, ok1, r0, rl⟩ := rollE (G := G) (n + 8) (z := z) (k := ls.length) (e := .bi .len [(.v 3)]) (s := [.va (.cell 0), .va (Bo ws ls), .va (.tup (sD ws)), .va (.tup (lD ls)), .va (.lst (mD op)), .un, .un, .un, .un]) D'.f32 ok (by omega) (by omega) rfl (e_bi1 (lk_va rfl) rfl (by simp only [drf, biD, lD_len]; rfl))
    obtain ⟨k, rfl⟩ := Int.eq_ofNat_of_zero_le r0
    have hk : k < ls.length := by omega
    obtain ⟨q, a2, b2, z2, r2, ok2, q0, ql⟩ := rollE (G := G) (n + 8) (z := z1) (k := 2) (e := .c (.int 2)) (s := [.va (.cell 0), .va (Bo ws ls), .va (.tup (sD ws)), .va (.tup (lD ls)), .va (.lst (mD op)), .un, .un, .un, .va (.int k)]) D'.f32 ok1 (by omega) (by omega) rfl e_c
    have ht : (Int.ofNat k) = (k : Int) := rfl
    have hl2 : Ls ws (ls.take k ++ ls.drop (k + 1)) := hl.sub (take_drop_sub ls k)
    have wo := without (G := G) n (ws := ws) (f1 := false) (f2 := false) (g := pu a2 b2 z2) B D'.f63 D'.f60 D'.f61 hw hl2 hk hlh (gk_pu _ _ _)
    refine ⟨ls.take k ++ ls.drop (k + 1), a2, b2, z2, [.va (.cell 0), .va (Bo ws ls), .va (.tup (sD ws)), .va (.tup (lD ls)), .va (.lst (mD op)), .un, .un, .va (Bo ws (ls.take k ++ ls.drop (k + 1))), .va (.int k)], ?_, ok2, hl2⟩
    have cq : evE G (evFn G (n + 9)) none (.cmp .eq (.call 32 [(.v 0), (.c (.int 2))] [.inl 0, .inl 1]) (.c (.int 0))) ⟨[.va (.cell 0), .va (Bo ws ls), .va (.tup (sD ws)), .va (.tup (lD ls)), .va (.lst (mD op)), .un, .un, .un, .va (.int k)], pu a1 b1 z1⟩ = .ok (.bl (q == 0), false) ⟨[.va (.cell 0), .va (Bo ws ls), .va (.tup (sD ws)), .va (.tup (lD ls)), .va (.lst (mD op)), .un, .un, .un, .va (.int k)], pu a2 b2 z2⟩ :=
      e_cmp ((lk_nv (by simp)).trans r2) ((lk_nv (by simp)).trans e_c) rfl rfl (by simp [cmpD, shp, eqv])
    have me : evE G (evFn G (n + 9)) none (.meth (.v 1) 28 [(.v 8)] [.inl 0]) ⟨[.va (.cell 0), .va (Bo ws ls), .va (.tup (sD ws)), .va (.tup (lD ls)), .va (.lst (mD op)), .un, .un, .un, .va (.int k)], pu a2 b2 z2⟩ = .ok (Bo ws (ls.take k ++ ls.drop (k + 1)), false) ⟨[.va (.cell 0), .va (Bo ws ls), .va (.tup (sD ws)), .va (.tup (lD ls)), .va (.lst (mD op)), .un, .un, .un, .va (.int k)], pu a2 b2 z2⟩ :=
      e_meth (e_v rfl) rfl (l_c (e_v rfl) l_n) rfl D'.m28 wo
    have c1 := cut_hi (xs := lD ls) (k := k) (by rw [lD_len]; omega)
    have c2 := cut_lo (xs := lD ls) (k := k + 1) (by rw [lD_len]; omega)
    have c2 : cutD (lD ls) (some ((k : Int) + 1)) none = (lD ls).drop (k + 1) := c2
    have st : (lD ls).take k ++ (lD ls).drop (k + 1) = lD (ls.take k ++ ls.drop (k + 1)) := by unfold lD; rw [List.map_append, List.map_take, List.map_drop]
    have mt : mkT ((lD ls).take k ++ (lD ls).drop (k + 1)) = some (.tup (lD (ls.take k ++ ls.drop (k + 1))), false) := by
      rw [st]
      refine mkT_ok ?_
      have := hl2.hi
      rw [lD_len]
      unfold big; omega
    refine (ss_nx (s_set r1)).trans ((ss_nx (s_set (r := (Bo ws (ls.take k ++ ls.drop (k + 1)), false)) (s1 := ⟨[.va (.cell 0), .va (Bo ws ls), .va (.tup (sD ws)), .va (.tup (lD ls)), .va (.lst (mD op)), .un, .un, .un, .va (.int k)], pu a2 b2 z2⟩) ?_)).trans (ss_rt (s_ret ?_ (by simp))))
    · rw [evE]
      show ((evE G (evFn G (n + 9)) none (.cmp .eq (.call 32 [(.v 0), (.c (.int 2))] [.inl 0, .inl 1]) (.c (.int 0))) ⟨[.va (.cell 0), .va (Bo ws ls), .va (.tup (sD ws)), .va (.tup (lD ls)), .va (.lst (mD op)), .un, .un, .un, .va (.int k)], pu a1 b1 z1⟩).bind _) = _
      rw [cq]
      show (if (q == 0) = true then evE G _ _ _ _ else evE G _ _ _ _) = _
      split <;> exact me
    · refine e_tup (l_c (e_v rfl) (l_c (x := (.tup (lD (ls.take k ++ ls.drop (k + 1))), false)) ?_ l_n)) (mkT_ok (by simp [big]))
      have q1 : evE G (evFn G (n + 9)) none (.slc (.v 3) (.c .non) (.v 8)) ⟨[.va (.cell 0), .va (Bo ws ls), .va (.tup (sD ws)), .va (.tup (lD ls)), .va (.lst (mD op)), .un, .un, .va (Bo ws (ls.take k ++ ls.drop (k + 1))), .va (.int k)], pu a2 b2 z2⟩ = .ok (.tup ((lD ls).take k), false) ⟨[.va (.cell 0), .va (Bo ws ls), .va (.tup (sD ws)), .va (.tup (lD ls)), .va (.lst (mD op)), .un, .un, .va (Bo ws (ls.take k ++ ls.drop (k + 1))), .va (.int k)], pu a2 b2 z2⟩ := by
        simp [evSs, evS, evE, evL, evA, rd, pk, lk, quiet, quietL, looked, isDs, Rs.bind, drf, toB, opt, idxV, idxD, ixOf, clsOf, binD, cmpV, inC, cmpD, biV, biD, bindT, bindTs, setIx, isLs, put, perm, isId, dflOf, permF, isDfl, Re.rs, walkI, walkS, tyIs, prt, slcD, attrD, fldsOf, fGet, viaM, wip, ownT, ownTs, back, notB, isMut, mutD, bmD, args, c1]
      have q2 : evE G (evFn G (n + 9)) none (.slc (.v 3) (.bin .add (.v 8) (.c (.int 1))) (.c .non)) ⟨[.va (.cell 0), .va (Bo ws ls), .va (.tup (sD ws)), .va (.tup (lD ls)), .va (.lst (mD op)), .un, .un, .va (Bo ws (ls.take k ++ ls.drop (k + 1))), .va (.int k)], pu a2 b2 z2⟩ = .ok (.tup ((lD ls).drop (k + 1)), false) ⟨[.va (.cell 0), .va (Bo ws ls), .va (.tup (sD ws)), .va (.tup (lD ls)), .va (.lst (mD op)), .un, .un, .va (Bo ws (ls.take k ++ ls.drop (k + 1))), .va (.int k)], pu a2 b2 z2⟩ := by
        simp [evSs, evS, evE, evL, evA, rd, pk, lk, quiet, quietL, looked, isDs, Rs.bind, drf, toB, opt, idxV, idxD, ixOf, clsOf, binD, cmpV, inC, cmpD, biV, biD, bindT, bindTs, setIx, isLs, put, perm, isId, dflOf, permF, isDfl, Re.rs, walkI, walkS, tyIs, prt, slcD, attrD, fldsOf, fGet, viaM, wip, ownT, ownTs, back, notB, isMut, mutD, bmD, args, c2]
      exact e_bin ((lk_nv (by simp)).trans q1) ((lk_nv (by simp)).trans q2) (by simp only [binD, drf]; exact mt)
  have wayB : ∀ a b z : Int, puOk a b → op ≠ [] → ∃ ls' a' b' z' s', evSs G (evFn G (n + 9)) none [.set 5 false (.call 33 [(.v 0), (.v 4)] [.inl 0, .inl 1]), .set 6 false (.bin .add (.bin .add (.bm .join (.c (.str [32])) [(.call 34 [(.v 0), (.v 5)] [.inl 0, .inl 1])]) (.c (.str [32, 61, 32]))) (.call 33 [(.v 0), (.v 5)] [.inl 0, .inl 1])), .set 7 false (.ite (.cmp .eq (.call 32 [(.v 0), (.c (.int 2))] [.inl 0, .inl 1]) (.c (.int 0))) (.meth (.v 1) 29 [(.v 6)] [.inl 0]) (.meth (.v 1) 29 [(.v 6)] [.inl 0])), .ret (.tup [(.v 7), (.bin .add (.v 3) (.tup [(.v 6)]))])] ⟨[.va (.cell 0), .va (Bo ws ls), .va (.tup (sD ws)), .va (.tup (lD ls)), .va (.lst (mD op)), .un, .un, .un, .un], pu a b z⟩ = .ok (.rt (.tup [Bo ws ls', .tup (lD ls')]) false) ⟨s', pu a' b' z'⟩ ∧ puOk a' b' ∧ Ls ws ls' := by
    intro a b z ok hne
    obtain ⟨x, a1, b1, z1, r1, ok1, hx⟩ := pickE (G := G) (n + 7) (z := z) (t := false) (f := false) (xs := mD op) (e := .v 4) (s := [.va (.cell 0), .va (Bo ws ls), .va (.tup (sD ws)), .va (.tup (lD ls)), .va (.lst (mD op)), .un, .un, .un, .un]) D'.f32 D'.f33 ok (by unfold mD; simpa using hne) (by rw [mD_len]; omega) rfl (e_v rfl)
    obtain ⟨m, hm', rfl⟩ := List.mem_map.mp hx
    have hmM : m ∈ allM ws := (List.mem_filter.mp hm').1
    have hmT : m ∉ told ws ls := fun q => by
      have := (List.mem_filter.mp hm').2
      rw [List.contains_iff_mem.mpr q] at this
      cases this
    have hm2 := (mem_allM.mp hmM).2
    have hml := (mem_allM.mp hmM).1.length_le
    have hwi := hw.hi
    obtain ⟨us, a2, b2, z2, r2, ok2, pu2⟩ := mixedE (G := G) (n + 7) (z := z1) (t := true) (f := false) (ws := m) (e := .v 5) (s := [.va (.cell 0), .va (Bo ws ls), .va (.tup (sD ws)), .va (.tup (lD ls)), .va (.lst (mD op)), .va (tS m), .un, .un, .un]) D'.f32 D'.f34 ok1 (allM_ok hw m hmM) (by omega) rfl (e_v rfl)
    obtain ⟨p0, a3, b3, z3, r3, ok3, hp0⟩ := pickE (G := G) (n + 7) (z := z2) (t := true) (f := false) (xs := sD m) (e := .v 5) (s := [.va (.cell 0), .va (Bo ws ls), .va (.tup (sD ws)), .va (.tup (lD ls)), .va (.lst (mD op)), .va (tS m), .un, .un, .un]) D'.f32 D'.f33 ok2 (fun q => by have := congrArg List.length q; rw [sD_len, List.length_nil] at this; omega) (by rw [sD_len]; omega) rfl (e_v rfl)
    obtain ⟨p, hp, rfl⟩ := List.mem_map.mp hp0
    obtain ⟨hln, hord⟩ := ln_of hw hmM pu2 hp
    obtain ⟨q, a4, b4, z4, r4, ok4, q0, ql⟩ := rollE (G := G) (n + 8) (z := z3) (k := 2) (e := .c (.int 2)) (s := [.va (.cell 0), .va (Bo ws ls), .va (.tup (sD ws)), .va (.tup (lD ls)), .va (.lst (mD op)), .va (tS m), .va (.str (lt (us, p))), .un, .un]) D'.f32 ok3 (by omega) (by omega) rfl e_c
    have hl2 : Ls ws (ls ++ [(us, p)]) := by
      refine Ls.mk' hw (fun l hl' => ?_) ?_
      · rcases List.mem_append.mp hl' with h | h
        · exact hl.ln l h
        · rw [List.mem_singleton.mp h]; exact hln
      · rw [List.map_append, List.nodup_append]
        refine ⟨hl.nd, by simp, ?_⟩
        intro x hx y hy e
        rw [List.map_singleton, List.mem_singleton] at hy
        obtain ⟨l, hl', rfl⟩ := List.mem_map.mp hx
        refine hmT ((mem_told hw hl.ln).mpr ⟨l, hl', ?_⟩)
        rw [e, hy]
        exact hord
    have wl := with_line (G := G) n (ws := ws) (f1 := false) (f2 := false) (g := pu a4 b4 z4) B D'.f62 hw hl2 (gk_pu _ _ _)
    refine ⟨ls ++ [(us, p)], a4, b4, z4, [.va (.cell 0), .va (Bo ws ls), .va (.tup (sD ws)), .va (.tup (lD ls)), .va (.lst (mD op)), .va (tS m), .va (.str (lt (us, p))), .va (Bo ws (ls ++ [(us, p)])), .un], ?_, ok4, hl2⟩
    have jl : ∀ t ∈ us, t.length ≤ 8 := fun t ht => by
      have := ((allM_nm hw hmM).1 t (pu2.mem_iff.mp ht)).hi
      omega
    have ul : us.length ≤ 5 := by rw [pu2.length_eq]; omega
    have ltl := lt_len hw hln
    have m1 : mkS (joinL [32] us ++ [32, 61, 32]) = some (.str (joinL [32] us ++ [32, 61, 32]), false) := by
      unfold mkS
      rw [if_pos]
      rw [← lt_asc, List.length_append] at ltl
      unfold big; omega
    have m2 : mkS ((joinL [32] us ++ [32, 61, 32]) ++ p) = some (.str (lt (us, p)), false) := by
      rw [lt_asc]
      unfold mkS
      rw [if_pos (by unfold big; omega)]
    have ej : evE G (evFn G (n + 9)) none (.bm .join (.c (.str [32])) [(.call 34 [(.v 0), (.v 5)] [.inl 0, .inl 1])]) ⟨[.va (.cell 0), .va (Bo ws ls), .va (.tup (sD ws)), .va (.tup (lD ls)), .va (.lst (mD op)), .va (tS m), .un, .un, .un], pu a1 b1 z1⟩ = .ok (.str (joinL [32] us), false) ⟨[.va (.cell 0), .va (Bo ws ls), .va (.tup (sD ws)), .va (.tup (lD ls)), .va (.lst (mD op)), .va (tS m), .un, .un, .un], pu a2 b2 z2⟩ :=
      e_bm1 (x := .str [32]) (f1 := false) rfl ((lk_nv (by simp)).trans e_c) ((lk_nv (by simp)).trans r2) (join_ok (c := 8) jl (by simp; unfold big; omega) false)
    have eb : evE G (evFn G (n + 9)) none (.bin .add (.bin .add (.bm .join (.c (.str [32])) [(.call 34 [(.v 0), (.v 5)] [.inl 0, .inl 1])]) (.c (.str [32, 61, 32]))) (.call 33 [(.v 0), (.v 5)] [.inl 0, .inl 1])) ⟨[.va (.cell 0), .va (Bo ws ls), .va (.tup (sD ws)), .va (.tup (lD ls)), .va (.lst (mD op)), .va (tS m), .un, .un, .un], pu a1 b1 z1⟩ = .ok (.str (lt (us, p)), false) ⟨[.va (.cell 0), .va (Bo ws ls), .va (.tup (sD ws)), .va (.tup (lD ls)), .va (.lst (mD op)), .va (tS m), .un, .un, .un], pu a3 b3 z3⟩ :=
      e_bin (x := (.str (joinL [32] us ++ [32, 61, 32]), false)) ((lk_nv (by simp)).trans (e_bin ((lk_nv (by simp)).trans ej) ((lk_nv (by simp)).trans e_c) (by simp only [binD, drf]; exact m1))) ((lk_nv (by simp)).trans r3) (by simp only [binD, drf]; exact m2)
    have cq : evE G (evFn G (n + 9)) none (.cmp .eq (.call 32 [(.v 0), (.c (.int 2))] [.inl 0, .inl 1]) (.c (.int 0))) ⟨[.va (.cell 0), .va (Bo ws ls), .va (.tup (sD ws)), .va (.tup (lD ls)), .va (.lst (mD op)), .va (tS m), .va (.str (lt (us, p))), .un, .un], pu a3 b3 z3⟩ = .ok (.bl (q == 0), false) ⟨[.va (.cell 0), .va (Bo ws ls), .va (.tup (sD ws)), .va (.tup (lD ls)), .va (.lst (mD op)), .va (tS m), .va (.str (lt (us, p))), .un, .un], pu a4 b4 z4⟩ :=
      e_cmp ((lk_nv (by simp)).trans r4) ((lk_nv (by simp)).trans e_c) rfl rfl (by simp [cmpD, shp, eqv])
    have me : evE G (evFn G (n + 9)) none (.meth (.v 1) 29 [(.v 6)] [.inl 0]) ⟨[.va (.cell 0), .va (Bo ws ls), .va (.tup (sD ws)), .va (.tup (lD ls)), .va (.lst (mD op)), .va (tS m), .va (.str (lt (us, p))), .un, .un], pu a4 b4 z4⟩ = .ok (Bo ws (ls ++ [(us, p)]), false) ⟨[.va (.cell 0), .va (Bo ws ls), .va (.tup (sD ws)), .va (.tup (lD ls)), .va (.lst (mD op)), .va (tS m), .va (.str (lt (us, p))), .un, .un], pu a4 b4 z4⟩ :=
      e_meth (e_v rfl) rfl (l_c (e_v rfl) l_n) rfl D'.m29 wl
    have mt : mkT (lD ls ++ [.str (lt (us, p))]) = some (.tup (lD (ls ++ [(us, p)])), false) := by
      rw [show lD (ls ++ [(us, p)]) = lD ls ++ [.str (lt (us, p))] by simp [lD]]
      refine mkT_ok ?_
      have := hl2.hi
      rw [List.length_append] at this ⊢
      rw [lD_len]
      simp only [List.length_singleton] at this ⊢
      unfold big; omega
    refine (ss_nx (s_set r1)).trans ((ss_nx (s_set eb)).trans ((ss_nx (s_set (r := (Bo ws (ls ++ [(us, p)]), false)) (s1 := ⟨[.va (.cell 0), .va (Bo ws ls), .va (.tup (sD ws)), .va (.tup (lD ls)), .va (.lst (mD op)), .va (tS m), .va (.str (lt (us, p))), .un, .un], pu a4 b4 z4⟩) ?_)).trans (ss_rt (s_ret ?_ (by simp)))))
    · rw [evE]
      show ((evE G (evFn G (n + 9)) none (.cmp .eq (.call 32 [(.v 0), (.c (.int 2))] [.inl 0, .inl 1]) (.c (.int 0))) ⟨[.va (.cell 0), .va (Bo ws ls), .va (.tup (sD ws)), .va (.tup (lD ls)), .va (.lst (mD op)), .va (tS m), .va (.str (lt (us, p))), .un, .un], pu a3 b3 z3⟩).bind _) = _
      rw [cq]
      show (if (q == 0) = true then evE G _ _ _ _ else evE G _ _ _ _) = _
      split <;> exact me
    · exact e_tup (l_c (e_v rfl) (l_c (x := (.tup (lD (ls ++ [(us, p)])), false)) (e_bin (lk_va rfl) ((lk_nv (by simp)).trans (e_tup (l_c (e_v rfl) l_n) (mkT_ok (by simp [big])))) (by simp only [binD, drf]; exact mt)) l_n)) (mkT_ok (by simp [big]))
  have eE : eqvL (lD ls) [] = ls.isEmpty := by
    rw [eqvL_nil]
    cases ls <;> rfl
  have eO : eqvL (mD op) [] = op.isEmpty := by
    rw [eqvL_nil]
    cases op <;> rfl
  have c1 : evE G (evFn G (n + 9)) none (.cmp .ne (.v 3) (.tup [])) ⟨[.va (.cell 0), .va (Bo ws ls), .va (.tup (sD ws)), .va (.tup (lD ls)), .va (.lst (mD op)), .un, .un, .un, .un], pu a b z⟩ = .ok (.bl (!ls.isEmpty), false) ⟨[.va (.cell 0), .va (Bo ws ls), .va (.tup (sD ws)), .va (.tup (lD ls)), .va (.lst (mD op)), .un, .un, .un, .un], pu a b z⟩ :=
    e_cmp (lk_va rfl) ((lk_nv (by simp)).trans (e_tup l_n (mkT_ok (by simp [big])))) rfl rfl (by
      have z : shpL 59 (lD ls) = true := by rw [lD_sD]; exact shp_sD (hl.ok hw)
      simp [cmpD, shp, shpL, z, eqv, eE])
  have c2 : evE G (evFn G (n + 9)) none (.cmp .eq (.v 4) (.lst [])) ⟨[.va (.cell 0), .va (Bo ws ls), .va (.tup (sD ws)), .va (.tup (lD ls)), .va (.lst (mD op)), .un, .un, .un, .un], pu a b z⟩ = .ok (.bl op.isEmpty, false) ⟨[.va (.cell 0), .va (Bo ws ls), .va (.tup (sD ws)), .va (.tup (lD ls)), .va (.lst (mD op)), .un, .un, .un, .un], pu a b z⟩ :=
    e_cmp (lk_va rfl) ((lk_nv (by simp)).trans (e_lst l_n (mkL_ok (by simp [big])))) rfl rfl (by
      have z : shpL 59 (mD op) = true := shp_mD fun m hm => allM_ok hw m (List.mem_filter.mp hm).1
      simp [cmpD, shp, shpL, z, eqv, eO])
  have fin_ : ∀ {ls' : List Lne} {a' b' z' : Int} {s' : Sg}, evSs G (evFn G (n + 9)) none f64.body ⟨[.va (.cell 0), .va (Bo ws ls), .va (.tup (sD ws)), .va (.tup (lD ls)), .un, .un, .un, .un, .un], pu a b z⟩ = .ok (.rt (.tup [Bo ws ls', .tup (lD ls')]) false) ⟨s', pu a' b' z'⟩ → evFn G (n + 10) 64 [(.cell 0, k1), (Bo ws ls, k2), (.tup (sD ws), k3), (.tup (lD ls), k4)] none (pu a b z) = .ok (.tup [Bo ws ls', .tup (lD ls')]) false (pu a' b' z') := fun he => fn_run (n := n + 9) (ds := [.cell 0, Bo ws ls, .tup (sD ws), .tup (lD ls)]) h64 rfl rfl he rfl
  cases hE : ls.isEmpty with
  | true =>
    have hE : ls = [] := List.isEmpty_iff.mp hE
    have hop : op ≠ [] := by
      have : told ws ls = [] := by
        rw [hE]
        unfold told
        rw [List.filter_eq_nil_iff]
        intro m _
        simp [tab]
      intro q
      have : op = allM ws := by
        show (allM ws).filter _ = _
        rw [List.filter_eq_self]
        intro m _
        rw [this]
        rfl
      rw [q] at this
      have hx : ws ∈ allM ws := mem_allM.mpr ⟨List.Sublist.refl _, hw.lo⟩
      rw [← this] at hx
      cases hx
    rw [hE] at c1
    obtain ⟨ls', a', b', z', s', r, ok, hl'⟩ := wayB a b z h hop
    exact ⟨ls', a', b', z', fin_ ((ss_nx e1).trans ((ss_nx ((s_ifF (e_andF (by rw [hE]; exact c1))).trans ss_nil)).trans r)), ok, hl'⟩
  | false =>
    rw [hE] at c1
    have hne : ls ≠ [] := fun q => by rw [q] at hE; cases hE
    cases hO : op.isEmpty with
    | true =>
      rw [hO] at c2
      obtain ⟨ls', a', b', z', s', r, ok, hl'⟩ := wayA a b z h hne
      exact ⟨ls', a', b', z', fin_ ((ss_nx e1).trans (ss_rt ((s_ifT ((e_and c1).trans (e_orT c2))).trans r))), ok, hl'⟩
    | false =>
      rw [hO] at c2
      have hop : op ≠ [] := fun q => by rw [q] at hO; cases hO
      obtain ⟨q, a1, b1, z1, r1, ok1, q0, ql⟩ := rollE (G := G) (n + 8) (z := z) (k := 3) (e := .c (.int 3)) (s := [.va (.cell 0), .va (Bo ws ls), .va (.tup (sD ws)), .va (.tup (lD ls)), .va (.lst (mD op)), .un, .un, .un, .un]) D'.f32 h (by omega) (by omega) rfl e_c
      have cq : evE G (evFn G (n + 9)) none (.cmp .eq (.call 32 [(.v 0), (.c (.int 3))] [.inl 0, .inl 1]) (.c (.int 0))) ⟨[.va (.cell 0), .va (Bo ws ls), .va (.tup (sD ws)), .va (.tup (lD ls)), .va (.lst (mD op)), .un, .un, .un, .un], pu a b z⟩ = .ok (.bl (q == 0), false) ⟨[.va (.cell 0), .va (Bo ws ls), .va (.tup (sD ws)), .va (.tup (lD ls)), .va (.lst (mD op)), .un, .un, .un, .un], pu a1 b1 z1⟩ :=
        e_cmp ((lk_nv (by simp)).trans r1) ((lk_nv (by simp)).trans e_c) rfl rfl (by simp [cmpD, shp, eqv])
      cases hq : q == 0 with
      | true =>
        rw [hq] at cq
        obtain ⟨ls', a', b', z', s', r, ok, hl'⟩ := wayA a1 b1 z1 ok1 hne
        exact ⟨ls', a', b', z', fin_ ((ss_nx e1).trans (ss_rt ((s_ifT ((e_and c1).trans ((e_or c2).trans cq))).trans r))), ok, hl'⟩
      | false =>
        rw [hq] at cq
        obtain ⟨ls', a', b', z', s', r, ok, hl'⟩ := wayB a1 b1 z1 ok1 hop
        exact ⟨ls', a', b', z', fin_ ((ss_nx e1).trans ((ss_nx ((s_ifF ((e_and c1).trans ((e_or c2).trans cq))).trans ss_nil)).trans r)), ok, hl'⟩
end PX
end

section
set_option autoImplicit false
set_option linter.all false
set_option maxRecDepth 100000
set_option maxHeartbeats 4000000
/-! P19: own == and str; the start of a law: cells, purses. -/
namespace PX
open PC PF
variable {G : Gl} {cf : CF} {th : Option (Gs → Re)}
theorem e_neO {a b : E} {s s1 s2 : St} {C m : Nat} {fs : List (Nat × D)} {y : D} {k f : Bool} (h1 : lk (quiet b) a s (evE G cf th a s) = .ok (.obj C fs, false) s1) (h2 : lk true b s1 (evE G cf th b s1) = .ok (y, false) s2) (la : looked a s1 = false) (lb : looked b s2 = false) (hm : G.meth C G.mEq = some m) (hc : cf m [(.obj C fs, false), (y, false)] none s2.g = .ok (.bl k) f s2.g) : evE G cf th (.cmp .ne a b) s = .ok (.bl (!k), false) s2 := by
  rw [evE, h1]
  show ((lk true b s1 _).bind _) = _
  rw [h2]
  show (if (inC .ne s2.g (.obj C fs) y && (looked a s1 || looked b s2 || false || false)) = true then _ else cmpV G cf .ne (.obj C fs, false) (y, false) s2) = _
  rw [la, lb]
  rw [if_neg (by simp)]
  simp only [cmpV, viaM, hm]
  rw [show cf m [(D.obj C fs, false), (y, false)] none s2.g = .ok (.bl k) f s2.g from hc]
  rfl
theorem e_eqO {a b : E} {s s1 s2 : St} {C m : Nat} {fs : List (Nat × D)} {y : D} {k f : Bool} (h1 : lk (quiet b) a s (evE G cf th a s) = .ok (.obj C fs, false) s1) (h2 : lk true b s1 (evE G cf th b s1) = .ok (y, false) s2) (la : looked a s1 = false) (lb : looked b s2 = false) (hm : G.meth C G.mEq = some m) (hc : cf m [(.obj C fs, false), (y, false)] none s2.g = .ok (.bl k) f s2.g) : evE G cf th (.cmp .eq a b) s = .ok (.bl k, f) s2 := by
  rw [evE, h1]
  show ((lk true b s1 _).bind _) = _
  rw [h2]
  show (if (inC .eq s2.g (.obj C fs) y && (looked a s1 || looked b s2 || false || false)) = true then _ else cmpV G cf .eq (.obj C fs, false) (y, false) s2) = _
  rw [la, lb]
  rw [if_neg (by simp)]
  simp only [cmpV, viaM, hm]
  rw [show cf m [(D.obj C fs, false), (y, false)] none s2.g = .ok (.bl k) f s2.g from hc]
  rfl
theorem e_strO {a : E} {s s1 : St} {C m : Nat} {fs : List (Nat × D)} {x : List Nat} {f1 f : Bool} (h1 : lk true a s (evE G cf th a s) = .ok (.obj C fs, f1) s1) (hm : G.meth C G.mStr = some m) (hc : cf m [(.obj C fs, false)] none s1.g = .ok (.str x) f s1.g) : evE G cf th (.bi .str [a]) s = .ok (.str x, f) s1 := by
  rw [e_bi h1]
  simp only [biV, clsOf, okR, viaM, hm, hc, Re.rs, Rs.bind, okB, if_true]
theorem lookup_tab {ws : List Wd} {m : List Wd} {p : Wd} : ∀ {ls : List Lne}, (tab ws ls).lookup m = some p → ∃ l ∈ ls, ord ws l.1 = m ∧ l.2 = p
  | [], h => by cases h
  | l :: ls, h => by
    have e : tab ws (l :: ls) = (ord ws l.1, l.2) :: tab ws ls := rfl
    rw [e, List.lookup_cons] at h
    cases c : m == ord ws l.1 with
    | true =>
      rw [c] at h
      exact ⟨l, List.mem_cons_self, (by simpa using c : m = _).symm, by simpa using h⟩
    | false =>
      rw [c] at h
      obtain ⟨l', h1, h2⟩ := lookup_tab h
      exact ⟨l', List.mem_cons_of_mem _ h1, h2⟩
theorem lookup_told {ws : List Wd} {ls : List Lne} {m : List Wd} (hm : m ∈ told ws ls) : ∃ p, (tab ws ls).lookup m = some p := by
  have := (List.mem_filter.mp hm).2
  rw [← lookup_some] at this
  exact Option.isSome_iff_exists.mp this
theorem cut_hi2 {α : Type} (xs : List α) (k : Nat) : cutD xs none (some (k : Int)) = xs.take k := by
  by_cases h : k ≤ xs.length
  · exact cut_hi h
  · have e : bnd (k : Int) xs.length = xs.length := by
      unfold bnd
      rw [if_neg (by omega)]
      split <;> omega
    unfold cutD
    simp only [Option.map_some, Option.getD_some, Option.map_none, Option.getD_none, e, List.drop_zero, Nat.sub_zero]
    rw [List.take_of_length_le (Nat.le_refl _), List.take_of_length_le (by omega)]
/-! ### the start -/
theorem cell_mix {xs : List Int} {q : Int} {g : Gs} (t3 : -two64 < q ∧ q < two64) : ∃ i0 : Int, evS G cf none (.set 2 false (.bin .mod (.bi .int [(.bin .mul (.c (.int 52361)) (.bin .add (.bin .add (.bin .mul (.v 1) (.v 1)) (.bin .mul (.c (.int 7)) (.v 1))) (.c (.int 13))))]) (.c (.int 2147483543)))) ⟨[.va (.scr xs), .va (.int q), .un, .un], g⟩ = .ok .nx ⟨[.va (.scr xs), .va (.int q), .va (.int i0), .un], g⟩ := by
  have t1 : -two64 < (52361 : Int) ∧ (52361 : Int) < two64 := by decide
  have t2 : -two64 < (7 : Int) ∧ (7 : Int) < two64 := by decide
  refine ⟨52361 * (q * q + 7 * q + 13) % 2147483543, ?_⟩
  simp [evSs, evS, evE, evL, evA, rd, pk, lk, quiet, quietL, looked, isDs, Rs.bind, drf, toB, opt, idxV, idxD, ixOf, clsOf, binD, cmpV, inC, cmpD, biV, biD, bindT, bindTs, setIx, isLs, put, perm, isId, dflOf, permF, isDfl, Re.rs, walkI, walkS, tyIs, prt, slcD, attrD, fldsOf, fGet, viaM, wip, ownT, ownTs, back, notB, isMut, mutD, bmD, args, biD, t1, t2, t3]
/-- a number of the script, or a mixed one -/
theorem law_cell (n : Nat) {xs : List Int} {k : Nat} {f1 f2 : Bool} {g : Gs} (hf : G.fn 30 = some f30) (hk : k ≤ 1000) : ∃ i : Int, evFn G (n + 1) 30 [(.scr xs, f1), (.int k, f2)] none g = .ok (.int i) false g := by
  by_cases c : k < xs.length
  · refine ⟨xs[k], ?_⟩
    refine fn_ret (n := n) (ds := [.scr xs, .int k]) (s := [.va (.scr xs), .va (.int k), .un, .un]) hf rfl rfl ?_
    show evSs G (evFn G n) none f30.body ⟨[.va (.scr xs), .va (.int k), .un, .un], g⟩ = _
    have c1 : evE G (evFn G n) none (.cmp .lt (.v 1) (.bi .len [(.v 0)])) ⟨[.va (.scr xs), .va (.int k), .un, .un], g⟩ = .ok (.bl true, false) ⟨[.va (.scr xs), .va (.int k), .un, .un], g⟩ := by
      have : (k : Int) < xs.length := by omega
      simp [evSs, evS, evE, evL, evA, rd, pk, lk, quiet, quietL, looked, isDs, Rs.bind, drf, toB, opt, idxV, idxD, ixOf, clsOf, binD, cmpV, inC, cmpD, biV, biD, bindT, bindTs, setIx, isLs, put, perm, isId, dflOf, permF, isDfl, Re.rs, walkI, walkS, tyIs, prt, slcD, attrD, fldsOf, fGet, viaM, wip, ownT, ownTs, back, notB, isMut, mutD, bmD, args, biD, this]
    have gi : xs[k]? = some xs[k] := List.getElem?_eq_getElem c
    have hlt : (k : Int) < xs.length := by omega
    refine ss_rt ((s_ifT c1).trans (ss_rt (s_ret ?_ (by simp))))
    simp [evSs, evS, evE, evL, evA, rd, pk, lk, quiet, quietL, looked, isDs, Rs.bind, drf, toB, opt, idxV, idxD, ixOf, clsOf, binD, cmpV, inC, cmpD, biV, biD, bindT, bindTs, setIx, isLs, put, perm, isId, dflOf, permF, isDfl, Re.rs, walkI, walkS, tyIs, prt, slcD, attrD, fldsOf, fGet, viaM, wip, ownT, ownTs, back, notB, isMut, mutD, bmD, args, c]
  · have t3 : -two64 < (k : Int) ∧ (k : Int) < two64 := by unfold two64; omega
    have e2 := cell_mix (G := G) (cf := evFn G n) (xs := xs) (g := g) t3
    obtain ⟨i0, e2⟩ := e2
    have go := forL_ix (body := fun x s3 => (opt (bindT (.n 3) x s3) s3).bind fun z _ => evSs G (evFn G n) none [.set 2 false (.bin .mod (.bi .int [(.bin .add (.bin .add (.bin .mul (.v 2) (.c (.int 44087))) (.bin .mul (.v 3) (.c (.int 5)))) (.c (.int 1201)))]) (.c (.int 2147483543)))] z)
      (fun j s => ∃ i s3, s = ⟨[.va (.scr xs), .va (.int k), .va (.int i), s3], g⟩) ((xs.take 3).map .int) 0 ⟨[.va (.scr xs), .va (.int k), .va (.int i0), .un], g⟩ ?_ ⟨_, _, rfl⟩
    · obtain ⟨s', e, i, s3, rfl⟩ := go
      refine ⟨i, ?_⟩
      refine fn_ret (n := n) (ds := [.scr xs, .int k]) (s := [.va (.scr xs), .va (.int k), .va (.int i), s3]) hf rfl rfl ?_
      show evSs G (evFn G n) none f30.body ⟨[.va (.scr xs), .va (.int k), .un, .un], g⟩ = _
      have c1 : evE G (evFn G n) none (.cmp .lt (.v 1) (.bi .len [(.v 0)])) ⟨[.va (.scr xs), .va (.int k), .un, .un], g⟩ = .ok (.bl false, false) ⟨[.va (.scr xs), .va (.int k), .un, .un], g⟩ := by
        have : ¬ (k : Int) < xs.length := by omega
        simp [evSs, evS, evE, evL, evA, rd, pk, lk, quiet, quietL, looked, isDs, Rs.bind, drf, toB, opt, idxV, idxD, ixOf, clsOf, binD, cmpV, inC, cmpD, biV, biD, bindT, bindTs, setIx, isLs, put, perm, isId, dflOf, permF, isDfl, Re.rs, walkI, walkS, tyIs, prt, slcD, attrD, fldsOf, fGet, viaM, wip, ownT, ownTs, back, notB, isMut, mutD, bmD, args, biD, this]
      have e3 : evE G (evFn G n) none (.slc (.v 0) (.c .non) (.c (.int 3))) ⟨[.va (.scr xs), .va (.int k), .va (.int i0), .un], g⟩ = .ok (.lst ((xs.take 3).map .int), true) ⟨[.va (.scr xs), .va (.int k), .va (.int i0), .un], g⟩ := by
        have c := cut_hi2 (xs.map D.int) 3
        rw [← List.map_take] at c
        have c : cutD (xs.map D.int) none (some 3) = (xs.take 3).map D.int := c
        simp [evSs, evS, evE, evL, evA, rd, pk, lk, quiet, quietL, looked, isDs, Rs.bind, drf, toB, opt, idxV, idxD, ixOf, clsOf, binD, cmpV, inC, cmpD, biV, biD, bindT, bindTs, setIx, isLs, put, perm, isId, dflOf, permF, isDfl, Re.rs, walkI, walkS, tyIs, prt, slcD, attrD, fldsOf, fGet, viaM, wip, ownT, ownTs, back, notB, isMut, mutD, bmD, args, c]
      refine (ss_nx ((s_ifF c1).trans ss_nil)).trans ((ss_nx e2).trans ((ss_nx (s1 := ⟨[.va (.scr xs), .va (.int k), .va (.int i), s3], g⟩) ?_).trans (ss_rt ?_)))
      · rw [s_for, e3]
        exact e
      · simp [evS, pk, Rs.bind]
    · rintro j hj s ⟨i, s3, rfl⟩
      obtain ⟨v, hv⟩ : ∃ v, ((xs.take 3).map D.int)[j] = .int v := by
        rw [List.getElem_map]
        exact ⟨_, rfl⟩
      rw [hv]
      have t1 : -two64 < (44087 : Int) ∧ (44087 : Int) < two64 := by decide
      have t2 : -two64 < (5 : Int) ∧ (5 : Int) < two64 := by decide
      have eb : ∃ i1 : Int, evSs G (evFn G n) none [.set 2 false (.bin .mod (.bi .int [(.bin .add (.bin .add (.bin .mul (.v 2) (.c (.int 44087))) (.bin .mul (.v 3) (.c (.int 5)))) (.c (.int 1201)))]) (.c (.int 2147483543)))] ⟨[.va (.scr xs), .va (.int k), .va (.int i), .va (.int v)], g⟩ = .ok .nx ⟨[.va (.scr xs), .va (.int k), .va (.int i1), .va (.int v)], g⟩ := by
        refine ⟨(i * 44087 + v * 5 + 1201) % 2147483543, ?_⟩
        simp [evSs, evS, evE, evL, evA, rd, pk, lk, quiet, quietL, looked, isDs, Rs.bind, drf, toB, opt, idxV, idxD, ixOf, clsOf, binD, cmpV, inC, cmpD, biV, biD, bindT, bindTs, setIx, isLs, put, perm, isId, dflOf, permF, isDfl, Re.rs, walkI, walkS, tyIs, prt, slcD, attrD, fldsOf, fGet, viaM, wip, ownT, ownTs, back, notB, isMut, mutD, bmD, args, biD, t1, t2]
      obtain ⟨i1, eb⟩ := eb
      exact ⟨⟨[.va (.scr xs), .va (.int k), .va (.int i1), .va (.int v)], g⟩, eb, _, _, rfl⟩
/-- the purse of a number -/
theorem law_purse (n : Nat) {i : Int} {f1 : Bool} {g : Gs} (hf : G.fn 31 = some f31) : ∃ a b : Int, puOk a b ∧ evFn G (n + 1) 31 [(.int i, f1)] none g = .ok (.lst [.int a, .int b, .int 0]) true g := by
  have tb : -two64 < (48271 : Int) ∧ (48271 : Int) < two64 := by decide
  have tp : -two64 < (10 : Int) ∧ (10 : Int) < two64 := by decide
  have m3 : ∀ a b c : D, mkL [a, b, c] = some (.lst [a, b, c], true) := fun a b c => mkL_ok (by simp [big])
  have eb : ∃ b : Int, (0 ≤ b ∧ b < 2147483543) ∧ evE G (evFn G n) none (.bin .mod (.bi .int [(.bin .add (.bin .mul (.v 0) (.c (.int 48271))) (.c (.int 11)))]) (.c (.int 2147483543))) ⟨[.va (.int i)], g⟩ = .ok (.int b, false) ⟨[.va (.int i)], g⟩ := by
    refine ⟨(i * 48271 + 11) % 2147483543, ⟨Int.emod_nonneg _ (by omega), Int.emod_lt_of_pos _ (by omega)⟩, ?_⟩
    simp [evSs, evS, evE, evL, evA, rd, pk, lk, quiet, quietL, looked, isDs, Rs.bind, drf, toB, opt, idxV, idxD, ixOf, clsOf, binD, cmpV, inC, cmpD, biV, biD, bindT, bindTs, setIx, isLs, put, perm, isId, dflOf, permF, isDfl, Re.rs, walkI, walkS, tyIs, prt, slcD, attrD, fldsOf, fGet, viaM, wip, ownT, ownTs, back, notB, isMut, mutD, bmD, args, biD, tb]
  obtain ⟨b, hb, eb⟩ := eb
  have c1 : evE G (evFn G n) none (.cmp .lt (.v 0) (.c (.int 0))) ⟨[.va (.int i)], g⟩ = .ok (.bl (decide (i < 0)), false) ⟨[.va (.int i)], g⟩ := by
    simp [evSs, evS, evE, evL, evA, rd, pk, lk, quiet, quietL, looked, isDs, Rs.bind, drf, toB, opt, idxV, idxD, ixOf, clsOf, binD, cmpV, inC, cmpD, biV, biD, bindT, bindTs, setIx, isLs, put, perm, isId, dflOf, permF, isDfl, Re.rs, walkI, walkS, tyIs, prt, slcD, attrD, fldsOf, fGet, viaM, wip, ownT, ownTs, back, notB, isMut, mutD, bmD, args]
  have c2 : evE G (evFn G n) none (.cmp .ge (.v 0) (.bin .pow (.c (.int 10)) (.c (.int 18)))) ⟨[.va (.int i)], g⟩ = .ok (.bl (decide (10 ^ 18 ≤ i)), false) ⟨[.va (.int i)], g⟩ := by
    simp [evSs, evS, evE, evL, evA, rd, pk, lk, quiet, quietL, looked, isDs, Rs.bind, drf, toB, opt, idxV, idxD, ixOf, clsOf, binD, cmpV, inC, cmpD, biV, biD, bindT, bindTs, setIx, isLs, put, perm, isId, dflOf, permF, isDfl, Re.rs, walkI, walkS, tyIs, prt, slcD, attrD, fldsOf, fGet, viaM, wip, ownT, ownTs, back, notB, isMut, mutD, bmD, args, tp]
  have ab : evE G (evFn G n) none (.bi .abs [(.v 0)]) ⟨[.va (.int i)], g⟩ = .ok (.int (if i < 0 then -i else i), false) ⟨[.va (.int i)], g⟩ := by
    simp [evSs, evS, evE, evL, evA, rd, pk, lk, quiet, quietL, looked, isDs, Rs.bind, drf, toB, opt, idxV, idxD, ixOf, clsOf, binD, cmpV, inC, cmpD, biV, biD, bindT, bindTs, setIx, isLs, put, perm, isId, dflOf, permF, isDfl, Re.rs, walkI, walkS, tyIs, prt, slcD, attrD, fldsOf, fGet, viaM, wip, ownT, ownTs, back, notB, isMut, mutD, bmD, args, biD]
  have ite : ∃ a : Int, 0 ≤ a ∧ evE G (evFn G n) none (.ite (.or (.cmp .lt (.v 0) (.c (.int 0))) (.cmp .ge (.v 0) (.bin .pow (.c (.int 10)) (.c (.int 18))))) (.bi .abs [(.v 0)]) (.c (.int 0))) ⟨[.va (.int i)], g⟩ = .ok (.int a, false) ⟨[.va (.int i)], g⟩ := by
    have eo : ∃ k f, evE G (evFn G n) none (.or (.cmp .lt (.v 0) (.c (.int 0))) (.cmp .ge (.v 0) (.bin .pow (.c (.int 10)) (.c (.int 18))))) ⟨[.va (.int i)], g⟩ = .ok (.bl k, f) ⟨[.va (.int i)], g⟩ := by
      cases h : decide (i < 0) with
      | true => rw [h] at c1; exact ⟨_, _, e_orT c1⟩
      | false => rw [h] at c1; exact ⟨_, _, (e_or c1).trans c2⟩
    obtain ⟨k, f, eo⟩ := eo
    cases k with
    | true =>
      refine ⟨if i < 0 then -i else i, by split <;> omega, ?_⟩
      rw [evE, eo]
      exact ab
    | false =>
      refine ⟨0, by omega, ?_⟩
      rw [evE, eo]
      exact e_c (G := G) (cf := evFn G n) (th := none)
  obtain ⟨a, ha, ea⟩ := ite
  refine ⟨a, b, ⟨ha, hb.1, hb.2⟩, ?_⟩
  refine fn_ret (n := n) (ds := [.int i]) (s := [.va (.int i)]) hf rfl rfl ?_
  show evSs G (evFn G n) none f31.body ⟨[.va (.int i)], g⟩ = _
  exact ss_rt (s_ret (e_lst (l_c ea (l_c eb (l_c e_c l_n))) (m3 _ _ _)) (by simp))
end PX
end

section
set_option autoImplicit false
set_option linter.all false
set_option maxRecDepth 100000
set_option maxHeartbeats 4000000
/-! P20: the plain law of k06. -/
namespace PX
open PC PF
variable {G : Gl} {cf : CF} {th : Option (Gs → Re)}
structure G6 (G : Gl) : Prop where
  D : GD G
  f24 : G.fn 24 = some f24
  f25 : G.fn 25 = some f25
  f27 : G.fn 27 = some f27
  f28 : G.fn 28 = some f28
  f29 : G.fn 29 = some f29
  f30 : G.fn 30 = some f30
  f31 : G.fn 31 = some f31
  f35 : G.fn 35 = some f35
  f52 : G.fn 52 = some f52
  f64 : G.fn 64 = some f64
  f65 : G.fn 65 = some f65
  f66 : G.fn 66 = some f66
  a4 : G.at_ 29 4 = some (.prop 18)
  a5 : G.at_ 29 5 = some (.prop 19)
  a9 : G.at_ 29 9 = some (.prop 52)
  m16 : G.meth 29 G.mEq = some 24
  m19 : G.meth 29 G.mStr = some 25
  m27 : G.meth 29 27 = some 29
theorem ls_nil (ws : List Wd) : Ls ws [] := ⟨fun l h => (by cases h), by simp, by simp⟩
theorem beq_lt (ls : List Lne) : (ls.map lt == ls.map lt) = true := by simp
/-- the picks of what is told -/
def pks (ws : List Wd) (ls : List Lne) : List Wd := (told ws ls).map fun m => ((tab ws ls).lookup m).getD []
theorem ok_app {a b : Wd} : okS (a ++ b) = true ↔ okS a = true ∧ okS b = true := by
  unfold okS
  rw [List.all_append, Bool.and_eq_true]
theorem ok_join {sep : Wd} (hs : okS sep = true) : ∀ {ts : List Wd}, (∀ t ∈ ts, okS t = true) → okS (joinL sep ts) = true
  | [], _ => rfl
  | [t], h => h t List.mem_cons_self
  | t :: u :: r, h => by
    show okS (t ++ (sep ++ joinL sep (u :: r))) = true
    rw [ok_app, ok_app]
    exact ⟨h t List.mem_cons_self, hs, ok_join hs fun v hv => h v (List.mem_cons_of_mem _ hv)⟩
/-- one turn of the deeds -/
theorem turn6 (n : Nat) {a b z : Int} {ws : List Wd} {ls : List Lne} {t k w x y d : Sl} (H : G6 G) (h : puOk a b) (hw : Ws ws) (hl : Ls ws ls) (hd : ∀ v, d ≠ .ow v) :
    ∃ ls' a' b' z' w' x' y', evSs G (evFn G (n + 11)) none [.par [(7, false), (8, false)] [(.v 4), (.bi .str [(.v 4)])], .setT (.t [.n 4, .n 5]) (.call 64 [(.v 0), (.v 4), (.v 2), (.v 5)] [.inl 0, .inl 1, .inl 2, .inl 3]), .set 6 false (.make 29 [(.v 2), (.v 5)] [.inl 0, .inl 1]), .ife (.or (.cmp .ne (.v 4) (.v 6)) (.or (.cmp .ne (.attr (.v 4) 5) (.v 5)) (.or (.cmp .ne (.attr (.v 4) 8) (.attr (.v 6) 8)) (.cmp .ne (.bi .str [(.v 7)]) (.v 8))))) [.ret (.c (.bl false))] [], .ife (.cmp .ne (.lc (.meth (.v 4) 27 [(.v 9)] [.inl 0]) (.n 9) (.attr (.v 4) 8) []) (.lc (.meth (.v 6) 27 [(.v 9)] [.inl 0]) (.n 9) (.attr (.v 6) 8) [])) [.ret (.c (.bl false))] []] ⟨[.va (.cell 0), t, .va (.tup (sD ws)), k, .va (Bo ws ls), .va (.tup (lD ls)), w, x, y, d], pu a b z⟩ = .ok .nx ⟨[.va (.cell 0), t, .va (.tup (sD ws)), k, .va (Bo ws ls'), .va (.tup (lD ls')), w', x', y', d], pu a' b' z'⟩ ∧ puOk a' b' ∧ Ls ws ls' := by
  have B := H.D.B
  obtain ⟨ls', a', b', z', ed, ok, hl'⟩ := deed (G := G) (n + 1) (z := z) (k1 := false) (k2 := false) (k3 := false) (k4 := false) H.D H.f64 h hw hl
  refine ⟨ls', a', b', z', .va (Bo ws ls'), .va (Bo ws ls), .va (.str (strB ws ls)), ?_, ok, hl'⟩
  let S0 : St := ⟨[.va (.cell 0), t, .va (.tup (sD ws)), k, .va (Bo ws ls), .va (.tup (lD ls)), w, .va (Bo ws ls), .va (.str (strB ws ls)), d], pu a b z⟩
  let S1 : St := ⟨[.va (.cell 0), t, .va (.tup (sD ws)), k, .va (Bo ws ls'), .va (.tup (lD ls')), w, .va (Bo ws ls), .va (.str (strB ws ls)), d], pu a' b' z'⟩
  let S2 : St := ⟨[.va (.cell 0), t, .va (.tup (sD ws)), k, .va (Bo ws ls'), .va (.tup (lD ls')), .va (Bo ws ls'), .va (Bo ws ls), .va (.str (strB ws ls)), d], pu a' b' z'⟩
  have str1 : ∀ (g : Gs) (ls : List Lne), Ls ws ls → evFn G (n + 11) 25 [(Bo ws ls, false)] none g = .ok (.str (strB ws ls)) false g := fun g ls hl => g_str (n + 10) B H.f25 hw hl
  have e1 : evS G (evFn G (n + 11)) none (.par [(7, false), (8, false)] [(.v 4), (.bi .str [(.v 4)])]) ⟨[.va (.cell 0), t, .va (.tup (sD ws)), k, .va (Bo ws ls), .va (.tup (lD ls)), w, x, y, d], pu a b z⟩ = .ok .nx S0 := by
    have el : evL G (evFn G (n + 11)) none [(.v 4), (.bi .str [(.v 4)])] ⟨[.va (.cell 0), t, .va (.tup (sD ws)), k, .va (Bo ws ls), .va (.tup (lD ls)), w, x, y, d], pu a b z⟩ = .ok [(Bo ws ls, false), (.str (strB ws ls), false)] ⟨[.va (.cell 0), t, .va (.tup (sD ws)), k, .va (Bo ws ls), .va (.tup (lD ls)), w, x, y, d], pu a b z⟩ :=
      l_c (e_v rfl) (l_c (e_strO (C := 29) (fs := bF ws ls) (f1 := false) (lk_va rfl) H.m19 (str1 _ ls hl)) l_n)
    simp only [evS]
    rw [el]
    rfl
  have e2 : evS G (evFn G (n + 11)) none (.setT (.t [.n 4, .n 5]) (.call 64 [(.v 0), (.v 4), (.v 2), (.v 5)] [.inl 0, .inl 1, .inl 2, .inl 3])) S0 = .ok .nx S1 := by
    have ec : evE G (evFn G (n + 11)) none (.call 64 [(.v 0), (.v 4), (.v 2), (.v 5)] [.inl 0, .inl 1, .inl 2, .inl 3]) S0 = .ok (.tup [Bo ws ls', .tup (lD ls')], false) ⟨S0.s, pu a' b' z'⟩ :=
      e_call (l_c (e_v rfl) (l_c (e_v rfl) (l_c (e_v rfl) (l_c (e_v rfl) l_n)))) rfl ed
    simp only [evS]
    rw [ec]
    rfl
  have mb := make_book (G := G) (n + 3) (f1 := false) (f2 := false) (s := S1.s) (g := S1.g) B hw hl' (gk_pu _ _ _)
  have e3 : evS G (evFn G (n + 11)) none (.set 6 false (.make 29 [(.v 2), (.v 5)] [.inl 0, .inl 1])) S1 = .ok .nx S2 :=
    s_set (e_make (l_c (e_v rfl) (l_c (e_v rfl) l_n)) rfl mb)
  have geq : evFn G (n + 11) 24 [(Bo ws ls', false), (Bo ws ls', false)] none S2.g = .ok (.bl true) false S2.g := by
    have := g_eq (G := G) (n + 9) (f1 := false) (f2 := false) (g := S2.g) B H.f24 H.D.f18 H.D.f19 H.a4 H.a5 hw hl' hw hl'
    rw [beq_self_eq_true, beq_self_eq_true] at this
    exact this
  have b1 : evE G (evFn G (n + 11)) none (.cmp .ne (.v 4) (.v 6)) S2 = .ok (.bl false, false) S2 := e_neO (C := 29) (fs := bF ws ls') (y := Bo ws ls') (k := true) (lk_va rfl) (lk_va rfl) rfl rfl H.m16 geq
  have al : ∀ j, S2.s[j]? = some (.va (Bo ws ls')) → evE G (evFn G (n + 11)) none (.attr (.v j) 5) S2 = .ok (.tup (lD ls'), false) S2 := fun j hj => e_prop (e_v hj) H.a5 (g_lines (n + 10) B H.D.f19)
  have at' : ∀ j, S2.s[j]? = some (.va (Bo ws ls')) → evE G (evFn G (n + 11)) none (.attr (.v j) 8) S2 = .ok (.tup (mD (told ws ls')), false) S2 := fun j hj => e_prop (e_v hj) H.D.a8 (g_told (n + 10) B H.D.f21)
  have b2 : evE G (evFn G (n + 11)) none (.cmp .ne (.attr (.v 4) 5) (.v 5)) S2 = .ok (.bl false, false) S2 :=
    e_cmp ((lk_nv (by simp)).trans (al 4 rfl)) (lk_va rfl) rfl rfl (by
      simp [cmpD, shp, eqv, lD_sD, shp_sD (hl'.ok hw), eqv_sD])
  have b3 : evE G (evFn G (n + 11)) none (.cmp .ne (.attr (.v 4) 8) (.attr (.v 6) 8)) S2 = .ok (.bl false, false) S2 :=
    e_cmp ((lk_nv (by simp)).trans (at' 4 rfl)) ((lk_nv (by simp)).trans (at' 6 rfl)) rfl rfl (by
      have z : shpL 59 (mD (told ws ls')) = true := shp_mD fun m hm => allM_ok hw m (told_sub hm)
      simp [cmpD, shp, eqv, z, eqv_mD])
  have b4 : evE G (evFn G (n + 11)) none (.cmp .ne (.bi .str [(.v 7)]) (.v 8)) S2 = .ok (.bl false, false) S2 := by
    have okB' : okS (strB ws ls) = true := by
      unfold strB
      refine ok_join (by decide) fun t ht => ?_
      rcases List.mem_cons.mp ht with rfl | ht
      · rw [ok_app]
        exact ⟨by decide, ok_join (by decide) fun w hw' => (hw.nm w hw').ok⟩
      · exact hl.ok hw t ht
    exact e_cmp ((lk_nv (by simp)).trans (e_strO (C := 29) (fs := bF ws ls) (f1 := false) (lk_va rfl) H.m19 (str1 _ ls hl))) (lk_va rfl) rfl rfl (by
      simp [cmpD, shp, eqv, okB'])
  have e4 : evS G (evFn G (n + 11)) none (.ife (.or (.cmp .ne (.v 4) (.v 6)) (.or (.cmp .ne (.attr (.v 4) 5) (.v 5)) (.or (.cmp .ne (.attr (.v 4) 8) (.attr (.v 6) 8)) (.cmp .ne (.bi .str [(.v 7)]) (.v 8))))) [.ret (.c (.bl false))] []) S2 = .ok .nx S2 :=
    (s_ifF ((e_or b1).trans ((e_or b2).trans ((e_or b3).trans b4)))).trans ss_nil
  have lcj : ∀ j, S2.s[j]? = some (.va (Bo ws ls')) → j < 9 → evE G (evFn G (n + 11)) none (.lc (.meth (.v j) 27 [(.v 9)] [.inl 0]) (.n 9) (.attr (.v j) 8) []) S2 = .ok (.lst (sD (pks ws ls')), true) S2 := by
    intro j hj hj9
    have lc := lc_0 (G := G) (cf := evFn G (n + 11)) (th := none) (e := .meth (.v j) 27 [(.v 9)] [.inl 0]) (it := .attr (.v j) 8) (t := .n 9) (s := S2) (r := (.tup (mD (told ws ls')), false)) (told ws ls') tS (fun m => .str (((tab ws ls').lookup m).getD [])) (fun m => ⟨S2.s.set 9 (.va (tS m)), S2.g⟩) (fun _ => false)
      ((lk_nv (by simp)).trans (at' j hj)) ?_ rfl (by have := allM_len hw.hi; have := List.length_filter_le (fun m => ((tab ws ls').map (·.1)).contains m) (allM ws); unfold told big; omega) (fun _ _ => rfl) (fun m hm => ?_) (fun _ _ => rfl)
    · rw [lc]
      congr 2
      unfold sD pks
      rw [List.map_map]
      rfl
    · show (match S2.s[9]? with | some (Sl.ow _) => false | _ => true) && true = true
      show (match some d with | some (Sl.ow _) => false | _ => true) && true = true
      cases d <;> first | rfl | exact absurd rfl (hd _)
    · obtain ⟨p, hp⟩ := lookup_told hm
      obtain ⟨hs, h2⟩ := mem_allM.mp (told_sub hm)
      have po := pick_of (G := G) (n + 7) (ws := ws) (v := m) (ls := ls') (p := p) (f1 := false) (f2 := false) (g := S2.g) B H.f29 H.f27 H.f28 H.D.f18 H.a4 hw hl'.ln (hw.nd.sublist hs) (fun u hu => hs.subset hu) h2 (by rw [ord_sub hs hw.nd]; exact hp)
      rw [hp]
      have hj2 : (S2.s.set 9 (.va (tS m)))[j]? = some (.va (Bo ws ls')) := by
        rw [List.getElem?_set_ne (by omega)]
        exact hj
      exact e_meth (C := 29) (f := 29) (e_v hj2) rfl (l_c (e_v rfl) l_n) rfl H.m27 po
  have okp : okL (pks ws ls') := by
    intro q hq
    obtain ⟨m, hm, rfl⟩ := List.mem_map.mp hq
    obtain ⟨p, hp⟩ := lookup_told hm
    obtain ⟨l, hl1, _, hl3⟩ := lookup_tab hp
    show okS (((tab ws ls').lookup m).getD []) = true
    rw [hp]
    show okS p = true
    rw [← hl3]
    have := hl'.ln l hl1
    exact (hw.nm _ (this.sub _ this.pk)).ok
  have e5 : evS G (evFn G (n + 11)) none (.ife (.cmp .ne (.lc (.meth (.v 4) 27 [(.v 9)] [.inl 0]) (.n 9) (.attr (.v 4) 8) []) (.lc (.meth (.v 6) 27 [(.v 9)] [.inl 0]) (.n 9) (.attr (.v 6) 8) [])) [.ret (.c (.bl false))] []) S2 = .ok .nx S2 :=
    (s_ifF (e_cmp ((lk_nv (by simp)).trans (lcj 4 rfl (by omega))) ((lk_nv (by simp)).trans (lcj 6 rfl (by omega))) rfl rfl (by
      simp [cmpD, shp, eqv, shp_sD okp, eqv_sD]))).trans ss_nil
  exact (ss_nx e1).trans ((ss_nx e2).trans ((ss_nx e3).trans ((ss_nx e4).trans ((ss_nx e5).trans ss_nil))))
/-- a book drawn, changed, put back -/
theorem half6 (n : Nat) {a b z : Int} {t s2 s3 s4 s5 s6 s7 s8 d : Sl} (H : G6 G) (h : puOk a b) (hd : ∀ v, d ≠ .ow v) :
    ∃ a' b' z' t2 t3 t4 t5 t6 t7 t8, evSs G (evFn G (n + 11)) none [.set 2 false (.call 35 [(.v 0), (.c (.int 2)), (.c (.int 4))] [.inl 0, .inl 1, .inl 2]), .setT (.t [.n 4, .n 5]) (.tup [(.make 29 [(.v 2)] [.inl 0, .inr (.tup [])]), (.tup [])]), .for_ (.n 3) (.rng [(.bin .add (.c (.int 8)) (.call 32 [(.v 0), (.c (.int 9))] [.inl 0, .inl 1]))]) [.par [(7, false), (8, false)] [(.v 4), (.bi .str [(.v 4)])], .setT (.t [.n 4, .n 5]) (.call 64 [(.v 0), (.v 4), (.v 2), (.v 5)] [.inl 0, .inl 1, .inl 2, .inl 3]), .set 6 false (.make 29 [(.v 2), (.v 5)] [.inl 0, .inl 1]), .ife (.or (.cmp .ne (.v 4) (.v 6)) (.or (.cmp .ne (.attr (.v 4) 5) (.v 5)) (.or (.cmp .ne (.attr (.v 4) 8) (.attr (.v 6) 8)) (.cmp .ne (.bi .str [(.v 7)]) (.v 8))))) [.ret (.c (.bl false))] [], .ife (.cmp .ne (.lc (.meth (.v 4) 27 [(.v 9)] [.inl 0]) (.n 9) (.attr (.v 4) 8) []) (.lc (.meth (.v 6) 27 [(.v 9)] [.inl 0]) (.n 9) (.attr (.v 6) 8) [])) [.ret (.c (.bl false))] []], .for_ (.n 3) (.rng [(.bi .len [(.v 5)])]) [.set 4 false (.meth (.v 4) 28 [(.c (.int 0))] [.inl 0])], .ife (.or (.cmp .ne (.v 4) (.make 29 [(.v 2)] [.inl 0, .inr (.tup [])])) (.or (.cmp .ne (.attr (.v 4) 8) (.tup [])) (.attr (.v 4) 9))) [.ret (.c (.bl false))] []] ⟨[.va (.cell 0), t, s2, s3, s4, s5, s6, s7, s8, d], pu a b z⟩ = .ok .nx ⟨[.va (.cell 0), t, t2, t3, t4, t5, t6, t7, t8, d], pu a' b' z'⟩ ∧ puOk a' b' := by
  have B := H.D.B
  obtain ⟨ws, a1, b1, z1, e1, ok1, hth, _⟩ := stuff (G := G) (n + 8) (z := z) (least := 2) (most := 4) H.D.f32 H.D.f34 H.f35 h (by omega) (by omega) (by omega)
  have hw : Ws ws := hth.ws
  have e1' : evS G (evFn G (n + 11)) none (.set 2 false (.call 35 [(.v 0), (.c (.int 2)), (.c (.int 4))] [.inl 0, .inl 1, .inl 2])) ⟨[.va (.cell 0), t, s2, s3, s4, s5, s6, s7, s8, d], pu a b z⟩ = .ok .nx ⟨[.va (.cell 0), t, .va (.tup (sD ws)), s3, s4, s5, s6, s7, s8, d], pu a1 b1 z1⟩ :=
    s_set (r := (.tup (sD ws), false)) (s1 := ⟨[.va (.cell 0), t, s2, s3, s4, s5, s6, s7, s8, d], pu a1 b1 z1⟩) (e_call (l_c (e_v rfl) (l_c e_c (l_c e_c l_n))) rfl e1)
  have mk : ∀ (s : Sg) (a b z : Int), s[2]? = some (.va (.tup (sD ws))) → evE G (evFn G (n + 11)) none (.make 29 [(.v 2)] [.inl 0, .inr (.tup [])]) ⟨s, pu a b z⟩ = .ok (Bo ws [], false) ⟨s, pu a b z⟩ := fun s a b z hs =>
    e_make (l_c (e_v hs) l_n) rfl (make_book (G := G) (n + 3) (ls := []) (f1 := false) (f2 := false) B hw (ls_nil ws) (gk_pu _ _ _))
  have e2 : evS G (evFn G (n + 11)) none (.setT (.t [.n 4, .n 5]) (.tup [(.make 29 [(.v 2)] [.inl 0, .inr (.tup [])]), (.tup [])])) ⟨[.va (.cell 0), t, .va (.tup (sD ws)), s3, s4, s5, s6, s7, s8, d], pu a1 b1 z1⟩ = .ok .nx ⟨[.va (.cell 0), t, .va (.tup (sD ws)), s3, .va (Bo ws []), .va (.tup (lD [])), s6, s7, s8, d], pu a1 b1 z1⟩ := by
    have et := e_tup (G := G) (cf := evFn G (n + 11)) (th := none) (l_c (mk [.va (.cell 0), t, .va (.tup (sD ws)), s3, s4, s5, s6, s7, s8, d] a1 b1 z1 rfl) (l_c (e_tup l_n (mkT_ok (by simp [big]))) l_n)) (mkT_ok (by simp [big]))
    simp only [evS]
    rw [et]
    rfl
  obtain ⟨r, a2, b2, z2, e3, ok2, r0, r9⟩ := rollE (G := G) (n + 10) (z := z1) (k := 9) (e := .c (.int 9)) (s := [.va (.cell 0), t, .va (.tup (sD ws)), s3, .va (Bo ws []), .va (.tup (lD [])), s6, s7, s8, d]) H.D.f32 ok1 (by omega) (by omega) rfl e_c
  obtain ⟨k, hk⟩ := Int.eq_ofNat_of_zero_le (show 0 ≤ 8 + r by omega)
  have e3' : evE G (evFn G (n + 11)) none (.rng [(.bin .add (.c (.int 8)) (.call 32 [(.v 0), (.c (.int 9))] [.inl 0, .inl 1]))]) ⟨[.va (.cell 0), t, .va (.tup (sD ws)), s3, .va (Bo ws []), .va (.tup (lD [])), s6, s7, s8, d], pu a1 b1 z1⟩ = .ok (.lst ((List.range k).map fun (k : Nat) => .int k), true) ⟨[.va (.cell 0), t, .va (.tup (sD ws)), s3, .va (Bo ws []), .va (.tup (lD [])), s6, s7, s8, d], pu a2 b2 z2⟩ :=
    e_rng (l_c (e_bin (r := (.int k, false)) ((lk_nv (by simp)).trans e_c) ((lk_nv (by simp)).trans e3) (by simp only [binD, drf, hk])) l_n) (by omega)
  have go1 := forL_ix (body := fun x s3 => (opt (bindT (.n 3) x s3) s3).bind fun z _ => evSs G (evFn G (n + 11)) none [.par [(7, false), (8, false)] [(.v 4), (.bi .str [(.v 4)])], .setT (.t [.n 4, .n 5]) (.call 64 [(.v 0), (.v 4), (.v 2), (.v 5)] [.inl 0, .inl 1, .inl 2, .inl 3]), .set 6 false (.make 29 [(.v 2), (.v 5)] [.inl 0, .inl 1]), .ife (.or (.cmp .ne (.v 4) (.v 6)) (.or (.cmp .ne (.attr (.v 4) 5) (.v 5)) (.or (.cmp .ne (.attr (.v 4) 8) (.attr (.v 6) 8)) (.cmp .ne (.bi .str [(.v 7)]) (.v 8))))) [.ret (.c (.bl false))] [], .ife (.cmp .ne (.lc (.meth (.v 4) 27 [(.v 9)] [.inl 0]) (.n 9) (.attr (.v 4) 8) []) (.lc (.meth (.v 6) 27 [(.v 9)] [.inl 0]) (.n 9) (.attr (.v 6) 8) [])) [.ret (.c (.bl false))] []] z)
    (fun j s => ∃ a b z k ls w x y, s = ⟨[.va (.cell 0), t, .va (.tup (sD ws)), k, .va (Bo ws ls), .va (.tup (lD ls)), w, x, y, d], pu a b z⟩ ∧ puOk a b ∧ Ls ws ls) ((List.range k).map fun (k : Nat) => D.int k) 0 ⟨[.va (.cell 0), t, .va (.tup (sD ws)), s3, .va (Bo ws []), .va (.tup (lD [])), s6, s7, s8, d], pu a2 b2 z2⟩ ?_ ⟨a2, b2, z2, s3, [], s6, s7, s8, rfl, ok2, ls_nil ws⟩
  · obtain ⟨s', e4, a3, b3, z3, q3, ls, q6, q7, q8, rfl, ok3, hl⟩ := go1
    have go2 := forL_ix (body := fun x s3 => (opt (bindT (.n 3) x s3) s3).bind fun z _ => evSs G (evFn G (n + 11)) none [.set 4 false (.meth (.v 4) 28 [(.c (.int 0))] [.inl 0])] z)
      (fun j s => ∃ k, s = ⟨[.va (.cell 0), t, .va (.tup (sD ws)), k, .va (Bo ws (ls.drop j)), .va (.tup (lD ls)), q6, q7, q8, d], pu a3 b3 z3⟩) ((List.range ls.length).map fun (k : Nat) => D.int k) 0 ⟨[.va (.cell 0), t, .va (.tup (sD ws)), q3, .va (Bo ws (ls.drop 0)), .va (.tup (lD ls)), q6, q7, q8, d], pu a3 b3 z3⟩ ?_ ⟨_, rfl⟩
    · obtain ⟨s', e5, p3, rfl⟩ := go2
      rw [List.length_map, List.length_range, Nat.zero_add, List.drop_length] at e5
      let S : St := ⟨[.va (.cell 0), t, .va (.tup (sD ws)), p3, .va (Bo ws []), .va (.tup (lD ls)), q6, q7, q8, d], pu a3 b3 z3⟩
      refine ⟨a3, b3, z3, .va (.tup (sD ws)), p3, .va (Bo ws []), .va (.tup (lD ls)), q6, q7, q8, ?_, ok3⟩
      have e5' : evE G (evFn G (n + 11)) none (.rng [(.bi .len [(.v 5)])]) ⟨[.va (.cell 0), t, .va (.tup (sD ws)), q3, .va (Bo ws ls), .va (.tup (lD ls)), q6, q7, q8, d], pu a3 b3 z3⟩ = .ok (.lst ((List.range ls.length).map fun (k : Nat) => .int k), true) ⟨[.va (.cell 0), t, .va (.tup (sD ws)), q3, .va (Bo ws ls), .va (.tup (lD ls)), q6, q7, q8, d], pu a3 b3 z3⟩ :=
        e_rng (l_c (e_bi1 (lk_va rfl) rfl (by simp only [drf, biD, lD_len])) l_n) hl.hi
      have geq : evFn G (n + 11) 24 [(Bo ws [], false), (Bo ws [], false)] none S.g = .ok (.bl true) false S.g := by
        have := g_eq (G := G) (n + 9) (f1 := false) (f2 := false) (g := S.g) B H.f24 H.D.f18 H.D.f19 H.a4 H.a5 hw (ls_nil ws) hw (ls_nil ws)
        rw [beq_self_eq_true, beq_self_eq_true] at this
        exact this
      have tn : told ws [] = [] := by
        unfold told
        rw [List.filter_eq_nil_iff]
        intro m _
        simp [tab]
      have c1 : evE G (evFn G (n + 11)) none (.cmp .ne (.v 4) (.make 29 [(.v 2)] [.inl 0, .inr (.tup [])])) S = .ok (.bl false, false) S :=
        e_neO (C := 29) (fs := bF ws []) (y := Bo ws []) (k := true) (lk_va rfl) ((lk_nv (by simp)).trans (mk _ _ _ _ rfl)) rfl rfl H.m16 geq
      have c2 : evE G (evFn G (n + 11)) none (.cmp .ne (.attr (.v 4) 8) (.tup [])) S = .ok (.bl false, false) S := by
        have at' : evE G (evFn G (n + 11)) none (.attr (.v 4) 8) S = .ok (.tup (mD (told ws [])), false) S := e_prop (e_v rfl) H.D.a8 (g_told (n + 10) B H.D.f21)
        rw [tn] at at'
        exact e_cmp ((lk_nv (by simp)).trans at') ((lk_nv (by simp)).trans (e_tup l_n (mkT_ok (by simp [big])))) rfl rfl (by simp [cmpD, shp, shpL, eqv, eqvL, mD])
      have c3 : evE G (evFn G (n + 11)) none (.attr (.v 4) 9) S = .ok (.bl false, false) S := by
        have gw := g_whole (G := G) (n + 10) (ws := ws) (ls := []) (fr := false) (g := S.g) B H.f52
        have hx : ws ∈ allM ws := mem_allM.mpr ⟨List.Sublist.refl _, hw.lo⟩
        have : 0 < (allM ws).length := List.length_pos_iff.mpr fun q => by rw [q] at hx; cases hx
        rw [tn, show (([] : List (List Wd)).length == (allM ws).length) = false by simp; intro q; rw [q] at this; simp at this] at gw
        exact e_prop (e_v rfl) H.a9 gw
      refine (ss_nx e1').trans ((ss_nx e2).trans ((ss_nx (s1 := ⟨[.va (.cell 0), t, .va (.tup (sD ws)), q3, .va (Bo ws ls), .va (.tup (lD ls)), q6, q7, q8, d], pu a3 b3 z3⟩) ?_).trans ((ss_nx (s1 := S) ?_).trans ((ss_nx ((s_ifF ((e_or c1).trans ((e_or c2).trans c3))).trans ss_nil)).trans ss_nil))))
      · rw [s_for, e3']
        exact e4
      · rw [s_for, e5']
        exact e5
    · rintro j hj s ⟨k, rfl⟩
      rw [List.length_map, List.length_range] at hj
      rw [Nat.zero_add]
      have gx : ((List.range ls.length).map fun (k : Nat) => D.int k)[j]'(by simpa using hj) = .int j := by simp
      rw [gx]
      have hsub : Ls ws ((ls.drop j).take 0 ++ (ls.drop j).drop (0 + 1)) := (hl.sub (List.drop_sublist j ls)).sub (take_drop_sub _ 0)
      have wo := without (G := G) (n + 2) (ws := ws) (ls := ls.drop j) (k := 0) (f1 := false) (f2 := false) (g := pu a3 b3 z3) B H.D.f63 H.D.f60 H.D.f61 hw hsub (by rw [List.length_drop]; omega) (by rw [List.length_drop]; have := hl.hi; omega) (gk_pu _ _ _)
      have ed : (ls.drop j).take 0 ++ (ls.drop j).drop (0 + 1) = ls.drop (j + 1) := by
        rw [List.take_zero, List.nil_append, List.drop_drop]
      rw [ed] at wo
      refine ⟨⟨[.va (.cell 0), t, .va (.tup (sD ws)), .va (.int j), .va (Bo ws (ls.drop (j + 1))), .va (.tup (lD ls)), q6, q7, q8, d], pu a3 b3 z3⟩, ?_, _, rfl⟩
      show evSs G (evFn G (n + 11)) none _ ⟨[.va (.cell 0), t, .va (.tup (sD ws)), .va (.int j), .va (Bo ws (ls.drop j)), .va (.tup (lD ls)), q6, q7, q8, d], pu a3 b3 z3⟩ = _
      exact (ss_nx (s_set (e_meth (C := 29) (f := 63) (e_v rfl) rfl (l_c e_c l_n) rfl H.D.m28 wo))).trans ss_nil
  · rintro j hj s ⟨a, b, z, q3, ls, q6, q7, q8, rfl, ok, hl⟩
    rw [List.length_map, List.length_range] at hj
    have gx : ((List.range k).map fun (k : Nat) => D.int k)[j]'(by simpa using hj) = .int j := by simp
    rw [gx]
    obtain ⟨ls', a', b', z', w', x', y', e, ok', hl'⟩ := turn6 (G := G) n (z := z) (t := t) (k := .va (.int j)) (w := q6) (x := q7) (y := q8) (d := d) H ok hw hl hd
    exact ⟨_, e, a', b', z', _, ls', w', x', y', rfl, ok', hl'⟩
end PX
end

section
set_option autoImplicit false
set_option linter.all false
set_option maxRecDepth 100000
set_option maxHeartbeats 4000000
/-! P21: the plain law of k06, whole. -/
namespace PX
open PC PF
variable {G : Gl} {cf : CF} {th : Option (Gs → Re)}
theorem case6 (n : Nat) {a b : Int} (H : G6 G) (h : puOk a b) : evFn G (n + 12) 65 [(.lst [.int a, .int b, .int 0], true)] none [] = .ok (.bl true) false [] := by
  rw [fn1 (n := n + 11) H.f65 rfl]
  show (match evSs G (evFn G (n + 11)) none f65.body ⟨[.va (.cell 0), .un, .un, .un, .un, .un, .un, .un, .un, .un], pu a b 0⟩ with
    | .ok (.rt d fr) s => fin 0 d fr s.g
    | .ok .nx s => fin 0 .non false s.g
    | .ok _ _ => .no
    | .ex C fs s => finX 0 C fs s.g
    | .no => .no) = _
  have go := forL_ix (body := fun x s3 => (opt (bindT (.n 1) x s3) s3).bind fun z _ => evSs G (evFn G (n + 11)) none [.set 2 false (.call 35 [(.v 0), (.c (.int 2)), (.c (.int 4))] [.inl 0, .inl 1, .inl 2]), .setT (.t [.n 4, .n 5]) (.tup [(.make 29 [(.v 2)] [.inl 0, .inr (.tup [])]), (.tup [])]), .for_ (.n 3) (.rng [(.bin .add (.c (.int 8)) (.call 32 [(.v 0), (.c (.int 9))] [.inl 0, .inl 1]))]) [.par [(7, false), (8, false)] [(.v 4), (.bi .str [(.v 4)])], .setT (.t [.n 4, .n 5]) (.call 64 [(.v 0), (.v 4), (.v 2), (.v 5)] [.inl 0, .inl 1, .inl 2, .inl 3]), .set 6 false (.make 29 [(.v 2), (.v 5)] [.inl 0, .inl 1]), .ife (.or (.cmp .ne (.v 4) (.v 6)) (.or (.cmp .ne (.attr (.v 4) 5) (.v 5)) (.or (.cmp .ne (.attr (.v 4) 8) (.attr (.v 6) 8)) (.cmp .ne (.bi .str [(.v 7)]) (.v 8))))) [.ret (.c (.bl false))] [], .ife (.cmp .ne (.lc (.meth (.v 4) 27 [(.v 9)] [.inl 0]) (.n 9) (.attr (.v 4) 8) []) (.lc (.meth (.v 6) 27 [(.v 9)] [.inl 0]) (.n 9) (.attr (.v 6) 8) [])) [.ret (.c (.bl false))] []], .for_ (.n 3) (.rng [(.bi .len [(.v 5)])]) [.set 4 false (.meth (.v 4) 28 [(.c (.int 0))] [.inl 0])], .ife (.or (.cmp .ne (.v 4) (.make 29 [(.v 2)] [.inl 0, .inr (.tup [])])) (.or (.cmp .ne (.attr (.v 4) 8) (.tup [])) (.attr (.v 4) 9))) [.ret (.c (.bl false))] []] z)
    (fun j s => ∃ a b z s1 s2 s3 s4 s5 s6 s7 s8, s = ⟨[.va (.cell 0), s1, s2, s3, s4, s5, s6, s7, s8, .un], pu a b z⟩ ∧ puOk a b) ((List.range 2).map fun (k : Nat) => D.int k) 0 ⟨[.va (.cell 0), .un, .un, .un, .un, .un, .un, .un, .un, .un], pu a b 0⟩ ?_ ⟨a, b, 0, _, _, _, _, _, _, _, _, rfl, h⟩
  · obtain ⟨s', e, a', b', z', s1, s2, s3, s4, s5, s6, s7, s8, rfl, ok⟩ := go
    have r1 : evE G (evFn G (n + 11)) none (.rng [(.c (.int 2))]) ⟨[.va (.cell 0), .un, .un, .un, .un, .un, .un, .un, .un, .un], pu a b 0⟩ = .ok (.lst ((List.range 2).map fun (k : Nat) => .int k), true) ⟨[.va (.cell 0), .un, .un, .un, .un, .un, .un, .un, .un, .un], pu a b 0⟩ :=
      e_rng (l_c e_c l_n) (by omega)
    have e' : evSs G (evFn G (n + 11)) none f65.body ⟨[.va (.cell 0), .un, .un, .un, .un, .un, .un, .un, .un, .un], pu a b 0⟩ = .ok (.rt (.bl true) false) ⟨[.va (.cell 0), s1, s2, s3, s4, s5, s6, s7, s8, .un], pu a' b' z'⟩ := by
      refine (ss_nx (s1 := ⟨[.va (.cell 0), s1, s2, s3, s4, s5, s6, s7, s8, .un], pu a' b' z'⟩) ?_).trans (ss_rt (s_ret e_c (by simp)))
      rw [s_for, r1]
      exact e
    rw [e']
    rfl
  · rintro j hj s ⟨a, b, z, s1, s2, s3, s4, s5, s6, s7, s8, rfl, ok⟩
    rw [List.length_map, List.length_range] at hj
    have gx : ((List.range 2).map fun (k : Nat) => D.int k)[j]'(by simpa using hj) = .int j := by simp
    rw [gx]
    obtain ⟨a', b', z', t2, t3, t4, t5, t6, t7, t8, e, ok'⟩ := half6 (G := G) n (z := z) (t := .va (.int j)) (s2 := s2) (s3 := s3) (s4 := s4) (s5 := s5) (s6 := s6) (s7 := s7) (s8 := s8) (d := .un) H ok (fun v => by nofun)
    exact ⟨_, e, a', b', z', _, t2, t3, t4, t5, t6, t7, t8, rfl, ok'⟩
/-- a law that asks a case of each of some numbers -/
theorem law_loop (n c : Nat) {ns : List Int} {g : Gs} (h30 : G.fn 30 = some f30) (h31 : G.fn 31 = some f31) (hc : ∀ a b : Int, puOk a b → evFn G (n + 1) c [(.lst [.int a, .int b, .int 0], true)] none g = .ok (.bl true) false g) (e : E) (r : Nat) (hr : r ≤ 1000) (he : evE G (evFn G (n + 1)) none e ⟨[.va (.scr ns), .un], g⟩ = .ok (.int r, false) ⟨[.va (.scr ns), .un], g⟩) (hn : ∀ a, e ≠ .star a := by intro a; nofun) :
    ∃ s, evSs G (evFn G (n + 1)) none [.for_ (.n 1) (.rng [e]) [.ife (.not (.call c [(.call 31 [(.call 30 [(.v 0), (.v 1)] [.inl 0, .inl 1])] [.inl 0])] [.inl 0])) [.ret (.c (.bl false))] []], .ret (.c (.bl true))] ⟨[.va (.scr ns), .un], g⟩ = .ok (.rt (.bl true) false) ⟨s, g⟩ := by
  have go := forL_ix (body := fun x s3 => (opt (bindT (.n 1) x s3) s3).bind fun z _ => evSs G (evFn G (n + 1)) none [.ife (.not (.call c [(.call 31 [(.call 30 [(.v 0), (.v 1)] [.inl 0, .inl 1])] [.inl 0])] [.inl 0])) [.ret (.c (.bl false))] []] z)
    (fun j s => ∃ k, s = ⟨[.va (.scr ns), k], g⟩) ((List.range r).map fun (k : Nat) => D.int k) 0 ⟨[.va (.scr ns), .un], g⟩ ?_ ⟨_, rfl⟩
  · obtain ⟨s', e1, k, rfl⟩ := go
    refine ⟨[.va (.scr ns), k], (ss_nx (s1 := ⟨[.va (.scr ns), k], g⟩) ?_).trans (ss_rt (s_ret e_c (by simp)))⟩
    rw [s_for, e_rng (l_c he l_n hn) hr]
    exact e1
  · rintro j hj s ⟨k, rfl⟩
    rw [List.length_map, List.length_range] at hj
    have gx : ((List.range r).map fun (k : Nat) => D.int k)[j]'(by simpa using hj) = .int j := by simp
    rw [gx]
    refine ⟨⟨[.va (.scr ns), .va (.int j)], g⟩, ?_, _, rfl⟩
    show evSs G (evFn G (n + 1)) none _ ⟨[.va (.scr ns), .va (.int j)], g⟩ = _
    obtain ⟨i, ei⟩ := law_cell (G := G) n (xs := ns) (k := j) (f1 := false) (f2 := false) (g := g) h30 (by omega)
    obtain ⟨a, b, ok, ep⟩ := law_purse (G := G) n (i := i) (f1 := false) (g := g) h31
    have ec : evE G (evFn G (n + 1)) none (.call c [(.call 31 [(.call 30 [(.v 0), (.v 1)] [.inl 0, .inl 1])] [.inl 0])] [.inl 0]) ⟨[.va (.scr ns), .va (.int j)], g⟩ = .ok (.bl true, false) ⟨[.va (.scr ns), .va (.int j)], g⟩ :=
      e_call (l_c (e_call (s1 := ⟨[.va (.scr ns), .va (.int j)], g⟩) (l_c (e_call (s1 := ⟨[.va (.scr ns), .va (.int j)], g⟩) (l_c (e_v rfl) (l_c (e_v rfl) l_n)) rfl ei) l_n) rfl ep) l_n) rfl (hc a b ok)
    exact (ss_nx ((s_ifF (e_not ec)).trans ss_nil)).trans ss_nil
theorem law_rng (m : Nat) (hm : 2 ≤ m) (hm2 : m ≤ 5) {ns : List Int} {g : Gs} : ∃ r : Nat, r ≤ 1000 ∧ evE G cf none (.bi .max2 [(.c (.int 2)), (.bi .min2 [(.bi .len [(.v 0)]), (.c (.int m))])]) ⟨[.va (.scr ns), .un], g⟩ = .ok (.int r, false) ⟨[.va (.scr ns), .un], g⟩ := by
  have l1 : evE G cf none (.bi .len [(.v 0)]) ⟨[.va (.scr ns), .un], g⟩ = .ok (.int ns.length, false) ⟨[.va (.scr ns), .un], g⟩ := e_bi1 (lk_va rfl) rfl (by simp only [drf, biD])
  have l2 : evE G cf none (.bi .min2 [(.bi .len [(.v 0)]), (.c (.int m))]) ⟨[.va (.scr ns), .un], g⟩ = .ok (.int (if (m : Int) < ns.length then m else ns.length), false) ⟨[.va (.scr ns), .un], g⟩ := by
    have el := l_c l1 (l_c (e_c (d := .int m)) l_n)
    rw [evE, el]
    · simp only [Rs.bind, List.map, biD, opt]
    · intro e; nofun
  have l3 : ∃ r : Nat, r ≤ 1000 ∧ (if (if (m : Int) < ns.length then (m : Int) else ns.length) > 2 then (if (m : Int) < ns.length then (m : Int) else ns.length) else 2) = (r : Int) := by
    by_cases h : (m : Int) < ns.length
    · rw [if_pos h]
      exact ⟨m, by omega, by split <;> omega⟩
    · rw [if_neg h]
      by_cases h2 : (ns.length : Int) > 2
      · exact ⟨ns.length, by omega, by rw [if_pos h2]⟩
      · exact ⟨2, by omega, by rw [if_neg h2]; rfl⟩
  obtain ⟨r, hr, e⟩ := l3
  refine ⟨r, hr, ?_⟩
  have el := l_c (e_c (d := .int 2)) (l_c l2 l_n)
  rw [evE, el]
  · simp only [Rs.bind, List.map, biD, opt]
    rw [e]
  · intro e; nofun
theorem law6 (n : Nat) (H : G6 G) (ns : List Int) : ∃ fr g, evFn G (n + 14) 66 [(.scr ns, false)] none [] = .ok (.bl true) fr g := by
  obtain ⟨r, hr, e⟩ := law_rng (G := G) (cf := evFn G (n + 13)) 5 (by omega) (by omega) (ns := ns) (g := [])
  obtain ⟨s, es⟩ := law_loop (G := G) (n + 12) 65 (ns := ns) (g := []) H.f30 H.f31 (fun a b ok => case6 (n + 1) H ok) _ r hr e
  exact ⟨false, [], fn_ret (n := n + 13) (ds := [.scr ns]) (s := s) H.f66 rfl rfl es⟩
end PX
end

section
set_option Elab.async false
set_option linter.all false
set_option maxRecDepth 100000
set_option maxHeartbeats 4000000
namespace Kk06
open PySem PySem.Spec PySem.Calls PyProof.Rows L2 Br
open PF
open PC (D E S Sl Cl Sg Gs Rs Re)
/-! ### the text -/
def tp (i : Nat) : Stmt := PySem.Challenge.pw_shortlists_k06_whole_lines_put_and_taken.main.body.getD i (.Pass ⟨0, 0, 0, 0⟩)
def mb (i j : Nat) : Stmt := (match tp i with
  | .ClassDef (body := b) .. => b
  | _ => []).getD j (.Pass ⟨0, 0, 0, 0⟩)
def d60 : He.DefD := ⟨("is_integer", none), "is_integer", "is_integer", defArgs (tp 13), defBody (tp 13), defScope (tp 13), [], []⟩
def n60 : List Str := ["value"]
def d61 : He.DefD := ⟨("is_between", none), "is_between", "is_between", defArgs (tp 14), defBody (tp 14), defScope (tp 14), [], []⟩
def n61 : List Str := ["value", "least", "most"]
def d8 : He.DefD := ⟨("is_name", none), "is_name", "is_name", defArgs (tp 15), defBody (tp 15), defScope (tp 15), [], []⟩
def n8 : List Str := ["value", "sign"]
def d9 : He.DefD := ⟨("check_things", none), "check_things", "check_things", defArgs (tp 18), defBody (tp 18), defScope (tp 18), [], []⟩
def n9 : List Str := ["value", "index"]
def d10 : He.DefD := ⟨("in_order", none), "in_order", "in_order", defArgs (tp 19), defBody (tp 19), defScope (tp 19), [], []⟩
def n10 : List Str := ["things", "some", "thing"]
def d11 : He.DefD := ⟨("is_menu", none), "is_menu", "is_menu", defArgs (tp 20), defBody (tp 20), defScope (tp 20), [], []⟩
def n11 : List Str := ["things", "value", "thing"]
def d12 : He.DefD := ⟨("line_parts", none), "line_parts", "line_parts", defArgs (tp 21), defBody (tp 21), defScope (tp 21), [], []⟩
def n12 : List Str := ["things", "value", "sides", "some"]
def d13 : He.DefD := ⟨("lines_told", none), "lines_told", "lines_told", defArgs (tp 22), defBody (tp 22), defScope (tp 22), [], []⟩
def n13 : List Str := ["things", "value", "found", "index", "parts"]
def d14 : He.DefD := ⟨("lots_of", none), "lots_of", "lots_of", defArgs (tp 23), defBody (tp 23), defScope (tp 23), [], []⟩
def n14 : List Str := ["things", "size", "found", "at", "rest"]
def d15 : He.DefD := ⟨("all_menus", none), "all_menus", "all_menus", defArgs (tp 24), defBody (tp 24), defScope (tp 24), [], []⟩
def n15 : List Str := ["things", "found", "size"]
def d16 : He.DefD := ⟨("Book", some "__init__"), "__init__", "Book.__init__", defArgs (mb 25 0), defBody (mb 25 0), defScope (mb 25 0), [.adr (He.dflAt ("Book", some "__init__") 0)], []⟩
def n16 : List Str := ["self", "things", "lines", "found", "menu"]
def d18 : He.DefD := ⟨("Book", some "things"), "things", "Book.things", defArgs (mb 25 2), defBody (mb 25 2), defScope (mb 25 2), [], []⟩
def n18 : List Str := ["self"]
def d19 : He.DefD := ⟨("Book", some "lines"), "lines", "Book.lines", defArgs (mb 25 3), defBody (mb 25 3), defScope (mb 25 3), [], []⟩
def n19 : List Str := ["self"]
def d21 : He.DefD := ⟨("Book", some "told"), "told", "Book.told", defArgs (mb 25 6), defBody (mb 25 6), defScope (mb 25 6), [], []⟩
def n21 : List Str := ["self"]
def d52 : He.DefD := ⟨("Book", some "whole"), "whole", "Book.whole", defArgs (mb 25 7), defBody (mb 25 7), defScope (mb 25 7), [], []⟩
def n52 : List Str := ["self"]
def d24 : He.DefD := ⟨("Book", some "__eq__"), "__eq__", "Book.__eq__", defArgs (mb 25 10), defBody (mb 25 10), defScope (mb 25 10), [], []⟩
def n24 : List Str := ["self", "other"]
def d25 : He.DefD := ⟨("Book", some "__str__"), "__str__", "Book.__str__", defArgs (mb 25 11), defBody (mb 25 11), defScope (mb 25 11), [], []⟩
def n25 : List Str := ["self"]
def d29 : He.DefD := ⟨("Book", some "pick"), "pick", "Book.pick", defArgs (mb 25 13), defBody (mb 25 13), defScope (mb 25 13), [], []⟩
def n29 : List Str := ["self", "menu", "found"]
def d62 : He.DefD := ⟨("Book", some "with_line"), "with_line", "Book.with_line", defArgs (mb 25 14), defBody (mb 25 14), defScope (mb 25 14), [], []⟩
def n62 : List Str := ["self", "line", "parts"]
def d63 : He.DefD := ⟨("Book", some "without"), "without", "Book.without", defArgs (mb 25 15), defBody (mb 25 15), defScope (mb 25 15), [], []⟩
def n63 : List Str := ["self", "index"]
def d27 : He.DefD := ⟨("check_menu", none), "check_menu", "check_menu", defArgs (tp 26), defBody (tp 26), defScope (tp 26), [], []⟩
def n27 : List Str := ["book", "value"]
def d28 : He.DefD := ⟨("menu_of", none), "menu_of", "menu_of", defArgs (tp 27), defBody (tp 27), defScope (tp 27), [], []⟩
def n28 : List Str := ["book", "value"]
def d30 : He.DefD := ⟨("_law_cell", none), "_law_cell", "_law_cell", defArgs (tp 29), defBody (tp 29), defScope (tp 29), [], []⟩
def n30 : List Str := ["_law_script", "_law_k", "_law_mixed_here", "_law_near"]
def d31 : He.DefD := ⟨("_law_purse", none), "_law_purse", "_law_purse", defArgs (tp 30), defBody (tp 30), defScope (tp 30), [], []⟩
def n31 : List Str := ["_law_cell_here"]
def d32 : He.DefD := ⟨("_law_roll", none), "_law_roll", "_law_roll", defArgs (tp 31), defBody (tp 31), defScope (tp 31), [], []⟩
def n32 : List Str := ["_law_purse_here", "_law_sides", "_law_seed", "_law_figure"]
def d33 : He.DefD := ⟨("_law_pick", none), "_law_pick", "_law_pick", defArgs (tp 32), defBody (tp 32), defScope (tp 32), [], []⟩
def n33 : List Str := ["_law_purse_here", "_law_some"]
def d34 : He.DefD := ⟨("_law_mixed", none), "_law_mixed", "_law_mixed", defArgs (tp 33), defBody (tp 33), defScope (tp 33), [], []⟩
def n34 : List Str := ["_law_purse_here", "_law_some", "_law_rest", "_law_found", "_law_at"]
def d35 : He.DefD := ⟨("_law_stuff", none), "_law_stuff", "_law_stuff", defArgs (tp 34), defBody (tp 34), defScope (tp 34), [], []⟩
def n35 : List Str := ["_law_purse_here", "_law_least_here", "_law_most", "_law_many"]
def d36 : He.DefD := ⟨("_law_menus", none), "_law_menus", "_law_menus", defArgs (tp 35), defBody (tp 35), defScope (tp 35), [], []⟩
def n36 : List Str := ["_law_stuff_here", "_law_k", "_law_each", "_law_lots_here", "_law_found", "_law_lot"]
def d64 : He.DefD := ⟨("_law_deed", none), "_law_deed", "_law_deed", defArgs (tp 38), defBody (tp 38), defScope (tp 38), [], []⟩
def n64 : List Str := ["_law_purse_here", "_law_mine", "_law_stuff_here", "_law_rows_here", "_law_open_here", "_law_dish", "_law_row", "_law_fresh", "_law_at"]
def d65 : He.DefD := ⟨("_law_case_right", none), "_law_case_right", "_law_case_right", defArgs (tp 39), defBody (tp 39), defScope (tp 39), [], []⟩
def n65 : List Str := ["_law_purse_here", "_law_turn", "_law_stuff_here", "_law_again", "_law_mine", "_law_rows_here", "_law_whole_here", "_law_before", "_law_text", "_law_dish"]
def d66 : He.DefD := ⟨("law", none), "law", "law", defArgs (tp 40), defBody (tp 40), defScope (tp 40), [], []⟩
def n66 : List Str := ["_law_script", "_law_k"]
def ls : Ls where
  fn := [(60, f60), (61, f61), (8, f8), (9, f9), (10, f10), (11, f11), (12, f12), (13, f13), (14, f14), (15, f15), (16, f16), (18, f18), (19, f19), (21, f21), (52, f52), (24, f24), (25, f25), (29, f29), (62, f62), (63, f63), (27, f27), (28, f28), (30, f30), (31, f31), (32, f32), (33, f33), (34, f34), (35, f35), (36, f36), (64, f64), (65, f65), (66, f66)]
  at_ := [((29, 1), .fld), ((29, 0), .fld), ((29, 3), .fld), ((29, 2), .fld), ((29, 4), .prop 18), ((29, 5), .prop 19), ((29, 8), .prop 21), ((29, 9), .prop 52)]
  me := [((29, 16), 24), ((29, 19), 25), ((29, 27), 29), ((29, 29), 62), ((29, 28), 63)]
  ini := [(29, 16)]
  ex := [(0, []), (1, [10]), (2, [10]), (3, [10]), (10, [10]), (12, [11]), (13, [11]), (17, []), (18, [12])]
  va := [29]
  su := []
abbrev Gk : PC.Gl := ls.G
def ddl : List (Nat × He.DefD) := [(60, d60), (61, d61), (8, d8), (9, d9), (10, d10), (11, d11), (12, d12), (13, d13), (14, d14), (15, d15), (16, d16), (18, d18), (19, d19), (21, d21), (52, d52), (24, d24), (25, d25), (29, d29), (62, d62), (63, d63), (27, d27), (28, d28), (30, d30), (31, d31), (32, d32), (33, d33), (34, d34), (35, d35), (36, d36), (64, d64), (65, d65), (66, d66)]
def rwk : Rw where
  glo := [("_law_case_right", 65), ("_law_cell", 30), ("_law_deed", 64), ("_law_menus", 36), ("_law_mixed", 34), ("_law_pick", 33), ("_law_purse", 31), ("_law_roll", 32), ("_law_stuff", 35), ("all_menus", 15), ("check_menu", 27), ("check_things", 9), ("in_order", 10), ("is_between", 61), ("is_integer", 60), ("is_menu", 11), ("is_name", 8), ("line_parts", 12), ("lines_told", 13), ("lots_of", 14), ("menu_of", 28)]
  cls := [("Book", 29)]
  con := [("LETTERS", .str [97, 98, 99, 100, 101, 102, 103, 104, 105, 106, 107, 108, 109, 110, 111, 112, 113, 114, 115, 116, 117, 118, 119, 120, 121, 122]), ("MOST_THINGS", .int 5)]
  free := ["abs", "all", "bool", "divmod", "int", "isinstance", "len", "list", "max", "min", "range", "sorted", "str", "tuple"]
  dd := fun i => ddl.lookup i
  dv := fun i => ([(16, [.tup []])] : List (Nat × List D)).lookup i |>.getD []
def adl : List (Nat × (PySem.W.Frag → Addr)) := [(60, fun K => He.fAd K ("is_integer", none)), (61, fun K => He.fAd K ("is_between", none)), (8, fun K => He.fAd K ("is_name", none)), (9, fun K => He.fAd K ("check_things", none)), (10, fun K => He.fAd K ("in_order", none)), (11, fun K => He.fAd K ("is_menu", none)), (12, fun K => He.fAd K ("line_parts", none)), (13, fun K => He.fAd K ("lines_told", none)), (14, fun K => He.fAd K ("lots_of", none)), (15, fun K => He.fAd K ("all_menus", none)), (16, fun K => He.fAd K ("Book", some "__init__")), (18, getA "Book" "things"), (19, getA "Book" "lines"), (21, getA "Book" "told"), (52, getA "Book" "whole"), (24, fun K => He.fAd K ("Book", some "__eq__")), (25, fun K => He.fAd K ("Book", some "__str__")), (29, fun K => He.fAd K ("Book", some "pick")), (62, fun K => He.fAd K ("Book", some "with_line")), (63, fun K => He.fAd K ("Book", some "without")), (27, fun K => He.fAd K ("check_menu", none)), (28, fun K => He.fAd K ("menu_of", none)), (30, fun K => He.fAd K ("_law_cell", none)), (31, fun K => He.fAd K ("_law_purse", none)), (32, fun K => He.fAd K ("_law_roll", none)), (33, fun K => He.fAd K ("_law_pick", none)), (34, fun K => He.fAd K ("_law_mixed", none)), (35, fun K => He.fAd K ("_law_stuff", none)), (36, fun K => He.fAd K ("_law_menus", none)), (64, fun K => He.fAd K ("_law_deed", none)), (65, fun K => He.fAd K ("_law_case_right", none)), (66, fun K => He.fAd K ("law", none))]
def tl : Tl where
  cl := [(29, "Book")]
  fl := [0, 1, 2, 3]
  nm := [(0, "all_things"), (1, "all_lines"), (2, "every"), (3, "by_menu"), (4, "things"), (5, "lines"), (8, "told"), (9, "whole"), (16, "__eq__"), (19, "__str__"), (27, "pick"), (28, "without"), (29, "with_line")]
  ad := fun f K => ((adl.lookup f).getD fun _ => 0) K
  lam := [(("_law_menus", none), d36.qual ++ ".<locals>." ++ "<lambda>")]
abbrev tb (K : PySem.W.Frag) (scr : Option (Addr × List Int)) : Tb := tl.tb K scr
theorem sc60 : FnScope n60 (parN d60.params) d60.scope := ⟨rfl, rfl, rfl, by decide +kernel, rfl, by decide +kernel, by decide +kernel⟩
theorem sc61 : FnScope n61 (parN d61.params) d61.scope := ⟨rfl, rfl, rfl, by decide +kernel, rfl, by decide +kernel, by decide +kernel⟩
theorem sc8 : FnScope n8 (parN d8.params) d8.scope := ⟨rfl, rfl, rfl, by decide +kernel, rfl, by decide +kernel, by decide +kernel⟩
theorem sc9 : FnScope n9 (parN d9.params) d9.scope := ⟨rfl, rfl, rfl, by decide +kernel, rfl, by decide +kernel, by decide +kernel⟩
theorem sc10 : FnScope n10 (parN d10.params) d10.scope := ⟨rfl, rfl, rfl, by decide +kernel, rfl, by decide +kernel, by decide +kernel⟩
theorem sc11 : FnScope n11 (parN d11.params) d11.scope := ⟨rfl, rfl, rfl, by decide +kernel, rfl, by decide +kernel, by decide +kernel⟩
theorem sc12 : FnScope n12 (parN d12.params) d12.scope := ⟨rfl, rfl, rfl, by decide +kernel, rfl, by decide +kernel, by decide +kernel⟩
theorem sc13 : FnScope n13 (parN d13.params) d13.scope := ⟨rfl, rfl, rfl, by decide +kernel, rfl, by decide +kernel, by decide +kernel⟩
theorem sc14 : FnScope n14 (parN d14.params) d14.scope := ⟨rfl, rfl, rfl, by decide +kernel, rfl, by decide +kernel, by decide +kernel⟩
theorem sc15 : FnScope n15 (parN d15.params) d15.scope := ⟨rfl, rfl, rfl, by decide +kernel, rfl, by decide +kernel, by decide +kernel⟩
theorem sc16 : FnScope n16 (parN d16.params) d16.scope := ⟨rfl, rfl, rfl, by decide +kernel, rfl, by decide +kernel, by decide +kernel⟩
theorem sc18 : FnScope n18 (parN d18.params) d18.scope := ⟨rfl, rfl, rfl, by decide +kernel, rfl, by decide +kernel, by decide +kernel⟩
theorem sc19 : FnScope n19 (parN d19.params) d19.scope := ⟨rfl, rfl, rfl, by decide +kernel, rfl, by decide +kernel, by decide +kernel⟩
theorem sc21 : FnScope n21 (parN d21.params) d21.scope := ⟨rfl, rfl, rfl, by decide +kernel, rfl, by decide +kernel, by decide +kernel⟩
theorem sc52 : FnScope n52 (parN d52.params) d52.scope := ⟨rfl, rfl, rfl, by decide +kernel, rfl, by decide +kernel, by decide +kernel⟩
theorem sc24 : FnScope n24 (parN d24.params) d24.scope := ⟨rfl, rfl, rfl, by decide +kernel, rfl, by decide +kernel, by decide +kernel⟩
theorem sc25 : FnScope n25 (parN d25.params) d25.scope := ⟨rfl, rfl, rfl, by decide +kernel, rfl, by decide +kernel, by decide +kernel⟩
theorem sc29 : FnScope n29 (parN d29.params) d29.scope := ⟨rfl, rfl, rfl, by decide +kernel, rfl, by decide +kernel, by decide +kernel⟩
theorem sc62 : FnScope n62 (parN d62.params) d62.scope := ⟨rfl, rfl, rfl, by decide +kernel, rfl, by decide +kernel, by decide +kernel⟩
theorem sc63 : FnScope n63 (parN d63.params) d63.scope := ⟨rfl, rfl, rfl, by decide +kernel, rfl, by decide +kernel, by decide +kernel⟩
theorem sc27 : FnScope n27 (parN d27.params) d27.scope := ⟨rfl, rfl, rfl, by decide +kernel, rfl, by decide +kernel, by decide +kernel⟩
theorem sc28 : FnScope n28 (parN d28.params) d28.scope := ⟨rfl, rfl, rfl, by decide +kernel, rfl, by decide +kernel, by decide +kernel⟩
theorem sc30 : FnScope n30 (parN d30.params) d30.scope := ⟨rfl, rfl, rfl, by decide +kernel, rfl, by decide +kernel, by decide +kernel⟩
theorem sc31 : FnScope n31 (parN d31.params) d31.scope := ⟨rfl, rfl, rfl, by decide +kernel, rfl, by decide +kernel, by decide +kernel⟩
theorem sc32 : FnScope n32 (parN d32.params) d32.scope := ⟨rfl, rfl, rfl, by decide +kernel, rfl, by decide +kernel, by decide +kernel⟩
theorem sc33 : FnScope n33 (parN d33.params) d33.scope := ⟨rfl, rfl, rfl, by decide +kernel, rfl, by decide +kernel, by decide +kernel⟩
theorem sc34 : FnScope n34 (parN d34.params) d34.scope := ⟨rfl, rfl, rfl, by decide +kernel, rfl, by decide +kernel, by decide +kernel⟩
theorem sc35 : FnScope n35 (parN d35.params) d35.scope := ⟨rfl, rfl, rfl, by decide +kernel, rfl, by decide +kernel, by decide +kernel⟩
theorem sc36 : FnScope n36 (parN d36.params) d36.scope := ⟨rfl, rfl, rfl, by decide +kernel, rfl, by decide +kernel, by decide +kernel⟩
theorem sc64 : FnScope n64 (parN d64.params) d64.scope := ⟨rfl, rfl, rfl, by decide +kernel, rfl, by decide +kernel, by decide +kernel⟩
theorem sc65 : FnScope n65 (parN d65.params) d65.scope := ⟨rfl, rfl, rfl, by decide +kernel, rfl, by decide +kernel, by decide +kernel⟩
theorem sc66 : FnScope n66 (parN d66.params) d66.scope := ⟨rfl, rfl, rfl, by decide +kernel, rfl, by decide +kernel, by decide +kernel⟩
section
variable {K : PySem.W.Frag} {scr : Option (Addr × List Int)} {mg : Str → Option Value} {dat : Nat → FuncData}
theorem sh_is_integer_1 (R : RowF rwk (tb K scr) Gk K mg dat)  : Shp (tb K scr) (dat 60) (parN d60.params) 1 [] [.inl 0] :=
  shp0 (ks := []) rfl (R.fn 60 d60 rfl) [.inl 0] (fun _ _ _ _ _ _ us ws h1 h2 => match us, ws, h1, h2 with | [_], [], _, _ => rfl) rfl rfl
theorem sh_is_name_1 (R : RowF rwk (tb K scr) Gk K mg dat)  : Shp (tb K scr) (dat 8) (parN d8.params) 1 [] [.inl 0] :=
  shp0 (ks := []) rfl (R.fn 8 d8 rfl) [.inl 0] (fun _ _ _ _ _ _ us ws h1 h2 => match us, ws, h1, h2 with | [_], [], _, _ => rfl) rfl rfl
theorem sh_in_order_2 (R : RowF rwk (tb K scr) Gk K mg dat)  : Shp (tb K scr) (dat 10) (parN d10.params) 2 [] [.inl 0, .inl 1] :=
  shp0 (ks := []) rfl (R.fn 10 d10 rfl) [.inl 0, .inl 1] (fun _ _ _ _ _ _ us ws h1 h2 => match us, ws, h1, h2 with | [_, _], [], _, _ => rfl) rfl rfl
theorem sh_is_menu_2 (R : RowF rwk (tb K scr) Gk K mg dat)  : Shp (tb K scr) (dat 11) (parN d11.params) 2 [] [.inl 0, .inl 1] :=
  shp0 (ks := []) rfl (R.fn 11 d11 rfl) [.inl 0, .inl 1] (fun _ _ _ _ _ _ us ws h1 h2 => match us, ws, h1, h2 with | [_, _], [], _, _ => rfl) rfl rfl
theorem sh_line_parts_2 (R : RowF rwk (tb K scr) Gk K mg dat)  : Shp (tb K scr) (dat 12) (parN d12.params) 2 [] [.inl 0, .inl 1] :=
  shp0 (ks := []) rfl (R.fn 12 d12 rfl) [.inl 0, .inl 1] (fun _ _ _ _ _ _ us ws h1 h2 => match us, ws, h1, h2 with | [_, _], [], _, _ => rfl) rfl rfl
theorem sh_lots_of_2 (R : RowF rwk (tb K scr) Gk K mg dat)  : Shp (tb K scr) (dat 14) (parN d14.params) 2 [] [.inl 0, .inl 1] :=
  shp0 (ks := []) rfl (R.fn 14 d14 rfl) [.inl 0, .inl 1] (fun _ _ _ _ _ _ us ws h1 h2 => match us, ws, h1, h2 with | [_, _], [], _, _ => rfl) rfl rfl
theorem sh_all_menus_1 (R : RowF rwk (tb K scr) Gk K mg dat)  : Shp (tb K scr) (dat 15) (parN d15.params) 1 [] [.inl 0] :=
  shp0 (ks := []) rfl (R.fn 15 d15 rfl) [.inl 0] (fun _ _ _ _ _ _ us ws h1 h2 => match us, ws, h1, h2 with | [_], [], _, _ => rfl) rfl rfl
theorem sh_lines_told_2 (R : RowF rwk (tb K scr) Gk K mg dat)  : Shp (tb K scr) (dat 13) (parN d13.params) 2 [] [.inl 0, .inl 1] :=
  shp0 (ks := []) rfl (R.fn 13 d13 rfl) [.inl 0, .inl 1] (fun _ _ _ _ _ _ us ws h1 h2 => match us, ws, h1, h2 with | [_, _], [], _, _ => rfl) rfl rfl
theorem sh_check_things_1 (R : RowF rwk (tb K scr) Gk K mg dat)  : Shp (tb K scr) (dat 9) (parN d9.params) 1 [] [.inl 0] :=
  shp0 (ks := []) rfl (R.fn 9 d9 rfl) [.inl 0] (fun _ _ _ _ _ _ us ws h1 h2 => match us, ws, h1, h2 with | [_], [], _, _ => rfl) rfl rfl
theorem sh_menu_of_2 (R : RowF rwk (tb K scr) Gk K mg dat)  : Shp (tb K scr) (dat 28) (parN d28.params) 2 [] [.inl 0, .inl 1] :=
  shp0 (ks := []) rfl (R.fn 28 d28 rfl) [.inl 0, .inl 1] (fun _ _ _ _ _ _ us ws h1 h2 => match us, ws, h1, h2 with | [_, _], [], _, _ => rfl) rfl rfl
theorem sh_check_menu_2 (R : RowF rwk (tb K scr) Gk K mg dat)  : Shp (tb K scr) (dat 27) (parN d27.params) 2 [] [.inl 0, .inl 1] :=
  shp0 (ks := []) rfl (R.fn 27 d27 rfl) [.inl 0, .inl 1] (fun _ _ _ _ _ _ us ws h1 h2 => match us, ws, h1, h2 with | [_, _], [], _, _ => rfl) rfl rfl
theorem sh_Book___init___2 (R : RowF rwk (tb K scr) Gk K mg dat)  : ShpM (tb K scr) (dat 16) (parN d16.params) 2 [] [.inl 0, .inl 1] :=
  shpM (shpD (ks := []) (ds := [.tup []]) rfl (R.fn 16 d16 rfl) (by simp [d16, He.DefD.dvs]) (R.dfl 16 d16 rfl) [.inl 0, .inl 1, .inl 2] (fun _ _ _ _ _ _ _ us ws its h1 h2 h3 => match us, ws, its, h1, h2, h3 with | [_, _, _], [], [_], _, _, _ => ⟨_, rfl, rfl⟩) rfl rfl)
theorem sh_is_between_3 (R : RowF rwk (tb K scr) Gk K mg dat)  : Shp (tb K scr) (dat 61) (parN d61.params) 3 [] [.inl 0, .inl 1, .inl 2] :=
  shp0 (ks := []) rfl (R.fn 61 d61 rfl) [.inl 0, .inl 1, .inl 2] (fun _ _ _ _ _ _ us ws h1 h2 => match us, ws, h1, h2 with | [_, _, _], [], _, _ => rfl) rfl rfl
theorem sh__law_roll_2 (R : RowF rwk (tb K scr) Gk K mg dat)  : Shp (tb K scr) (dat 32) (parN d32.params) 2 [] [.inl 0, .inl 1] :=
  shp0 (ks := []) rfl (R.fn 32 d32 rfl) [.inl 0, .inl 1] (fun _ _ _ _ _ _ us ws h1 h2 => match us, ws, h1, h2 with | [_, _], [], _, _ => rfl) rfl rfl
theorem sh__law_mixed_2 (R : RowF rwk (tb K scr) Gk K mg dat)  : Shp (tb K scr) (dat 34) (parN d34.params) 2 [] [.inl 0, .inl 1] :=
  shp0 (ks := []) rfl (R.fn 34 d34 rfl) [.inl 0, .inl 1] (fun _ _ _ _ _ _ us ws h1 h2 => match us, ws, h1, h2 with | [_, _], [], _, _ => rfl) rfl rfl
theorem sh_Book_with_line_1 (R : RowF rwk (tb K scr) Gk K mg dat)  : ShpM (tb K scr) (dat 62) (parN d62.params) 1 [] [.inl 0] :=
  shpM (shp0 (ks := []) rfl (R.fn 62 d62 rfl) [.inl 0, .inl 1] (fun _ _ _ _ _ _ us ws h1 h2 => match us, ws, h1, h2 with | [_, _], [], _, _ => rfl) rfl rfl)
theorem sh_Book_with_line_0_line (R : RowF rwk (tb K scr) Gk K mg dat)  : ShpM (tb K scr) (dat 62) (parN d62.params) 0 ["line"] [.inl 0] :=
  shpM (shp0 (ks := ["line"]) rfl (R.fn 62 d62 rfl) [.inl 0, .inl 1] (fun _ _ _ _ _ _ us ws h1 h2 => match us, ws, h1, h2 with | [_], [_], _, _ => rfl) rfl rfl)
theorem sh__law_pick_2 (R : RowF rwk (tb K scr) Gk K mg dat)  : Shp (tb K scr) (dat 33) (parN d33.params) 2 [] [.inl 0, .inl 1] :=
  shp0 (ks := []) rfl (R.fn 33 d33 rfl) [.inl 0, .inl 1] (fun _ _ _ _ _ _ us ws h1 h2 => match us, ws, h1, h2 with | [_, _], [], _, _ => rfl) rfl rfl
theorem sh_Book_without_1 (R : RowF rwk (tb K scr) Gk K mg dat)  : ShpM (tb K scr) (dat 63) (parN d63.params) 1 [] [.inl 0] :=
  shpM (shp0 (ks := []) rfl (R.fn 63 d63 rfl) [.inl 0, .inl 1] (fun _ _ _ _ _ _ us ws h1 h2 => match us, ws, h1, h2 with | [_, _], [], _, _ => rfl) rfl rfl)
theorem sh_Book_without_0_index (R : RowF rwk (tb K scr) Gk K mg dat)  : ShpM (tb K scr) (dat 63) (parN d63.params) 0 ["index"] [.inl 0] :=
  shpM (shp0 (ks := ["index"]) rfl (R.fn 63 d63 rfl) [.inl 0, .inl 1] (fun _ _ _ _ _ _ us ws h1 h2 => match us, ws, h1, h2 with | [_], [_], _, _ => rfl) rfl rfl)
theorem sh__law_menus_1 (R : RowF rwk (tb K scr) Gk K mg dat)  : Shp (tb K scr) (dat 36) (parN d36.params) 1 [] [.inl 0] :=
  shp0 (ks := []) rfl (R.fn 36 d36 rfl) [.inl 0] (fun _ _ _ _ _ _ us ws h1 h2 => match us, ws, h1, h2 with | [_], [], _, _ => rfl) rfl rfl
theorem sh_Book___init___1 (R : RowF rwk (tb K scr) Gk K mg dat)  : ShpM (tb K scr) (dat 16) (parN d16.params) 1 [] [.inl 0, .inr (.tup [])] :=
  shpM (shpD (ks := []) (ds := [.tup []]) rfl (R.fn 16 d16 rfl) (by simp [d16, He.DefD.dvs]) (R.dfl 16 d16 rfl) [.inl 0, .inl 1, .inr 0] (fun _ _ _ _ _ _ _ us ws its h1 h2 h3 => match us, ws, its, h1, h2, h3 with | [_, _], [], [_], _, _, _ => ⟨_, rfl, rfl⟩) rfl rfl)
theorem sh_Book_pick_1 (R : RowF rwk (tb K scr) Gk K mg dat)  : ShpM (tb K scr) (dat 29) (parN d29.params) 1 [] [.inl 0] :=
  shpM (shp0 (ks := []) rfl (R.fn 29 d29 rfl) [.inl 0, .inl 1] (fun _ _ _ _ _ _ us ws h1 h2 => match us, ws, h1, h2 with | [_, _], [], _, _ => rfl) rfl rfl)
theorem sh__law_deed_4 (R : RowF rwk (tb K scr) Gk K mg dat)  : Shp (tb K scr) (dat 64) (parN d64.params) 4 [] [.inl 0, .inl 1, .inl 2, .inl 3] :=
  shp0 (ks := []) rfl (R.fn 64 d64 rfl) [.inl 0, .inl 1, .inl 2, .inl 3] (fun _ _ _ _ _ _ us ws h1 h2 => match us, ws, h1, h2 with | [_, _, _, _], [], _, _ => rfl) rfl rfl
theorem sh__law_stuff_3 (R : RowF rwk (tb K scr) Gk K mg dat)  : Shp (tb K scr) (dat 35) (parN d35.params) 3 [] [.inl 0, .inl 1, .inl 2] :=
  shp0 (ks := []) rfl (R.fn 35 d35 rfl) [.inl 0, .inl 1, .inl 2] (fun _ _ _ _ _ _ us ws h1 h2 => match us, ws, h1, h2 with | [_, _, _], [], _, _ => rfl) rfl rfl
theorem sh__law_case_right_1 (R : RowF rwk (tb K scr) Gk K mg dat)  : Shp (tb K scr) (dat 65) (parN d65.params) 1 [] [.inl 0] :=
  shp0 (ks := []) rfl (R.fn 65 d65 rfl) [.inl 0] (fun _ _ _ _ _ _ us ws h1 h2 => match us, ws, h1, h2 with | [_], [], _, _ => rfl) rfl rfl
theorem sh__law_purse_1 (R : RowF rwk (tb K scr) Gk K mg dat)  : Shp (tb K scr) (dat 31) (parN d31.params) 1 [] [.inl 0] :=
  shp0 (ks := []) rfl (R.fn 31 d31 rfl) [.inl 0] (fun _ _ _ _ _ _ us ws h1 h2 => match us, ws, h1, h2 with | [_], [], _, _ => rfl) rfl rfl
theorem sh__law_cell_2 (R : RowF rwk (tb K scr) Gk K mg dat)  : Shp (tb K scr) (dat 30) (parN d30.params) 2 [] [.inl 0, .inl 1] :=
  shp0 (ks := []) rfl (R.fn 30 d30 rfl) [.inl 0, .inl 1] (fun _ _ _ _ _ _ us ws h1 h2 => match us, ws, h1, h2 with | [_, _], [], _, _ => rfl) rfl rfl
theorem me_with_line_1 (R : RowF rwk (tb K scr) Gk K mg dat) : ∀ C f, Gk.meth C 29 = some f → ∃ d fd, rwk.dd f = some d ∧ Gk.fn f = some fd ∧ ShpM (tb K scr) (dat f) (parN d.params) 1 [] [.inl 0] :=
  fun C f h => look_all (Q := fun (a : Nat × Nat) f => a.2 = 29 → ∃ d fd, rwk.dd f = some d ∧ Gk.fn f = some fd ∧ ShpM (tb K scr) (dat f) (parN d.params) 1 [] [.inl 0]) (l := ls.me) (allC (fun e => absurd e (by decide)) (allC (fun e => absurd e (by decide)) (allC (fun e => absurd e (by decide)) (allC (fun _ => ⟨_, _, rfl, rfl, sh_Book_with_line_1 R⟩) (allC (fun e => absurd e (by decide)) (all0)))))) (C, 29) f h rfl
theorem me_with_line_0_line (R : RowF rwk (tb K scr) Gk K mg dat) : ∀ C f, Gk.meth C 29 = some f → ∃ d fd, rwk.dd f = some d ∧ Gk.fn f = some fd ∧ ShpM (tb K scr) (dat f) (parN d.params) 0 ["line"] [.inl 0] :=
  fun C f h => look_all (Q := fun (a : Nat × Nat) f => a.2 = 29 → ∃ d fd, rwk.dd f = some d ∧ Gk.fn f = some fd ∧ ShpM (tb K scr) (dat f) (parN d.params) 0 ["line"] [.inl 0]) (l := ls.me) (allC (fun e => absurd e (by decide)) (allC (fun e => absurd e (by decide)) (allC (fun e => absurd e (by decide)) (allC (fun _ => ⟨_, _, rfl, rfl, sh_Book_with_line_0_line R⟩) (allC (fun e => absurd e (by decide)) (all0)))))) (C, 29) f h rfl
theorem me_without_1 (R : RowF rwk (tb K scr) Gk K mg dat) : ∀ C f, Gk.meth C 28 = some f → ∃ d fd, rwk.dd f = some d ∧ Gk.fn f = some fd ∧ ShpM (tb K scr) (dat f) (parN d.params) 1 [] [.inl 0] :=
  fun C f h => look_all (Q := fun (a : Nat × Nat) f => a.2 = 28 → ∃ d fd, rwk.dd f = some d ∧ Gk.fn f = some fd ∧ ShpM (tb K scr) (dat f) (parN d.params) 1 [] [.inl 0]) (l := ls.me) (allC (fun e => absurd e (by decide)) (allC (fun e => absurd e (by decide)) (allC (fun e => absurd e (by decide)) (allC (fun e => absurd e (by decide)) (allC (fun _ => ⟨_, _, rfl, rfl, sh_Book_without_1 R⟩) (all0)))))) (C, 28) f h rfl
theorem me_without_0_index (R : RowF rwk (tb K scr) Gk K mg dat) : ∀ C f, Gk.meth C 28 = some f → ∃ d fd, rwk.dd f = some d ∧ Gk.fn f = some fd ∧ ShpM (tb K scr) (dat f) (parN d.params) 0 ["index"] [.inl 0] :=
  fun C f h => look_all (Q := fun (a : Nat × Nat) f => a.2 = 28 → ∃ d fd, rwk.dd f = some d ∧ Gk.fn f = some fd ∧ ShpM (tb K scr) (dat f) (parN d.params) 0 ["index"] [.inl 0]) (l := ls.me) (allC (fun e => absurd e (by decide)) (allC (fun e => absurd e (by decide)) (allC (fun e => absurd e (by decide)) (allC (fun e => absurd e (by decide)) (allC (fun _ => ⟨_, _, rfl, rfl, sh_Book_without_0_index R⟩) (all0)))))) (C, 28) f h rfl
theorem me_pick_1 (R : RowF rwk (tb K scr) Gk K mg dat) : ∀ C f, Gk.meth C 27 = some f → ∃ d fd, rwk.dd f = some d ∧ Gk.fn f = some fd ∧ ShpM (tb K scr) (dat f) (parN d.params) 1 [] [.inl 0] :=
  fun C f h => look_all (Q := fun (a : Nat × Nat) f => a.2 = 27 → ∃ d fd, rwk.dd f = some d ∧ Gk.fn f = some fd ∧ ShpM (tb K scr) (dat f) (parN d.params) 1 [] [.inl 0]) (l := ls.me) (allC (fun e => absurd e (by decide)) (allC (fun e => absurd e (by decide)) (allC (fun _ => ⟨_, _, rfl, rfl, sh_Book_pick_1 R⟩) (allC (fun e => absurd e (by decide)) (allC (fun e => absurd e (by decide)) (all0)))))) (C, 27) f h rfl
end
section
variable {P : Program} {w : World} {K : PySem.W.Frag} {scr : Option (Addr × List Int)} {mg : Str → Option Value} {base : Heap} {dat : Nat → FuncData} {n : Nat}
/-- is_integer -/
theorem ok60 (R : RowF rwk (tb K scr) Gk K mg dat) (lv : LvF P w K mg base rwk (tb K scr) Gk dat n) : FnOk P w K mg base CX0 (4 * (n + 1)) ((tb K scr).fnA 60) (dat 60) (parN d60.params) (spL (tb K scr) Gk (n + 1) f60) :=
  defOk R lv (f := 60) (d := d60) (fd := f60) (N := n60) rfl sc60 rfl rfl (by decide) fun cdv A outer s H E c hc => (sC (sRt (pe_andC (eIs1 c vN (tyB c) rfl) (pe_one (pe_notC (eIs1 c vN (tyB c) rfl))))) s0)
/-- is_between -/
theorem ok61 (R : RowF rwk (tb K scr) Gk K mg dat) (lv : LvF P w K mg base rwk (tb K scr) Gk dat n) : FnOk P w K mg base CX0 (4 * (n + 1)) ((tb K scr).fnA 61) (dat 61) (parN d61.params) (spL (tb K scr) Gk (n + 1) f61) :=
  defOk R lv (f := 61) (d := d61) (fd := f61) (N := n61) rfl sc61 rfl rfl (by decide) fun cdv A outer s H E c hc => (sC (sRt (pe_andC (eCall c 1 rfl rfl rfl (sh_is_integer_1 c.row) (aC vN a0) k0) (pe_one (eChn c .le .le vN vN vN)))) s0)
/-- is_name -/
theorem ok8 (R : RowF rwk (tb K scr) Gk K mg dat) (lv : LvF P w K mg base rwk (tb K scr) Gk dat n) : FnOk P w K mg base CX0 (4 * (n + 1)) ((tb K scr).fnA 8) (dat 8) (parN d8.params) (spL (tb K scr) Gk (n + 1) f8) :=
  defOk R lv (f := 8) (d := d8) (fd := f8) (N := n8) rfl sc8 rfl rfl (by decide) fun cdv A outer s H E c hc => (sC (sRt (pe_andC (eIs1 c vN (tyB c) rfl) (pe_andC (eChn c .lt .lt kI (bLen c lN) kI) (pe_one (bB c (bi_all c.calm) Ct.inNo (lE (eLcN c (lcB c (fun _ _ _ _ _ c => (gN c)) (fun _ _ _ _ _ c => q0) (fun _ _ _ _ _ c => (eCmp c .in_ lN (lE (kG c)))))))))))) s0)
/-- check_things -/
theorem ok9 (R : RowF rwk (tb K scr) Gk K mg dat) (lv : LvF P w K mg base rwk (tb K scr) Gk dat n) : FnOk P w K mg base CX0 (4 * (n + 1)) ((tb K scr).fnA 9) (dat 9) (parN d9.params) (spL (tb K scr) Gk (n + 1) f9) :=
  defOk R lv (f := 9) (d := d9) (fd := f9) (N := n9) rfl sc9 rfl rfl (by decide) fun cdv A outer s H E c hc => (sC (sIf (tW (wOr (tNt (tVal (eIs1 c vN (tyB c) rfl))) (pw_or1 (tCmp c .lt (lE (bLen c lN)) (lE kI))))) (sC sRse s0) s0) (sC (sFor c (iR1 c (bLen c lN)) (gN c) (sC (sIf (tW (wOr (tCmp c .eq lN (lE (kG c))) (wOr (tNt (tVal (eCall c 1 rfl rfl rfl (sh_is_name_1 c.row) (aC (eIdx c lN vN) a0) k0))) (pw_or1 (tCmp c .in_ (lE (eIdx c lN vN)) (lE (eSlc c lN p0 (p1 vN)))))))) (sC sRse s0) s0) s0)) s0))
/-- in_order -/
theorem ok10 (R : RowF rwk (tb K scr) Gk K mg dat) (lv : LvF P w K mg base rwk (tb K scr) Gk dat n) : FnOk P w K mg base CX0 (4 * (n + 1)) ((tb K scr).fnA 10) (dat 10) (parN d10.params) (spL (tb K scr) Gk (n + 1) f10) :=
  defOk R lv (f := 10) (d := d10) (fd := f10) (N := n10) rfl sc10 rfl rfl (by decide) fun cdv A outer s H E c hc => (sC (sRt (bT c (bi_tuple c.hK c.calm) Ct.inNo (lE (eLcN c (lcB c (fun _ _ _ _ _ c => (gN c)) (fun _ _ _ _ _ c => (q1 (tCmp c .in_ lN lN))) (fun _ _ _ _ _ c => vN)))))) s0)
/-- is_menu -/
theorem ok11 (R : RowF rwk (tb K scr) Gk K mg dat) (lv : LvF P w K mg base rwk (tb K scr) Gk dat n) : FnOk P w K mg base CX0 (4 * (n + 1)) ((tb K scr).fnA 11) (dat 11) (parN d11.params) (spL (tb K scr) Gk (n + 1) f11) :=
  defOk R lv (f := 11) (d := d11) (fd := f11) (N := n11) rfl sc11 rfl rfl (by decide) fun cdv A outer s H E c hc => (sC (sIf (tW (wOr (tNt (tVal (eIs1 c vN (tyB c) rfl))) (wOr (tCmp c .lt (lE (bLen c lN)) (lE kI)) (pw_or1 (tNt (tVal (bB c (bi_all c.calm) Ct.inNo (lE (eLcN c (lcB c (fun _ _ _ _ _ c => (gN c)) (fun _ _ _ _ _ c => q0) (fun _ _ _ _ _ c => (eIs1 c vN (tyB c) rfl)))))))))))) (sC (sRt kB) s0) s0) (sC (sRt (pe_andC (bB c (bi_all c.calm) Ct.inNo (lE (eLcN c (lcB c (fun _ _ _ _ _ c => (gN c)) (fun _ _ _ _ _ c => q0) (fun _ _ _ _ _ c => (eCmp c .in_ lN lN)))))) (pe_one (eCmp c .eq (lE (bLen c (lE (eCall c 2 rfl rfl rfl (sh_in_order_2 c.row) (aC vN (aC vN a0)) k0)))) (lE (bLen c lN)))))) s0))
/-- line_parts -/
theorem ok12 (R : RowF rwk (tb K scr) Gk K mg dat) (lv : LvF P w K mg base rwk (tb K scr) Gk dat n) : FnOk P w K mg base CX0 (4 * (n + 1)) ((tb K scr).fnA 12) (dat 12) (parN d12.params) (spL (tb K scr) Gk (n + 1) f12) :=
  defOk R lv (f := 12) (d := d12) (fd := f12) (N := n12) rfl sc12 rfl rfl (by decide) fun cdv A outer s H E c hc => (sC (sSet c (pe_iteC (tVal (eIs1 c vN (tyB c) rfl)) (eSpl lN (lE kS)) (pe_lstC a0))) (sC (sIf (tCmp c .ne (lE (bLen c lN)) (lE kI)) (sC (sRt kN) s0) s0) (sC (sSet c (bT c (bi_tuple c.hK c.calm) Ct.inNo (lE (eSpl (lE (eIdx c lN kI)) (lE kS))))) (sC (sIf (tW (wOr (tNt (tVal (eCall c 2 rfl rfl rfl (sh_is_menu_2 c.row) (aC vN (aC vN a0)) k0))) (pw_or1 (tCmp c .nin (lE (eIdx c lN kI)) lN)))) (sC (sRt kN) s0) s0) (sC (sRt (pe_tupC (aC (eCall c 2 rfl rfl rfl (sh_in_order_2 c.row) (aC vN (aC vN a0)) k0) (aC (eIdx c lN kI) a0)))) s0)))))
/-- lines_told -/
theorem ok13 (R : RowF rwk (tb K scr) Gk K mg dat) (lv : LvF P w K mg base rwk (tb K scr) Gk dat n) : FnOk P w K mg base CX0 (4 * (n + 1)) ((tb K scr).fnA 13) (dat 13) (parN d13.params) (spL (tb K scr) Gk (n + 1) f13) :=
  defOk R lv (f := 13) (d := d13) (fd := f13) (N := n13) rfl sc13 rfl rfl (by decide) fun cdv A outer s H E c hc => (sC (sIf (tNt (tVal (eIs1 c vN (tyB c) rfl))) (sC sRse s0) s0) (sC (sSet c pe_dct0) (sC (sFor c (iR1 c (bLen c lN)) (gN c) (sC (sSet c (eCall c 2 rfl rfl rfl (sh_line_parts_2 c.row) (aC vN (aC (eIdx c lN vN) a0)) k0)) (sC (sIf (tW (wOr (tCmp c .is_ lN (lE kN)) (pw_or1 (tCmp c .in_ (lE (eIdx c lN kI)) lN)))) (sC sRse s0) s0) (sC (sIx c (eIdx c lN kI) (eIdx c lN kI)) s0)))) (sC sRv s0))))
/-- lots_of -/
theorem ok14 (R : RowF rwk (tb K scr) Gk K mg dat) (lv : LvF P w K mg base rwk (tb K scr) Gk dat n) : FnOk P w K mg base CX0 (4 * (n + 1)) ((tb K scr).fnA 14) (dat 14) (parN d14.params) (spL (tb K scr) Gk (n + 1) f14) :=
  defOk R lv (f := 14) (d := d14) (fd := f14) (N := n14) rfl sc14 rfl rfl (by decide) fun cdv A outer s H E c hc => (sC (sIf (tCmp c .eq lN (lE kI)) (sC (sRt (pe_lstC (aC (pe_tupC a0) a0))) s0) s0) (sC (sSet c (pe_lstC a0)) (sC (sFor c (iR1 c (bLen c lN)) (gN c) (sC (sSet c (eBin c lN (lE (eLc c (iE c (eCall c 2 rfl rfl rfl (sh_lots_of_2 c.row) (aC (eSlc c lN (p1 (eBin c lN (lE kI))) p0) (aC (eBin c lN (lE kI)) a0)) k0)) (lcB c (fun _ _ _ _ _ c => (gN c)) (fun _ _ _ _ _ c => q0) (fun _ _ _ _ _ c => (eBin c (lE (pe_tupC (aC (eIdx c lN vN) a0))) lN))))))) s0)) (sC sRv s0))))
/-- all_menus -/
theorem ok15 (R : RowF rwk (tb K scr) Gk K mg dat) (lv : LvF P w K mg base rwk (tb K scr) Gk dat n) : FnOk P w K mg base CX0 (4 * (n + 1)) ((tb K scr).fnA 15) (dat 15) (parN d15.params) (spL (tb K scr) Gk (n + 1) f15) :=
  defOk R lv (f := 15) (d := d15) (fd := f15) (N := n15) rfl sc15 rfl rfl (by decide) fun cdv A outer s H E c hc => (sC (sSet c (pe_lstC a0)) (sC (sFor c (iR2 c kI (eBin c (lE (bLen c lN)) (lE kI))) (gN c) (sC (sSet c (eBin c lN (lE (eCall c 2 rfl rfl rfl (sh_lots_of_2 c.row) (aC vN (aC vN a0)) k0)))) s0)) (sC sRv s0)))
/-- Book.__init__ -/
theorem ok16 (R : RowF rwk (tb K scr) Gk K mg dat) (lv : LvF P w K mg base rwk (tb K scr) Gk dat n) : FnOk P w K mg base CX0 (4 * (n + 1)) ((tb K scr).fnA 16) (dat 16) (parN d16.params) (spL (tb K scr) Gk (n + 1) f16) :=
  defOk R lv (f := 16) (d := d16) (fd := f16) (N := n16) rfl sc16 rfl rfl (by decide) fun cdv A outer s H E c hc => (sC (sEx (eCall c 1 rfl rfl rfl (sh_check_things_1 c.row) (aC vN a0) k0)) (sC (sSet c (eCall c 2 rfl rfl rfl (sh_lines_told_2 c.row) (aC vN (aC vN a0)) k0)) (sC (sFld c rfl rfl vN vN) (sC (sFld c rfl rfl vN vN) (sC (sFld c rfl rfl vN (bT c (bi_tuple c.hK c.calm) Ct.inNo (lE (eCall c 1 rfl rfl rfl (sh_all_menus_1 c.row) (aC vN a0) k0)))) (sC (sFld c rfl rfl vN (eDc c (iE c (eAttr c rfl vN)) (dcB c (fun _ _ _ _ _ c => (gN c)) (fun _ _ _ _ _ c => (q1 (tCmp c .in_ lN lN))) (fun _ _ _ _ _ c => vN) (fun _ _ _ _ _ c => (eIdx c lN vN))))) s0))))))
/-- Book.things -/
theorem ok18 (R : RowF rwk (tb K scr) Gk K mg dat) (lv : LvF P w K mg base rwk (tb K scr) Gk dat n) : FnOk P w K mg base CX0 (4 * (n + 1)) ((tb K scr).fnA 18) (dat 18) (parN d18.params) (spL (tb K scr) Gk (n + 1) f18) :=
  defOk R lv (f := 18) (d := d18) (fd := f18) (N := n18) rfl sc18 rfl rfl (by decide) fun cdv A outer s H E c hc => (sC (sRt (eAttr c rfl vN)) s0)
/-- Book.lines -/
theorem ok19 (R : RowF rwk (tb K scr) Gk K mg dat) (lv : LvF P w K mg base rwk (tb K scr) Gk dat n) : FnOk P w K mg base CX0 (4 * (n + 1)) ((tb K scr).fnA 19) (dat 19) (parN d19.params) (spL (tb K scr) Gk (n + 1) f19) :=
  defOk R lv (f := 19) (d := d19) (fd := f19) (N := n19) rfl sc19 rfl rfl (by decide) fun cdv A outer s H E c hc => (sC (sRt (eAttr c rfl vN)) s0)
/-- Book.told -/
theorem ok21 (R : RowF rwk (tb K scr) Gk K mg dat) (lv : LvF P w K mg base rwk (tb K scr) Gk dat n) : FnOk P w K mg base CX0 (4 * (n + 1)) ((tb K scr).fnA 21) (dat 21) (parN d21.params) (spL (tb K scr) Gk (n + 1) f21) :=
  defOk R lv (f := 21) (d := d21) (fd := f21) (N := n21) rfl sc21 rfl rfl (by decide) fun cdv A outer s H E c hc => (sC (sRt (bT c (bi_tuple c.hK c.calm) Ct.inNo (lE (eAttr c rfl vN)))) s0)
/-- Book.whole -/
theorem ok52 (R : RowF rwk (tb K scr) Gk K mg dat) (lv : LvF P w K mg base rwk (tb K scr) Gk dat n) : FnOk P w K mg base CX0 (4 * (n + 1)) ((tb K scr).fnA 52) (dat 52) (parN d52.params) (spL (tb K scr) Gk (n + 1) f52) :=
  defOk R lv (f := 52) (d := d52) (fd := f52) (N := n52) rfl sc52 rfl rfl (by decide) fun cdv A outer s H E c hc => (sC (sRt (eCmp c .eq (lE (bLen c (lE (eAttr c rfl vN)))) (lE (bLen c (lE (eAttr c rfl vN)))))) s0)
/-- Book.__eq__ -/
theorem ok24 (R : RowF rwk (tb K scr) Gk K mg dat) (lv : LvF P w K mg base rwk (tb K scr) Gk dat n) : FnOk P w K mg base CX0 (4 * (n + 1)) ((tb K scr).fnA 24) (dat 24) (parN d24.params) (spL (tb K scr) Gk (n + 1) f24) :=
  defOk R lv (f := 24) (d := d24) (fd := f24) (N := n24) rfl sc24 rfl rfl (by decide) fun cdv A outer s H E c hc => (sC (sRt (pe_andC (eIs1 c vN (tyO c) rfl) (pe_andC (eCmp c .eq (lE (eAttr c rfl vN)) (lE (eAttr c rfl vN))) (pe_one (eCmp c .eq (lE (eAttr c rfl vN)) (lE (eAttr c rfl vN))))))) s0)
/-- Book.__str__ -/
theorem ok25 (R : RowF rwk (tb K scr) Gk K mg dat) (lv : LvF P w K mg base rwk (tb K scr) Gk dat n) : FnOk P w K mg base CX0 (4 * (n + 1)) ((tb K scr).fnA 25) (dat 25) (parN d25.params) (spL (tb K scr) Gk (n + 1) f25) :=
  defOk R lv (f := 25) (d := d25) (fd := f25) (N := n25) rfl sc25 rfl rfl (by decide) fun cdv A outer s H E c hc => (sC (sRt (eJoi c (lE kS) (lE (pe_lstC (aC (eBin c (lE kS) (lE (eJoi c (lE kS) (lE (eAttr c rfl vN))))) (aS c (lE (eAttr c rfl vN)) a0)))))) s0)
/-- Book.pick -/
theorem ok29 (R : RowF rwk (tb K scr) Gk K mg dat) (lv : LvF P w K mg base rwk (tb K scr) Gk dat n) : FnOk P w K mg base CX0 (4 * (n + 1)) ((tb K scr).fnA 29) (dat 29) (parN d29.params) (spL (tb K scr) Gk (n + 1) f29) :=
  defOk R lv (f := 29) (d := d29) (fd := f29) (N := n29) rfl sc29 rfl rfl (by decide) fun cdv A outer s H E c hc => (sC (sEx (eCall c 2 rfl rfl rfl (sh_check_menu_2 c.row) (aC vN (aC vN a0)) k0)) (sC (sSet c (eCall c 2 rfl rfl rfl (sh_menu_of_2 c.row) (aC vN (aC vN a0)) k0)) (sC (sIf (tCmp c .nin lN (lE (eAttr c rfl vN))) (sC sRse s0) s0) (sC (sRt (eIdx c (lE (eAttr c rfl vN)) vN)) s0))))
/-- Book.with_line -/
theorem ok62 (R : RowF rwk (tb K scr) Gk K mg dat) (lv : LvF P w K mg base rwk (tb K scr) Gk dat n) : FnOk P w K mg base CX0 (4 * (n + 1)) ((tb K scr).fnA 62) (dat 62) (parN d62.params) (spL (tb K scr) Gk (n + 1) f62) :=
  defOk R lv (f := 62) (d := d62) (fd := f62) (N := n62) rfl sc62 rfl rfl (by decide) fun cdv A outer s H E c hc => (sC (sSet c (eCall c 2 rfl rfl rfl (sh_line_parts_2 c.row) (aC (eAttr c rfl vN) (aC vN a0)) k0)) (sC (sIf (tW (wOr (tCmp c .is_ lN (lE kN)) (pw_or1 (tCmp c .in_ (lE (eIdx c lN kI)) (lE (eAttr c rfl vN)))))) (sC sRse s0) s0) (sC (sRt (eMake c 2 rfl rfl rfl rfl rfl rfl (sh_Book___init___2 c.row) (aC (eAttr c rfl vN) (aC (pe_tupC (aS c (lE (eAttr c rfl vN)) (aC vN a0))) a0)) k0)) s0)))
/-- Book.without -/
theorem ok63 (R : RowF rwk (tb K scr) Gk K mg dat) (lv : LvF P w K mg base rwk (tb K scr) Gk dat n) : FnOk P w K mg base CX0 (4 * (n + 1)) ((tb K scr).fnA 63) (dat 63) (parN d63.params) (spL (tb K scr) Gk (n + 1) f63) :=
  defOk R lv (f := 63) (d := d63) (fd := f63) (N := n63) rfl sc63 rfl rfl (by decide) fun cdv A outer s H E c hc => (sC (sIf (tNt (tVal (eCall c 3 rfl rfl rfl (sh_is_between_3 c.row) (aC vN (aC kI (aC (eBin c (lE (bLen c (lE (eAttr c rfl vN)))) (lE kI)) a0))) k0))) (sC sRse s0) s0) (sC (sRt (eMake c 2 rfl rfl rfl rfl rfl rfl (sh_Book___init___2 c.row) (aC (eAttr c rfl vN) (aC (eBin c (lE (eSlc c (lE (eAttr c rfl vN)) p0 (p1 vN))) (lE (eSlc c (lE (eAttr c rfl vN)) (p1 (eBin c lN (lE kI))) p0))) a0)) k0)) s0))
/-- check_menu -/
theorem ok27 (R : RowF rwk (tb K scr) Gk K mg dat) (lv : LvF P w K mg base rwk (tb K scr) Gk dat n) : FnOk P w K mg base CX0 (4 * (n + 1)) ((tb K scr).fnA 27) (dat 27) (parN d27.params) (spL (tb K scr) Gk (n + 1) f27) :=
  defOk R lv (f := 27) (d := d27) (fd := f27) (N := n27) rfl sc27 rfl rfl (by decide) fun cdv A outer s H E c hc => (sC (sIf (tNt (tVal (eCall c 2 rfl rfl rfl (sh_is_menu_2 c.row) (aC (eAttr c rfl vN) (aC vN a0)) k0))) (sC sRse s0) s0) s0)
/-- menu_of -/
theorem ok28 (R : RowF rwk (tb K scr) Gk K mg dat) (lv : LvF P w K mg base rwk (tb K scr) Gk dat n) : FnOk P w K mg base CX0 (4 * (n + 1)) ((tb K scr).fnA 28) (dat 28) (parN d28.params) (spL (tb K scr) Gk (n + 1) f28) :=
  defOk R lv (f := 28) (d := d28) (fd := f28) (N := n28) rfl sc28 rfl rfl (by decide) fun cdv A outer s H E c hc => (sC (sRt (eCall c 2 rfl rfl rfl (sh_in_order_2 c.row) (aC (eAttr c rfl vN) (aC vN a0)) k0)) s0)
/-- _law_cell -/
theorem ok30 (R : RowF rwk (tb K scr) Gk K mg dat) (lv : LvF P w K mg base rwk (tb K scr) Gk dat n) : FnOk P w K mg base CX0 (4 * (n + 1)) ((tb K scr).fnA 30) (dat 30) (parN d30.params) (spL (tb K scr) Gk (n + 1) f30) :=
  defOk R lv (f := 30) (d := d30) (fd := f30) (N := n30) rfl sc30 rfl rfl (by decide) fun cdv A outer s H E c hc => (sC (sIf (tCmp c .lt lN (lE (bLen c lN))) (sC (sRt (eIdx c lN vN)) s0) s0) (sC (sSet c (eBin c (lE (bT c bi_int Ct.inNo (lE (eBin c (lE kI) (lE (eBin c (lE (eBin c (lE (eBin c lN lN)) (lE (eBin c (lE kI) lN)))) (lE kI))))))) (lE kI))) (sC (sFor c (iE c (eSlc c lN p0 (p1 kI))) (gN c) (sC (sSet c (eBin c (lE (bT c bi_int Ct.inNo (lE (eBin c (lE (eBin c (lE (eBin c lN (lE kI))) (lE (eBin c lN (lE kI))))) (lE kI))))) (lE kI))) s0)) (sC sRv s0))))
/-- _law_purse -/
theorem ok31 (R : RowF rwk (tb K scr) Gk K mg dat) (lv : LvF P w K mg base rwk (tb K scr) Gk dat n) : FnOk P w K mg base CX0 (4 * (n + 1)) ((tb K scr).fnA 31) (dat 31) (parN d31.params) (spL (tb K scr) Gk (n + 1) f31) :=
  defOk R lv (f := 31) (d := d31) (fd := f31) (N := n31) rfl sc31 rfl rfl (by decide) fun cdv A outer s H E c hc => (sC (sRt (pe_lstC (aC (pe_iteC (tW (wOr (tCmp c .lt lN (lE kI)) (pw_or1 (tCmp c .ge lN (lE (eBin c (lE kI) (lE kI))))))) (bB c bi_abs Ct.inNo lN) kI) (aC (eBin c (lE (bT c bi_int Ct.inNo (lE (eBin c (lE (eBin c lN (lE kI))) (lE kI))))) (lE kI)) (aC kI a0))))) s0)
/-- _law_roll -/
theorem ok32 (R : RowF rwk (tb K scr) Gk K mg dat) (lv : LvF P w K mg base rwk (tb K scr) Gk dat n) : FnOk P w K mg base CX0 (4 * (n + 1)) ((tb K scr).fnA 32) (dat 32) (parN d32.params) (spL (tb K scr) Gk (n + 1) f32) :=
  defOk R lv (f := 32) (d := d32) (fd := f32) (N := n32) rfl sc32 rfl rfl (by decide) fun cdv A outer s H E c hc => (sC (sIx c kI (eBin c (lE (eIdx c lN kI)) (lE kI))) (sC (sIf (tCmp c .gt (lE (eIdx c lN kI)) (lE kI)) (sC (sTup (gT c (gC gX (gC (gN c) g0))) (bL c bi_divmod (aC (eIdx c lN kI) (aC vN a0)))) (sC sRv s0)) s0) (sC (sSet c (bT c bi_int Ct.inNo (lE (eIdx c lN kI)))) (sC (sIx c kI (eBin c (lE (bT c bi_int Ct.inNo (lE (eBin c (lE (eBin c lN (lE (eBin c lN (lE kI))))) (lE (eBin c (lE kI) (lE (eIdx c lN kI)))))))) (lE kI))) (sC (sRt (eBin c (lE (bT c bi_int Ct.inNo (lE (eBin c (lE (eIdx c lN kI)) (lE kI))))) lN)) s0)))))
/-- _law_pick -/
theorem ok33 (R : RowF rwk (tb K scr) Gk K mg dat) (lv : LvF P w K mg base rwk (tb K scr) Gk dat n) : FnOk P w K mg base CX0 (4 * (n + 1)) ((tb K scr).fnA 33) (dat 33) (parN d33.params) (spL (tb K scr) Gk (n + 1) f33) :=
  defOk R lv (f := 33) (d := d33) (fd := f33) (N := n33) rfl sc33 rfl rfl (by decide) fun cdv A outer s H E c hc => (sC (sRt (eIdx c lN (eCall c 2 rfl rfl rfl (sh__law_roll_2 c.row) (aC vN (aC (bLen c lN) a0)) k0))) s0)
/-- _law_mixed -/
theorem ok34 (R : RowF rwk (tb K scr) Gk K mg dat) (lv : LvF P w K mg base rwk (tb K scr) Gk dat n) : FnOk P w K mg base CX0 (4 * (n + 1)) ((tb K scr).fnA 34) (dat 34) (parN d34.params) (spL (tb K scr) Gk (n + 1) f34) :=
  defOk R lv (f := 34) (d := d34) (fd := f34) (N := n34) rfl sc34 rfl rfl (by decide) fun cdv A outer s H E c hc => (sC (sPar c (aC (bT c (bi_list c.hK c.calm) Ct.inNo lN) (aC (pe_lstC a0) a0))) (sC (sWhl c (tCmp c .ne lN (lE (pe_lstC a0))) (sC (sSet c (eCall c 2 rfl rfl rfl (sh__law_roll_2 c.row) (aC vN (aC (bLen c lN) a0)) k0)) (sC (sEx (eApp (eIdx c lN vN))) (sC (sSet c (eBin c (lE (eSlc c lN p0 (p1 vN))) (lE (eSlc c lN (p1 (eBin c lN (lE kI))) p0)))) s0)))) (sC sRv s0)))
/-- _law_stuff -/
theorem ok35 (R : RowF rwk (tb K scr) Gk K mg dat) (lv : LvF P w K mg base rwk (tb K scr) Gk dat n) : FnOk P w K mg base CX0 (4 * (n + 1)) ((tb K scr).fnA 35) (dat 35) (parN d35.params) (spL (tb K scr) Gk (n + 1) f35) :=
  defOk R lv (f := 35) (d := d35) (fd := f35) (N := n35) rfl sc35 rfl rfl (by decide) fun cdv A outer s H E c hc => (sC (sSet c (eBin c lN (lE (eCall c 2 rfl rfl rfl (sh__law_roll_2 c.row) (aC vN (aC (eBin c (lE (eBin c lN lN)) (lE kI)) a0)) k0)))) (sC (sRt (bT c (bi_tuple c.hK c.calm) Ct.inNo (lE (eSlc c (lE (eCall c 2 rfl rfl rfl (sh__law_mixed_2 c.row) (aC vN (aC (pe_lstC (aC kS (aC kS (aC kS (aC kS (aC kS (aC kS (aC kS (aC kS a0))))))))) a0)) k0)) p0 (p1 vN))))) s0))
/-- _law_menus -/
theorem ok36 (R : RowF rwk (tb K scr) Gk K mg dat) (lv : LvF P w K mg base rwk (tb K scr) Gk dat n) (LF : LamD (tb K scr) mg base (dat 36).code (d36.qual ++ ".<locals>." ++ "<lambda>")) : FnOk P w K mg base CX0 (4 * (n + 1)) ((tb K scr).fnA 36) (dat 36) (parN d36.params) (spL (tb K scr) Gk (n + 1) f36) :=
  defOk R lv (f := 36) (d := d36) (fd := f36) (N := n36) rfl sc36 rfl rfl (by decide) fun cdv A outer s H E c hc => (sC (sPar c (aC (pe_lstC (aC (pe_tupC a0) a0)) (aC (pe_lstC a0) a0))) (sC (sFor c (iR1 c (bLen c lN)) (gN c) (sC (sSet c (eBin c lN (lE (eLcN c (lcB c (fun _ _ _ _ _ c => (gN c)) (fun _ _ _ _ _ c => q0) (fun _ _ _ _ _ c => (eBin c lN (lE (pe_tupC (aC vN a0)))))))))) s0)) (sC (sFor c (iE c (eSrt c hc LF lN)) (gN c) (sC (sIf (tCmp c .gt (lE (bLen c lN)) (lE kI)) (sC (sEx (eApp (bT c (bi_tuple c.hK c.calm) Ct.inNo (lE (eLcN c (lcB c (fun _ _ _ _ _ c => (gN c)) (fun _ _ _ _ _ c => q0) (fun _ _ _ _ _ c => (eIdx c lN vN)))))))) s0) s0) s0)) (sC sRv s0))))
/-- _law_deed -/
theorem ok64 (R : RowF rwk (tb K scr) Gk K mg dat) (lv : LvF P w K mg base rwk (tb K scr) Gk dat n) : FnOk P w K mg base CX0 (4 * (n + 1)) ((tb K scr).fnA 64) (dat 64) (parN d64.params) (spL (tb K scr) Gk (n + 1) f64) :=
  defOk R lv (f := 64) (d := d64) (fd := f64) (N := n64) rfl sc64 rfl rfl (by decide) fun cdv A outer s H E c hc => (sC (sLc c (iE c (eCall c 1 rfl rfl rfl (sh__law_menus_1 c.row) (aC vN a0) k0)) (lcB c (fun _ _ _ _ _ c => (gN c)) (fun _ _ _ _ _ c => (q1 (tCmp c .nin lN (lE (eAttr c rfl vN))))) (fun _ _ _ _ _ c => vN))) (sC (sIf (tW (wAnd (tCmp c .ne lN (lE (pe_tupC a0))) (pw_and1 (tW (wOr (tCmp c .eq lN (lE (pe_lstC a0))) (pw_or1 (tCmp c .eq (lE (eCall c 2 rfl rfl rfl (sh__law_roll_2 c.row) (aC vN (aC kI a0)) k0)) (lE kI)))))))) (sC (sSet c (eCall c 2 rfl rfl rfl (sh__law_roll_2 c.row) (aC vN (aC (bLen c lN) a0)) k0)) (sC (sSet c (pe_iteC (tCmp c .eq (lE (eCall c 2 rfl rfl rfl (sh__law_roll_2 c.row) (aC vN (aC kI a0)) k0)) (lE kI)) (eMeth c 1 rfl rfl (me_without_1 c.row) vN (aC vN a0) k0) (eMeth c 0 rfl rfl (me_without_0_index c.row) vN a0 (kC vN k0)))) (sC (sRt (pe_tupC (aC vN (aC (eBin c (lE (eSlc c lN p0 (p1 vN))) (lE (eSlc c lN (p1 (eBin c lN (lE kI))) p0))) a0)))) s0))) s0) (sC (sSet c (eCall c 2 rfl rfl rfl (sh__law_pick_2 c.row) (aC vN (aC vN a0)) k0)) (sC (sSet c (eBin c (lE (eBin c (lE (eJoi c (lE kS) (lE (eCall c 2 rfl rfl rfl (sh__law_mixed_2 c.row) (aC vN (aC vN a0)) k0)))) (lE kS))) (lE (eCall c 2 rfl rfl rfl (sh__law_pick_2 c.row) (aC vN (aC vN a0)) k0)))) (sC (sSet c (pe_iteC (tCmp c .eq (lE (eCall c 2 rfl rfl rfl (sh__law_roll_2 c.row) (aC vN (aC kI a0)) k0)) (lE kI)) (eMeth c 1 rfl rfl (me_with_line_1 c.row) vN (aC vN a0) k0) (eMeth c 0 rfl rfl (me_with_line_0_line c.row) vN a0 (kC vN k0)))) (sC (sRt (pe_tupC (aC vN (aC (eBin c lN (lE (pe_tupC (aC vN a0)))) a0)))) s0))))))
/-- _law_case_right -/
theorem ok65 (R : RowF rwk (tb K scr) Gk K mg dat) (lv : LvF P w K mg base rwk (tb K scr) Gk dat n) : FnOk P w K mg base CX0 (4 * (n + 1)) ((tb K scr).fnA 65) (dat 65) (parN d65.params) (spL (tb K scr) Gk (n + 1) f65) :=
  defOk R lv (f := 65) (d := d65) (fd := f65) (N := n65) rfl sc65 rfl rfl (by decide) fun cdv A outer s H E c hc => (sC (sFor c (iR1 c kI) (gN c) (sC (sSet c (eCall c 3 rfl rfl rfl (sh__law_stuff_3 c.row) (aC vN (aC kI (aC kI a0))) k0)) (sC (sTup (gT c (gC (gN c) (gC (gN c) g0))) (pe_tupC (aC (eMake c 1 rfl rfl rfl rfl rfl rfl (sh_Book___init___1 c.row) (aC vN a0) k0) (aC (pe_tupC a0) a0)))) (sC (sFor c (iR1 c (eBin c (lE kI) (lE (eCall c 2 rfl rfl rfl (sh__law_roll_2 c.row) (aC vN (aC kI a0)) k0)))) (gN c) (sC (sPar c (aC vN (aC (bStr c lN) a0))) (sC (sTup (gT c (gC (gN c) (gC (gN c) g0))) (eCall c 4 rfl rfl rfl (sh__law_deed_4 c.row) (aC vN (aC vN (aC vN (aC vN a0)))) k0)) (sC (sSet c (eMake c 2 rfl rfl rfl rfl rfl rfl (sh_Book___init___2 c.row) (aC vN (aC vN a0)) k0)) (sC (sIf (tW (wOr (tCmp c .ne lN lN) (wOr (tCmp c .ne (lE (eAttr c rfl vN)) lN) (wOr (tCmp c .ne (lE (eAttr c rfl vN)) (lE (eAttr c rfl vN))) (pw_or1 (tCmp c .ne (lE (bStr c lN)) lN)))))) (sC (sRt kB) s0) s0) (sC (sIf (tCmp c .ne (lE (eLc c (iE c (eAttr c rfl vN)) (lcB c (fun _ _ _ _ _ c => (gN c)) (fun _ _ _ _ _ c => q0) (fun _ _ _ _ _ c => (eMeth c 1 rfl rfl (me_pick_1 c.row) vN (aC vN a0) k0))))) (lE (eLc c (iE c (eAttr c rfl vN)) (lcB c (fun _ _ _ _ _ c => (gN c)) (fun _ _ _ _ _ c => q0) (fun _ _ _ _ _ c => (eMeth c 1 rfl rfl (me_pick_1 c.row) vN (aC vN a0) k0)))))) (sC (sRt kB) s0) s0) s0)))))) (sC (sFor c (iR1 c (bLen c lN)) (gN c) (sC (sSet c (eMeth c 1 rfl rfl (me_without_1 c.row) vN (aC kI a0) k0)) s0)) (sC (sIf (tW (wOr (tCmp c .ne lN (lE (eMake c 1 rfl rfl rfl rfl rfl rfl (sh_Book___init___1 c.row) (aC vN a0) k0))) (wOr (tCmp c .ne (lE (eAttr c rfl vN)) (lE (pe_tupC a0))) (pw_or1 (tVal (eAttr c rfl vN)))))) (sC (sRt kB) s0) s0) s0)))))) (sC (sRt kB) s0))
/-- law -/
theorem ok66 (R : RowF rwk (tb K scr) Gk K mg dat) (lv : LvF P w K mg base rwk (tb K scr) Gk dat n) : FnOk P w K mg base CX0 (4 * (n + 1)) ((tb K scr).fnA 66) (dat 66) (parN d66.params) (spL (tb K scr) Gk (n + 1) f66) :=
  defOk R lv (f := 66) (d := d66) (fd := f66) (N := n66) rfl sc66 rfl rfl (by decide) fun cdv A outer s H E c hc => (sC (sFor c (iR1 c (bL c (bi_max2 c.calm) (aC kI (aC (bL c (bi_min2 c.calm) (aC (bLen c lN) (aC kI a0))) a0)))) (gN c) (sC (sIf (tNt (tVal (eCall c 1 rfl rfl rfl (sh__law_case_right_1 c.row) (aC (eCall c 1 rfl rfl rfl (sh__law_purse_1 c.row) (aC (eCall c 2 rfl rfl rfl (sh__law_cell_2 c.row) (aC vN (aC vN a0)) k0) a0) k0) a0) k0))) (sC (sRt kB) s0) s0) s0)) (sC (sRt kB) s0))
end
section
variable {P : Program} {w : World} {K : PySem.W.Frag} {scr : Option (Addr × List Int)} {mg : Str → Option Value} {base : Heap} {dat : Nat → FuncData}
theorem lvs (R : RowF rwk (tb K scr) Gk K mg dat) (LF36 : LamD (tb K scr) mg base (dat 36).code (d36.qual ++ ".<locals>." ++ "<lambda>")) : ∀ n, LvF P w K mg base rwk (tb K scr) Gk dat n
  | 0 => lv0
  | n + 1 => ⟨fun f d fd hd hf => look_all (Q := fun f d => ∀ fd, Gk.fn f = some fd → FnOk P w K mg base CX0 (4 * (n + 1)) ((tb K scr).fnA f) (dat f) (parN d.params) (spL (tb K scr) Gk (n + 1) fd)) (l := ddl) (allC (fun fd h => by cases (show some f60 = some fd from h); exact ok60 R (lvs R LF36 n)) (allC (fun fd h => by cases (show some f61 = some fd from h); exact ok61 R (lvs R LF36 n)) (allC (fun fd h => by cases (show some f8 = some fd from h); exact ok8 R (lvs R LF36 n)) (allC (fun fd h => by cases (show some f9 = some fd from h); exact ok9 R (lvs R LF36 n)) (allC (fun fd h => by cases (show some f10 = some fd from h); exact ok10 R (lvs R LF36 n)) (allC (fun fd h => by cases (show some f11 = some fd from h); exact ok11 R (lvs R LF36 n)) (allC (fun fd h => by cases (show some f12 = some fd from h); exact ok12 R (lvs R LF36 n)) (allC (fun fd h => by cases (show some f13 = some fd from h); exact ok13 R (lvs R LF36 n)) (allC (fun fd h => by cases (show some f14 = some fd from h); exact ok14 R (lvs R LF36 n)) (allC (fun fd h => by cases (show some f15 = some fd from h); exact ok15 R (lvs R LF36 n)) (allC (fun fd h => by cases (show some f16 = some fd from h); exact ok16 R (lvs R LF36 n)) (allC (fun fd h => by cases (show some f18 = some fd from h); exact ok18 R (lvs R LF36 n)) (allC (fun fd h => by cases (show some f19 = some fd from h); exact ok19 R (lvs R LF36 n)) (allC (fun fd h => by cases (show some f21 = some fd from h); exact ok21 R (lvs R LF36 n)) (allC (fun fd h => by cases (show some f52 = some fd from h); exact ok52 R (lvs R LF36 n)) (allC (fun fd h => by cases (show some f24 = some fd from h); exact ok24 R (lvs R LF36 n)) (allC (fun fd h => by cases (show some f25 = some fd from h); exact ok25 R (lvs R LF36 n)) (allC (fun fd h => by cases (show some f29 = some fd from h); exact ok29 R (lvs R LF36 n)) (allC (fun fd h => by cases (show some f62 = some fd from h); exact ok62 R (lvs R LF36 n)) (allC (fun fd h => by cases (show some f63 = some fd from h); exact ok63 R (lvs R LF36 n)) (allC (fun fd h => by cases (show some f27 = some fd from h); exact ok27 R (lvs R LF36 n)) (allC (fun fd h => by cases (show some f28 = some fd from h); exact ok28 R (lvs R LF36 n)) (allC (fun fd h => by cases (show some f30 = some fd from h); exact ok30 R (lvs R LF36 n)) (allC (fun fd h => by cases (show some f31 = some fd from h); exact ok31 R (lvs R LF36 n)) (allC (fun fd h => by cases (show some f32 = some fd from h); exact ok32 R (lvs R LF36 n)) (allC (fun fd h => by cases (show some f33 = some fd from h); exact ok33 R (lvs R LF36 n)) (allC (fun fd h => by cases (show some f34 = some fd from h); exact ok34 R (lvs R LF36 n)) (allC (fun fd h => by cases (show some f35 = some fd from h); exact ok35 R (lvs R LF36 n)) (allC (fun fd h => by cases (show some f36 = some fd from h); exact ok36 R (lvs R LF36 n) LF36) (allC (fun fd h => by cases (show some f64 = some fd from h); exact ok64 R (lvs R LF36 n)) (allC (fun fd h => by cases (show some f65 = some fd from h); exact ok65 R (lvs R LF36 n)) (allC (fun fd h => by cases (show some f66 = some fd from h); exact ok66 R (lvs R LF36 n)) (all0))))))))))))))))))))))))))))))))) f d hd fd hf⟩
end
def fak : List He.Fa := [.glo "_law_case_right", .glo "_law_cell", .glo "_law_deed", .glo "_law_menus", .glo "_law_mixed", .glo "_law_pick", .glo "_law_purse", .glo "_law_roll", .glo "_law_stuff", .glo "all_menus", .glo "check_menu", .glo "check_things", .glo "in_order", .glo "is_between", .glo "is_integer", .glo "is_menu", .glo "is_name", .glo "line_parts", .glo "lines_told", .glo "lots_of", .glo "menu_of", .glo "law", .glo "Book", .free "abs", .free "all", .free "bool", .free "divmod", .free "int", .free "isinstance", .free "len", .free "list", .free "max", .free "min", .free "range", .free "sorted", .free "str", .free "tuple", .str "LETTERS" "abcdefghijklmnopqrstuvwxyz", .int "MOST_THINGS" 5, .mkr "Book", .meth "Book" "__eq__", .meth "Book" "__str__", .meth "Book" "pick", .meth "Book" "with_line", .meth "Book" "without"]
def prk : List (Str × Str) := [("Book", "things"), ("Book", "lines"), ("Book", "told"), ("Book", "whole")]
def dfk : List (He.Defn × Nat) := [(("Book", some "__init__"), 0)]
def fnk : List DfA := ddl.map fun p => ⟨tl.ad p.1, p.2⟩
def tfk : List He.Defn := tl.lam.map (·.1)
def exk (K : PySem.W.Frag) : Bool := (fak.all fun f => f.ok K) && (tl.clB K && ((prk.all fun p => prpB K p.1 p.2) && ((dfk.all fun p => tup0B K (He.dflAt p.1 p.2 K)) && decide ((tl.lam.map fun z => (He.cT K z.1).2).Nodup))))
def loosek : List Str := (["_wall", "NotRight", "InvalidText", "InvalidLine", "InvalidMenu", "InvalidPlace", "InvalidThings", "InvalidLines", "NotThere", "Untold", "LETTERS", "is_integer", "is_between", "is_name", "MOST_THINGS", "check_things", "in_order", "is_menu", "line_parts", "lines_told"] : List Str) ++ (["lots_of", "all_menus", "Book", "check_menu", "menu_of", "_law_cell", "_law_purse", "_law_roll", "_law_pick", "_law_mixed", "_law_stuff", "_law_menus", "_law_table", "_law_rows", "_law_deed", "_law_case_right"] : List Str)
abbrev Rr : PySem.W.OpenRow := PySem.W.OpenLaw.row PySem.Challenge.rw_shortlists_k06_whole_lines_put_and_taken
abbrev hk : PySem.W.Hook := hookA 7 exk fnk tfk
def ob (s : PySem.W.SharedT) : AlA := obsA 7 exk fnk tfk (HandSHeadRun.getT s)
theorem ob_eq (s : PySem.W.SharedT) : ob s = hk.obs s.abs := obsA_eq (HandSHeadRun.getT_eq s)
section
variable {K : PySem.W.Frag} {h : Heap} {mg : Str → Option Value}
theorem fc (c : SaysA exk fnk tfk h K) {i : Nat} {f : He.Fa} (e : fak[i]? = some f) : f.ok K = true := List.all_eq_true.mp (He.ba c.ex).1 f (List.mem_of_getElem? e)
theorem clB (c : SaysA exk fnk tfk h K) : tl.clB K = true := (He.ba (He.ba c.ex).2).1
theorem prB (c : SaysA exk fnk tfk h K) : (prk.all fun p => prpB K p.1 p.2) = true := (He.ba (He.ba (He.ba c.ex).2).2).1
theorem dfB (c : SaysA exk fnk tfk h K) : (dfk.all fun p => tup0B K (He.dflAt p.1 p.2 K)) = true := (He.ba (He.ba (He.ba (He.ba c.ex).2).2).2).1
theorem ndB (c : SaysA exk fnk tfk h K) : decide ((tl.lam.map fun z => (He.cT K z.1).2).Nodup) = true := (He.ba (He.ba (He.ba (He.ba c.ex).2).2).2).2
theorem rowF (X : K.In h) (G : h.Ns mainGlobals mg) (c : SaysA exk fnk tfk h K) : ∃ dat : Nat → FuncData, ∀ scr, RowF rwk (tb K scr) Gk K mg dat := by
  obtain ⟨fd0, _⟩ := c.fn _ (List.mem_of_getElem? (i := 0) rfl)
  obtain ⟨dat, hf⟩ := dat_of (R := rwk) ddl (fun _ => rfl) (fun f => tl.ad f K) fd0 (allC (c.fn ⟨tl.ad 60, d60⟩ (List.mem_of_getElem? (i := 0) rfl)) (allC (c.fn ⟨tl.ad 61, d61⟩ (List.mem_of_getElem? (i := 1) rfl)) (allC (c.fn ⟨tl.ad 8, d8⟩ (List.mem_of_getElem? (i := 2) rfl)) (allC (c.fn ⟨tl.ad 9, d9⟩ (List.mem_of_getElem? (i := 3) rfl)) (allC (c.fn ⟨tl.ad 10, d10⟩ (List.mem_of_getElem? (i := 4) rfl)) (allC (c.fn ⟨tl.ad 11, d11⟩ (List.mem_of_getElem? (i := 5) rfl)) (allC (c.fn ⟨tl.ad 12, d12⟩ (List.mem_of_getElem? (i := 6) rfl)) (allC (c.fn ⟨tl.ad 13, d13⟩ (List.mem_of_getElem? (i := 7) rfl)) (allC (c.fn ⟨tl.ad 14, d14⟩ (List.mem_of_getElem? (i := 8) rfl)) (allC (c.fn ⟨tl.ad 15, d15⟩ (List.mem_of_getElem? (i := 9) rfl)) (allC (c.fn ⟨tl.ad 16, d16⟩ (List.mem_of_getElem? (i := 10) rfl)) (allC (c.fn ⟨tl.ad 18, d18⟩ (List.mem_of_getElem? (i := 11) rfl)) (allC (c.fn ⟨tl.ad 19, d19⟩ (List.mem_of_getElem? (i := 12) rfl)) (allC (c.fn ⟨tl.ad 21, d21⟩ (List.mem_of_getElem? (i := 13) rfl)) (allC (c.fn ⟨tl.ad 52, d52⟩ (List.mem_of_getElem? (i := 14) rfl)) (allC (c.fn ⟨tl.ad 24, d24⟩ (List.mem_of_getElem? (i := 15) rfl)) (allC (c.fn ⟨tl.ad 25, d25⟩ (List.mem_of_getElem? (i := 16) rfl)) (allC (c.fn ⟨tl.ad 29, d29⟩ (List.mem_of_getElem? (i := 17) rfl)) (allC (c.fn ⟨tl.ad 62, d62⟩ (List.mem_of_getElem? (i := 18) rfl)) (allC (c.fn ⟨tl.ad 63, d63⟩ (List.mem_of_getElem? (i := 19) rfl)) (allC (c.fn ⟨tl.ad 27, d27⟩ (List.mem_of_getElem? (i := 20) rfl)) (allC (c.fn ⟨tl.ad 28, d28⟩ (List.mem_of_getElem? (i := 21) rfl)) (allC (c.fn ⟨tl.ad 30, d30⟩ (List.mem_of_getElem? (i := 22) rfl)) (allC (c.fn ⟨tl.ad 31, d31⟩ (List.mem_of_getElem? (i := 23) rfl)) (allC (c.fn ⟨tl.ad 32, d32⟩ (List.mem_of_getElem? (i := 24) rfl)) (allC (c.fn ⟨tl.ad 33, d33⟩ (List.mem_of_getElem? (i := 25) rfl)) (allC (c.fn ⟨tl.ad 34, d34⟩ (List.mem_of_getElem? (i := 26) rfl)) (allC (c.fn ⟨tl.ad 35, d35⟩ (List.mem_of_getElem? (i := 27) rfl)) (allC (c.fn ⟨tl.ad 36, d36⟩ (List.mem_of_getElem? (i := 28) rfl)) (allC (c.fn ⟨tl.ad 64, d64⟩ (List.mem_of_getElem? (i := 29) rfl)) (allC (c.fn ⟨tl.ad 65, d65⟩ (List.mem_of_getElem? (i := 30) rfl)) (allC (c.fn ⟨tl.ad 66, d66⟩ (List.mem_of_getElem? (i := 31) rfl)) (all0)))))))))))))))))))))))))))))))))
  refine ⟨dat, fun scr => ⟨rfl, ?_, ?_, ?_, ?_, hf, ?_, Tl.isF (clB c), Tl.nmF (by decide +kernel), Tl.clsF (clB c), Tl.cmpF (clB c), ?_, ?_, ?_, ?_, ?_, ?_, ?_, rfl, rfl, no_meth rfl, no_meth rfl, no_meth rfl, no_meth rfl, no_meth rfl, no_meth rfl⟩⟩
  · exact look_all (Q := fun x f => mg x = some (.ref ((tb K scr).fnA f))) (l := rwk.glo) (allC (He.glo_ok X G (fc c (i := 0) rfl)) (allC (He.glo_ok X G (fc c (i := 1) rfl)) (allC (He.glo_ok X G (fc c (i := 2) rfl)) (allC (He.glo_ok X G (fc c (i := 3) rfl)) (allC (He.glo_ok X G (fc c (i := 4) rfl)) (allC (He.glo_ok X G (fc c (i := 5) rfl)) (allC (He.glo_ok X G (fc c (i := 6) rfl)) (allC (He.glo_ok X G (fc c (i := 7) rfl)) (allC (He.glo_ok X G (fc c (i := 8) rfl)) (allC (He.glo_ok X G (fc c (i := 9) rfl)) (allC (He.glo_ok X G (fc c (i := 10) rfl)) (allC (He.glo_ok X G (fc c (i := 11) rfl)) (allC (He.glo_ok X G (fc c (i := 12) rfl)) (allC (He.glo_ok X G (fc c (i := 13) rfl)) (allC (He.glo_ok X G (fc c (i := 14) rfl)) (allC (He.glo_ok X G (fc c (i := 15) rfl)) (allC (He.glo_ok X G (fc c (i := 16) rfl)) (allC (He.glo_ok X G (fc c (i := 17) rfl)) (allC (He.glo_ok X G (fc c (i := 18) rfl)) (allC (He.glo_ok X G (fc c (i := 19) rfl)) (allC (He.glo_ok X G (fc c (i := 20) rfl)) (all0))))))))))))))))))))))
  · exact look_all (Q := fun x C => mg x = some (.ref ((tb K scr).clA C))) (l := rwk.cls) (allC (He.glo_ok X G (fc c (i := 22) rfl)) (all0))
  · exact fun x hx => (show ∀ x ∈ rwk.free, mg x = none from allC (He.free_ok X G (fc c (i := 23) rfl)) (allC (He.free_ok X G (fc c (i := 24) rfl)) (allC (He.free_ok X G (fc c (i := 25) rfl)) (allC (He.free_ok X G (fc c (i := 26) rfl)) (allC (He.free_ok X G (fc c (i := 27) rfl)) (allC (He.free_ok X G (fc c (i := 28) rfl)) (allC (He.free_ok X G (fc c (i := 29) rfl)) (allC (He.free_ok X G (fc c (i := 30) rfl)) (allC (He.free_ok X G (fc c (i := 31) rfl)) (allC (He.free_ok X G (fc c (i := 32) rfl)) (allC (He.free_ok X G (fc c (i := 33) rfl)) (allC (He.free_ok X G (fc c (i := 34) rfl)) (allC (He.free_ok X G (fc c (i := 35) rfl)) (allC (He.free_ok X G (fc c (i := 36) rfl)) (all0))))))))))))))) x (List.contains_iff_mem.mp hx)
  · exact look_all (Q := fun x d => ∃ v u, mg x = some u ∧ RelV v u ∧ ∀ ι F, Rep (tb K scr) ι F v d) (l := rwk.con) (allC (con_s (t := tl) (He.str_ok X G (fc c (i := 37) rfl))) (allC (con_i (t := tl) (He.int_ok X G (fc c (i := 38) rfl))) (all0)))
  · exact fun f d hd => look_all (Q := fun f d => ∀ (j : Nat) (ι : List Addr) (F : Hp), Rep (tb K scr) ι F ((He.DefD.dvs K d).getD j .non) ((rwk.dv f).getD j .non)) (l := ddl) (allC (dfl_no) (allC (dfl_no) (allC (dfl_no) (allC (dfl_no) (allC (dfl_no) (allC (dfl_no) (allC (dfl_no) (allC (dfl_no) (allC (dfl_no) (allC (dfl_no) (allC (dfl_c (fun ι F => tup0_ok (List.all_eq_true.mp (dfB c) (("Book", some "__init__"), 0) (List.mem_of_getElem? (i := 0) rfl))) (dfl_no)) (allC (dfl_no) (allC (dfl_no) (allC (dfl_no) (allC (dfl_no) (allC (dfl_no) (allC (dfl_no) (allC (dfl_no) (allC (dfl_no) (allC (dfl_no) (allC (dfl_no) (allC (dfl_no) (allC (dfl_no) (allC (dfl_no) (allC (dfl_no) (allC (dfl_no) (allC (dfl_no) (allC (dfl_no) (allC (dfl_no) (allC (dfl_no) (allC (dfl_no) (allC (dfl_no) (all0))))))))))))))))))))))))))))))))) f d hd
  · exact fun C f _ hi => look_all (Q := fun C f => Mk K ((tb K scr).clA C) ((tb K scr).fnA f)) (l := ls.ini) (allC (He.mkr_ok (fc c (i := 39) rfl)) (all0)) C f hi
  · exact fun C m f hm => look_all (Q := fun (p : Nat × Nat) f => (tb K scr).own p.1 = true ∧ Meth K ((tb K scr).clA p.1) ((tb K scr).nm p.2) ((tb K scr).fnA f)) (l := ls.me) (allC (⟨rfl, He.meth_ok (fc c (i := 40) rfl)⟩) (allC (⟨rfl, He.meth_ok (fc c (i := 41) rfl)⟩) (allC (⟨rfl, He.meth_ok (fc c (i := 42) rfl)⟩) (allC (⟨rfl, He.meth_ok (fc c (i := 43) rfl)⟩) (allC (⟨rfl, He.meth_ok (fc c (i := 44) rfl)⟩) (all0)))))) (C, m) f hm
  · exact fun C a p hp => look_all (Q := fun (z : Nat × Nat) v => ∀ p, v = .prop p → (tb K scr).own z.1 = true ∧ ∃ q, PropOf K ((tb K scr).clA z.1) ((tb K scr).nm z.2) q ((tb K scr).fnA p)) (l := ls.at_) (allC (fun q e => by cases e) (allC (fun q e => by cases e) (allC (fun q e => by cases e) (allC (fun q e => by cases e) (allC (fun q e => by cases e; exact ⟨rfl, prpB_ok (List.all_eq_true.mp (prB c) ("Book", "things") (List.mem_of_getElem? (i := 0) rfl))⟩) (allC (fun q e => by cases e; exact ⟨rfl, prpB_ok (List.all_eq_true.mp (prB c) ("Book", "lines") (List.mem_of_getElem? (i := 1) rfl))⟩) (allC (fun q e => by cases e; exact ⟨rfl, prpB_ok (List.all_eq_true.mp (prB c) ("Book", "told") (List.mem_of_getElem? (i := 2) rfl))⟩) (allC (fun q e => by cases e; exact ⟨rfl, prpB_ok (List.all_eq_true.mp (prB c) ("Book", "whole") (List.mem_of_getElem? (i := 3) rfl))⟩) (all0))))))))) (C, a) _ hp p rfl
  · exact fun C a hp => look_all (Q := fun (z : Nat × Nat) v => v = PC.At.fld → (tb K scr).fld z.2 = true) (l := ls.at_) (allC (fun _ => rfl) (allC (fun _ => rfl) (allC (fun _ => rfl) (allC (fun _ => rfl) (allC (fun e => by cases e) (allC (fun e => by cases e) (allC (fun e => by cases e) (allC (fun e => by cases e) (all0))))))))) (C, a) _ hp rfl
  · exact fun C hC => (show ∀ p ∈ tl.cl, Gk.value p.1 = true from allC (rfl) (all0)) _ (Tl.own_at hC)
  · exact fun C m f hm h => look_all (Q := fun (p : Nat × Nat) f => p.2 = 16 ∨ p.2 = 19 → ∃ d fd, rwk.dd f = some d ∧ Gk.fn f = some fd ∧ Binds K (dat f) (parN d.params) []) (l := ls.me) (allC (fun _ => ⟨d24, f24, rfl, rfl, FunD.bindsN (hf 24 d24 rfl) (fun _ _ _ _ _ _ us hl => match us, hl with | [_, _], _ => rfl)⟩) (allC (fun _ => ⟨d25, f25, rfl, rfl, FunD.bindsN (hf 25 d25 rfl) (fun _ _ _ _ _ _ us hl => match us, hl with | [_], _ => rfl)⟩) (allC (fun e => absurd e (by decide)) (allC (fun e => absurd e (by decide)) (allC (fun e => absurd e (by decide)) (all0)))))) (C, m) f h hm
  · exact fun C a p hp => look_all (Q := fun (z : Nat × Nat) v => ∀ p, v = .prop p → ∃ d fd, rwk.dd p = some d ∧ Gk.fn p = some fd ∧ Binds K (dat p) (parN d.params) []) (l := ls.at_) (allC (fun q e => by cases e) (allC (fun q e => by cases e) (allC (fun q e => by cases e) (allC (fun q e => by cases e) (allC (fun q e => by cases e; exact ⟨d18, f18, rfl, rfl, FunD.bindsN (hf 18 d18 rfl) (fun _ _ _ _ _ _ us hl => match us, hl with | [_], _ => rfl)⟩) (allC (fun q e => by cases e; exact ⟨d19, f19, rfl, rfl, FunD.bindsN (hf 19 d19 rfl) (fun _ _ _ _ _ _ us hl => match us, hl with | [_], _ => rfl)⟩) (allC (fun q e => by cases e; exact ⟨d21, f21, rfl, rfl, FunD.bindsN (hf 21 d21 rfl) (fun _ _ _ _ _ _ us hl => match us, hl with | [_], _ => rfl)⟩) (allC (fun q e => by cases e; exact ⟨d52, f52, rfl, rfl, FunD.bindsN (hf 52 d52 rfl) (fun _ _ _ _ _ _ us hl => match us, hl with | [_], _ => rfl)⟩) (all0))))))))) (C, a) _ hp p rfl
end
def lvl : Nat := 30
/-- the plain law -/
def PureLaw : Prop := ∀ ns : List Int, ns.length ≤ 63 → (∀ z ∈ ns, Builtin.Int.intBits z ≤ 1048576) → ∃ fr g, PC.evFn Gk (lvl + 1) 66 [(.scr ns, false)] none [] = .ok (.bl true) fr g
theorem law_at (pure : PureLaw) {w : World} {K : PySem.W.Frag} {h : Heap} {mg : Str → Option Value} {fa : Addr} (X : K.In h) (G : h.Ns mainGlobals mg) (hmg : mg "law" = some (.ref fa)) (c : SaysA exk fnk tfk h K) : LamX.LawAtS PySem.Challenge.rw_shortlists_k06_whole_lines_put_and_taken w K CX0 (4 * (lvl + 1)) 63 "_law_script" mg fa h := by
  obtain ⟨dat, R⟩ := rowF X G c
  have e := hmg.symm.trans (He.glo_ok X G (fc c (i := 21) rfl))
  cases e
  have F := (R none).fn 66 d66 rfl
  refine ⟨dat 66, tfk.map (He.cT K), fun vs H Q E => ∃ scr, spL (tb K scr) Gk (lvl + 1) f66 vs H Q E, ?_, ?_, ?_, ?_, ?_, ?_⟩
  · exact fun p hp => by obtain ⟨q, hq, rfl⟩ := List.mem_map.mp hp; exact c.empty q hq
  · exact fun p hp => by obtain ⟨q, hq, rfl⟩ := List.mem_map.mp hp; exact c.out q hq
  · exact fun p hp => by obtain ⟨q, hq, rfl⟩ := List.mem_map.mp hp; exact PySem.W.codeHd_of_K X (c.hd q hq)
  · have b := FunD.bindsA (ps := ["_law_script"]) F fun _ _ _ _ _ _ us hl => match us, hl with | [_], _ => rfl
    exact fun s v => b s [v] rfl
  · intro H a ns hl hb hT hS
    obtain ⟨scr, u, us, ug, k, r⟩ := start_ok (t := tl) (fun p hp => hT _ (List.mem_map.mpr ⟨_, List.mem_map.mpr ⟨p, hp, rfl⟩, rfl⟩)) hS
    exact ⟨scr, law_sp rfl rfl rfl us ug k r (pure ns hl hb)⟩
  · intro base _ _ TB
    refine FnOk.any fun scr => ?_
    have R := R scr
    exact (lvs R (lamD_of (t := tl) (R.fn 36 d36 rfl) (TB _ (List.mem_map.mpr ⟨_, List.mem_of_getElem? (i := 0) rfl, rfl⟩)) (List.mem_of_getElem? (i := 0) rfl) (ndB c)) (lvl + 1)).ok 66 d66 f66 rfl rfl
theorem run (w : World) : HandSHeadRun.RunEq Rr (PySem.W.view Rr.prog [40]) hk ob 20000 loosek w := by
  intro os
  kernel_rfl
end Kk06
open PySem PySem.W PySem.Calls PyProof.Rows
theorem k06_holds (pure : Kk06.PureLaw) : PySem.Challenge.rw_shortlists_k06_whole_lines_put_and_taken.Holds := by
  w_on; o_law
  refine HandSHeadRun.head_any (r := OpenLaw.row PySem.Challenge.rw_shortlists_k06_whole_lines_put_and_taken) (q := view (OpenLaw.row PySem.Challenge.rw_shortlists_k06_whole_lines_put_and_taken).prog [40]) (H := Kk06.hk) (ob := Kk06.ob) (M := 20000) (loose := Kk06.loosek) (d := HandSHeadRun.topDef (OpenLaw.row PySem.Challenge.rw_shortlists_k06_whole_lines_put_and_taken).prog 40) (kwd := []) Kk06.ob_eq
    (by kernel_rfl) (fun s => by kernel_rfl) Kk06.run (by kernel_rfl) (by kernel_rfl) (by kernel_rfl) (by rfl) (by first | assumption | decide +kernel) (by decide +kernel) ⟨rfl, rfl, rfl, rfl, rfl, by decide +kernel⟩ ?hw ?hc
  case hw => w_witness2
  case hc =>
    refine LamX.walk_ofTsE (l := PySem.Challenge.rw_shortlists_k06_whole_lines_put_and_taken) (n := 63) (k := 4 * (Kk06.lvl + 1)) (x := "_law_script") (CX := fun _ => L2.CX0) rfl (by decide) (by kernel_rfl) ⟨rfl, by decide, by decide⟩ ?F (fun _ _ _ _ _ z => z)
    intro w mg fa h Y G hmg0
    obtain ⟨K, KX, c⟩ := Y
    have hmg : mg ("law" : PySem.Str) = some (.ref fa) := by
      have e : (HandSHeadRun.topDef (OpenLaw.row PySem.Challenge.rw_shortlists_k06_whole_lines_put_and_taken).prog 40).name = ("law" : PySem.Str) := by kernel_rfl
      rw [← e]
      exact hmg0
    exact ⟨K, KX, Kk06.law_at pure KX G hmg c⟩
end

set_option maxRecDepth 100000
set_option maxHeartbeats 4000000
theorem PySem.Challenge.cw_shortlists_k06_whole_lines_put_and_taken_holds : PySem.Challenge.rw_shortlists_k06_whole_lines_put_and_taken.Holds := by
  exact k06_holds (fun ns _ _ => PX.law6 17 ⟨⟨⟨rfl, rfl, rfl, rfl, rfl, rfl, rfl, rfl, rfl, rfl, rfl, rfl, rfl, rfl, rfl, rfl⟩, rfl, rfl, rfl, rfl, rfl, rfl, rfl, rfl, rfl, rfl, rfl, rfl, rfl, rfl⟩, rfl, rfl, rfl, rfl, rfl, rfl, rfl, rfl, rfl, rfl, rfl, rfl, rfl, rfl, rfl, rfl, rfl, rfl⟩ ns)
