import PyProof.Rows.All
import Wide.All
import OpenK.AllK
import Wide.FinOn
import HandS.ForMost
import HandS.ForExc
import HandS.TupAny
import HandS.Wide
import HandS.TupMul
import HandS.IsInst
import HandS.DictComp
import HandS.Walk
import HandS.Deep
import HandS.Star
import HandS.Property
import HandS.Defaults
import HandS.Style
import HandS.TupLen
import HandS.SortInts
import HandS.RaiseMore
import HandS.Exc
import HandS.Small
import KE.GoesMore
import HandS.Ends
import HandS.Head0
import HandS.Head1
import HandS.Head2
import HandS.HeadHook1
import HandS.HeadHook2
import HandS.HeadEnd
import PySem.Challenge.RW_keptdistances_k33_whole_tables_of_distan
set_option Elab.async false
set_option linter.all false
set_option maxRecDepth 100000
set_option maxHeartbeats 0
/-! ## data, places, outcomes -/
namespace PV
open PySem
/-- plain data -/
inductive D where
  | non | bl (b : Bool) | int (i : Int) | str (x : Str)
  | tup (xs : List D) | lst (xs : List D) | fro (xs : List D)
  | dct (t : Bool) (kvs : List (D × D))
  | obj (c : Nat) (fs : List (Str × D))
  deriving Inhabited
/-- a slot of a frame: without a known value, a value that never changes, a thing of its own (lent by a caller as its argument of that number, or not) -/
inductive Sl where
  | dead | val (d : D) | own (l : Option Nat) (d : D)
  deriving Inhabited
abbrev Fm := List Sl
/-- an expression's answer: a value that stays, a new thing, the thing of a slot, a thing lent, a thing given away -/
inductive Rv where
  | val (d : D) | fresh (d : D) | bor (i : Nat) | lent (i : Nat) | give (d : D)
inductive Out (α : Type) where
  | ok (a : α) (e : Fm) | ex (c : Nat) (fs : List D) (e : Fm) | bad
def Out.bind {α β : Type} (m : Out α) (f : α → Fm → Out β) : Out β := match m with
  | .ok a e => f a e
  | .ex c fs e => .ex c fs e
  | .bad => .bad
@[simp] theorem Out.bind_ok {α β : Type} (a : α) (e : Fm) (f : α → Fm → Out β) : (Out.ok a e).bind f = f a e := rfl
@[simp] theorem Out.bind_ex {α β : Type} (c : Nat) (fs : List D) (e : Fm) (f : α → Fm → Out β) : (Out.ex c fs e : Out α).bind f = .ex c fs e := rfl
@[simp] theorem Out.bind_bad {α β : Type} (f : α → Fm → Out β) : (Out.bad : Out α).bind f = .bad := rfl
/-- lift of a partial answer -/
def Out.of {α : Type} (o : Option α) (e : Fm) : Out α := match o with
  | some a => .ok a e
  | none => .bad
@[simp] theorem Out.of_some {α : Type} (a : α) (e : Fm) : Out.of (some a) e = .ok a e := rfl
@[simp] theorem Out.of_none {α : Type} (e : Fm) : Out.of (none : Option α) e = .bad := rfl
/-- the content of an answer that is read -/
def Rv.rd (r : Rv) (e : Fm) : Option D := match r with
  | .val d => some d
  | .fresh d => some d
  | .bor i => (match e[i]? with
    | some (.own _ d) => some d
    | _ => none)
  | _ => none
/-- an answer that is kept for good -/
def Rv.fz (r : Rv) : Option D := match r with
  | .val d => some d
  | .fresh d => some d
  | _ => none
/-! ## the same, by value -/
mutual
def eqv : D → D → Bool
  | .non, .non => true
  | .bl a, .bl b => a == b
  | .bl a, .int j => (if a then 1 else 0) == j
  | .int i, .bl b => i == (if b then 1 else 0)
  | .int i, .int j => i == j
  | .str x, .str y => x == y
  | .lst xs, .lst ys => eqvL xs ys
  | .tup xs, .tup ys => eqvL xs ys
  | _, _ => false
def eqvL : List D → List D → Bool
  | [], [] => true
  | x :: xs, y :: ys => eqv x y && eqvL xs ys
  | _, _ => false
end
/-! as the model has it -/
mutual
def pd : D → Option PyData
  | .non => some .none
  | .bl b => some (.bool b)
  | .int i => some (.int i)
  | .str x => some (.str x)
  | .tup xs => (pdL xs).map .tuple
  | .lst xs => (pdL xs).map .list
  | _ => none
def pdL : List D → Option (List PyData)
  | [] => some []
  | x :: xs => match pd x, pdL xs with
    | some y, some ys => some (y :: ys)
    | _, _ => none
end
/-- data that == may ask of -/
def shp (d : D) : Bool := match pd d with
  | some y => SeqAt.shaped y
  | none => false
/-- a dict beside an empty one -/
def eqD0 (x y : D) : Option Bool := match x, y with
  | .dct false ks, .dct false [] => some ks.isEmpty
  | _, _ => none
def pyEq (x y : D) : Option Bool := if shp x && shp y then some (eqv x y) else eqD0 x y
end PV
/-! ## the terms, and what they are worth -/
namespace PV
open PySem
inductive Blt where
  | len | tuple | list | int | str | repr | all | any | sorted | min1 | min2 | max1 | max2 | abs | divmod | sum | bool
  deriving DecidableEq
inductive Bmt where
  | append | extend | insert | pop0 | pop1 | index | count | get1 | get2 | join | split | upper | replace
  deriving DecidableEq
inductive Cl where
  | ty (n : String) | own (c : Nat)
  deriving DecidableEq
inductive SrcK where
  | plain | range1 | range2 | enum | items | zip
  deriving DecidableEq
/-- a target: one name's slot, several names' slots -/
inductive Tg where
  | one (i : Nat) | many (is : List Nat)
  deriving DecidableEq
mutual
inductive E where
  | var (i : Nat) | bor (i : Nat) | mov (i : Nat) | con (d : D) | glo (g : Nat)
  | bin (op : Operator) (a b : E) | neg (a : E)
  | cmp (op : CmpOp) (a b : E) | chn (o1 o2 : CmpOp) (a b c : E)
  | and (es : Es) | or (es : Es) | not (a : E) | ife (c a b : E)
  | tup (es : Es) | lst (es : Es) | dic (t : Bool) (kvs : Es)
  | idx (a i : E) | slc (a lo hi : E) | rev (a : E) | nop
  | fld (a : E) (f : Str) | prp (a : E) (f : Str)
  | cal (f : Nat) (es ks : Es) (pm : List (Option Nat)) | mth (a : E) (m : Str) (es ks : Es) (pm : List (Option Nat)) | mak (c : Nat) (es ks : Es) (pm : List (Option Nat))
  | lend (i : Nat) | give (a : E) | frz (i : Nat)
  | blt (b : Blt) (es : Es) | bmt (m : Bmt) (a : E) (es : Es) | isi (a : E) (cs : List Cl)
  | lc (tg : Tg) (sk : SrcK) (src : Es) (own : List Nat) (cond el : E)
  | dc (tg : Tg) (sk : SrcK) (src : Es) (own : List Nat) (cond k v : E)
  | lc2 (tg : Tg) (sk : SrcK) (src : Es) (own : List Nat) (cond : E) (tg1 : Tg) (sk1 : SrcK) (src1 : Es) (cond1 el : E)
inductive Es where
  | nil | cons (a : E) (r : Es) | star (a : E) (r : Es)
end
/-- a target of an unpacking: a name's slot; an item of a slot's thing -/
inductive Tu where
  | nam (i : Nat) | sub (j : Nat) (i : E)
mutual
inductive S where
  | asg (i : Nat) (o : Bool) (e : E)
  | par (ts : List (Nat × Bool)) (es : Es)
  | unp (ts : List Tu) (e : E)
  | sto (j : Nat) (i e : E)
  | att (j : Nat) (f : Str) (e : E)
  | exp (e : E) | ret (e : E) | retN | pas | brk | cnt
  | ife (c : E) (a b : Ss)
  | for (tg : Tg) (sk : SrcK) (src : Es) (b : Ss)
  | whl (c : E) (b : Ss)
  | nev
inductive Ss where
  | nil | cons (s : S) (r : Ss)
end
/-! ### operations -/
def okLen (n : Nat) : Bool := decide (n ≤ sizeLine)
def mulOk (i j : Int) : Bool := (decide (-(2 ^ 64) < i) && decide (i < 2 ^ 64)) || (decide (-(2 ^ 64) < j) && decide (j < 2 ^ 64))
def binD (op : Operator) (x y : D) : Option Rv := match op, x, y with
  | .Add, .int i, .int j => some (.val (.int (i + j)))
  | .Sub, .int i, .int j => some (.val (.int (i - j)))
  | .Mult, .int i, .int j => if mulOk i j then some (.val (.int (i * j))) else none
  | .Mod, .int i, .int j => if 0 < j then some (.val (.int (i % j))) else none
  | .FloorDiv, .int i, .int j => if 0 < j ∧ j < 1073741824 then some (.val (.int (i / j))) else none
  | .Pow, .int i, .int j => if 0 ≤ j ∧ j ≤ 1000000 ∧ i.natAbs < 2 ^ 64 then some (.val (.int (i ^ j.toNat))) else none
  | .Add, .str a, .str b => if okLen (a.length + b.length) then some (.val (.str (a ++ b))) else none
  | .Add, .tup a, .tup b => if okLen (a.length + b.length) then some (.val (.tup (a ++ b))) else none
  | .Add, .lst a, .lst b => if okLen (a.length + b.length) then some (.fresh (.lst (a ++ b))) else none
  | .Mult, .lst a, .int k => if -(2 ^ 63) ≤ k ∧ k < 2 ^ 63 ∧ a.length * k.toNat ≤ sizeLine then some (.fresh (.lst (List.replicate k.toNat a).flatten)) else none
  | _, _, _ => none
/-- what may be a key of a dict by numbers and texts, of a dict by tuples of such -/
def atom : D → Bool
  | .int _ => true
  | .str _ => true
  | _ => false
def keyOk (t : Bool) (k : D) : Bool := if t = true then (match k with
  | .tup xs => !xs.isEmpty && xs.all atom
  | _ => false) else atom k
def inD (x y : D) : Option Bool := match y with
  | .tup ys => if shp x && shp (.lst ys) then some (ys.any fun z => eqv z x) else none
  | .lst ys => if shp x && shp (.lst ys) then some (ys.any fun z => eqv z x) else none
  | .dct t kvs => if keyOk t x then some (kvs.any fun p => eqv p.1 x) else none
  | .str j => (match x with
    | .str i => some (!(Builtin.Str.occurrences j i 0 j.length 1).isEmpty)
    | _ => none)
  | _ => none
def isNon : D → Bool
  | .non => true
  | _ => false
def cmpD (op : CmpOp) (x y : D) : Option Bool := match op with
  | .Eq => pyEq x y
  | .NotEq => (pyEq x y).map (!·)
  | .Lt => (match x, y with | .int i, .int j => some (decide (i < j)) | _, _ => none)
  | .LtE => (match x, y with | .int i, .int j => some (decide (i ≤ j)) | _, _ => none)
  | .Gt => (match x, y with | .int i, .int j => some (decide (j < i)) | _, _ => none)
  | .GtE => (match x, y with | .int i, .int j => some (decide (j ≤ i)) | _, _ => none)
  | .Is => if isNon y then some (isNon x) else none
  | .IsNot => if isNon y then some (!isNon x) else none
  | .In => inD x y
  | .NotIn => (inD x y).map (!·)
def dget (kvs : List (D × D)) (k : D) : Option D := (kvs.find? fun p => eqv p.1 k).map (·.2)
def dput (kvs : List (D × D)) (k v : D) : List (D × D) :=
  if (kvs.any fun p => eqv p.1 k) = true then kvs.map (fun p => if eqv p.1 k = true then (p.1, v) else p) else kvs ++ [(k, v)]
def idxD (x i : D) : Option D := match x, i with
  | .tup xs, .int j => L2.atI xs j
  | .lst xs, .int j => L2.atI xs j
  | .fro xs, .int j => L2.atI xs j
  | .str z, .int j => if okLen z.length then (L2.atI z.cps.toList j).map fun c => .str ⟨#[c]⟩ else none
  | .dct t kvs, k => if keyOk t k then dget kvs k else none
  | _, _ => none
def cut {α : Type} (xs : List α) (lo hi : Option Int) : List α := (xs.drop (HT.sIx xs.length 0 lo)).take (HT.sIx xs.length xs.length hi - HT.sIx xs.length 0 lo)
def slcD (x : D) (lo hi : Option Int) : Option Rv := match x with
  | .tup xs => some (.val (.tup (cut xs lo hi)))
  | .lst xs => some (.fresh (.lst (cut xs lo hi)))
  | .fro xs => some (.fresh (.lst (cut xs lo hi)))
  | _ => none
def revD (x : D) : Option Rv := match x with
  | .tup xs => some (.val (.tup xs.reverse))
  | .lst xs => some (.fresh (.lst xs.reverse))
  | _ => none
def fldD (x : D) (f : Str) : Option D := match x with
  | .obj _ fs => fs.lookup f
  | _ => none
def putF (f : Str) (v : D) : List (Str × D) → List (Str × D)
  | [] => [(f, v)]
  | (g, x) :: r => if g = f then (g, v) :: r else (g, x) :: putF f v r
/-- an int or nothing, of a slice's part -/
def partD : D → Option (Option Int)
  | .int i => some (some i)
  | _ => none
def toB : D → Option Bool
  | .bl b => some b
  | _ => none
def bools : List D → Option (List Bool)
  | [] => some []
  | x :: xs => match x, bools xs with
    | .bl b, some bs => some (b :: bs)
    | _, _ => none
def intsD : List D → Option (List Int)
  | [] => some []
  | x :: xs => match x, intsD xs with
    | .int i, some is => some (i :: is)
    | _, _ => none
def strsD : List D → Option (List Str)
  | [] => some []
  | x :: xs => match x, strsD xs with
    | .str i, some is => some (i :: is)
    | _, _ => none
/-- the answer of a list of items that is walked -/
def seqD : D → Option (List D)
  | .tup xs => some xs
  | .lst xs => some xs
  | .fro xs => some xs
  | .str z => some (z.cps.toList.map fun c => .str ⟨#[c]⟩)
  | .dct false kvs => some (kvs.map (·.1))
  | _ => none
/-! ### a world of defs -/
/-- what a def's call hands back: its answer (new or not), its lent things behind it -/
inductive Res where
  | ok (r : D) (fr : Bool) (outs : List D) | ex (c : Nat) (fs : List D) (outs : List D) | bad
structure Wd where
  /-- module constants -/
  glos : List D
  /-- a def's defaults, by its number: one for each of its last parameters -/
  dfl : Nat → List D
  /-- the number of parameters -/
  npar : Nat → Nat
  /-- a class's method, property, maker -/
  mth : Nat → Str → Option Nat
  prp : Nat → Str → Option Nat
  ini : Nat → Option Nat
  /-- how many classes there are -/
  nc : Nat
  /-- the fields that an instance of the class may have -/
  fl : Nat → Str → Bool
/-- the types of plain data, for isinstance -/
def isiTy (x : D) (n : String) : Option Bool := match x with
  | .non => some (decide (n = "NoneType"))
  | .bl _ => some (decide (n = "bool") || decide (n = "int"))
  | .int _ => some (decide (n = "int"))
  | .str _ => some (decide (n = "str"))
  | .tup _ => some (decide (n = "tuple"))
  | .lst _ => some (decide (n = "list"))
  | .dct _ _ => some (decide (n = "dict"))
  | .obj _ _ => some false
  | .fro _ => none
def tyOk (n : String) : Bool := decide (n = "int") || decide (n = "bool") || decide (n = "str") || decide (n = "tuple") || decide (n = "list") || decide (n = "dict")
def isi1 (W : Wd) (x : D) (c : Cl) : Option Bool := match c, x with
  | .ty n, .obj j _ => if tyOk n ∧ j < W.nc then some false else none
  | .ty n, x => if tyOk n then isiTy x n else none
  | .own k, .obj j _ => if j < W.nc ∧ k < W.nc then some (decide (j = k)) else none
  | .own _, .fro _ => none
  | .own k, _ => if k < W.nc then some false else none
/-- the written arguments, in the parameters' order: each a slot's entry of the callee, and the caller's slots that are lent -/
def argOf (rs : List Rv) (e : Fm) (dv : Option D) (o : Option Nat) : Option (Sl × List Nat) := match o with
  | none => some ((match dv with
    | some d => .val d
    | none => .dead), [])
  | some k => (match rs[k]? with
    | some (.val d) => some (.val d, [])
    | some (.fresh d) => some (.val d, [])
    | some (.give d) => some (.own none d, [])
    | some (.lent i) => (match e[i]? with
      | some (.own _ d) => some (.own (some 0) d, [i])
      | _ => none)
    | _ => none)
def argsOf (rs : List Rv) (e : Fm) : List (Option D) → List (Option Nat) → Option (List Sl × List Nat)
  | [], [] => some ([], [])
  | dv :: ds, o :: os => (match argOf rs e dv o, argsOf rs e ds os with
    | some (a, l), some (as, ls) => some (a :: as, l ++ ls)
    | _, _ => none)
  | _, _ => none
/-- the defaults by parameter -/
def dfls (n : Nat) (dv : List D) : List (Option D) := List.replicate (n - dv.length) none ++ dv.map some
def putBack (e : Fm) : List Nat → List D → Fm
  | i :: is, d :: ds => putBack (match e[i]? with
    | some (.own l _) => e.set i (.own l d)
    | _ => e) is ds
  | _, _ => e
/-- a def's call with such answers -/
def callG (run : Nat → List Sl → Res) (f : Nat) (dfl : List (Option D)) (rs : List Rv) (pm : List (Option Nat)) (e : Fm) : Out Rv :=
  match argsOf rs e dfl pm with
  | none => .bad
  | some (as, ls) => if ls.Nodup then (match run f as with
    | .ok r fr outs => .ok (if fr = true then .fresh r else .val r) (putBack e ls outs)
    | .ex c fs outs => .ex c fs (putBack e ls outs)
    | .bad => .bad) else .bad
def callR (run : Nat → List Sl → Res) (W : Wd) (f : Nat) (rs : List Rv) (pm : List (Option Nat)) (e : Fm) : Out Rv := callG run f (dfls (W.npar f) (W.dfl f)) rs pm e
/-- a call that lets nothing out -/
def Out.sure {α : Type} (o : Out α) : Out α := match o with
  | .ex _ _ _ => .bad
  | o => o
def appR (rs qs : List Rv) (e : Fm) : Out (List Rv) := .ok (rs ++ qs) e
/-- the values that a display keeps -/
def keep : List Rv → Option (List D)
  | [] => some []
  | r :: rs => match r.fz, keep rs with
    | some d, some ds => some (d :: ds)
    | _, _ => none
def reads (rs : List Rv) (e : Fm) : Option (List D) := match rs with
  | [] => some []
  | r :: rs => match r.rd e, reads rs e with
    | some d, some ds => some (d :: ds)
    | _, _ => none
mutual
def toPy : D → Option PyData
  | .non => some .none
  | .bl b => some (.bool b)
  | .int i => some (.int i)
  | .str x => some (.str x)
  | .tup xs => (toPys xs).map .tuple
  | .lst xs => (toPys xs).map .list
  | _ => none
def toPys : List D → Option (List PyData)
  | [] => some []
  | x :: xs => match toPy x, toPys xs with
    | some p, some ps => some (p :: ps)
    | _, _ => none
end
/-- repr -/
def shownD (d : D) : Option Str := match toPy d with
  | some p => if p.showable ∧ p.hasDict = false ∧ p.depth ≤ 16 ∧ p.shown.length ≤ sizeLine then some p.shown else none
  | none => none
def minI : List Int → Option Int
  | [] => none
  | x :: xs => some (xs.foldl min x)
def maxI : List Int → Option Int
  | [] => none
  | x :: xs => some (xs.foldl max x)
/-- ascending -/
def isort (l : List Int) : List Int := l.mergeSort fun a b => decide (a ≤ b)
/-- a built-in's call, all its arguments read -/
def bltD (b : Blt) (ds : List D) : Option Rv := match b, ds with
  | .len, [.str x] => if okLen x.length then some (.val (.int x.length)) else none
  | .len, [.tup xs] => some (.val (.int xs.length))
  | .len, [.lst xs] => some (.val (.int xs.length))
  | .len, [.fro xs] => some (.val (.int xs.length))
  | .len, [.dct _ xs] => some (.val (.int xs.length))
  | .tuple, [.lst xs] => some (.val (.tup xs))
  | .tuple, [.tup xs] => some (.val (.tup xs))
  | .list, [.lst xs] => some (.fresh (.lst xs))
  | .list, [.tup xs] => some (.fresh (.lst xs))
  | .list, [.fro xs] => some (.fresh (.lst xs))
  | .list, [.dct false kvs] => some (.fresh (.lst (kvs.map (·.1))))
  | .sorted, [.lst xs] => (intsD xs).map fun is => .fresh (.lst ((isort is).map .int))
  | .int, [.int i] => some (.val (.int i))
  | .int, [.bl b] => some (.val (.int (if b then 1 else 0)))
  | .bool, [.bl b] => some (.val (.bl b))
  | .all, [.lst xs] => (bools xs).map fun bs => .val (.bl (bs.all id))
  | .any, [.lst xs] => (bools xs).map fun bs => .val (.bl (bs.any id))
  | .abs, [.int i] => some (.val (.int (if i < 0 then -i else i)))
  | .min2, [.int i, .int j] => some (.val (.int (if j < i then j else i)))
  | .max2, [.int i, .int j] => some (.val (.int (if j > i then j else i)))
  | .divmod, [.int i, .int j] => if 0 < j ∧ j < 1073741824 then some (.val (.tup [.int (i / j), .int (i % j)])) else none
  | .repr, [d] => (shownD d).map fun x => .val (.str x)
  | .str, [.str x] => some (.val (.str x))
  | .str, [.int i] => if i.natAbs.log2 < 1920 then some (.val (.str (toString i))) else none
  | .min1, [.lst xs] => ((intsD xs).bind minI).map fun i => .val (.int i)
  | .max1, [.lst xs] => ((intsD xs).bind maxI).map fun i => .val (.int i)
  | .sum, [.lst xs] => (intsD xs).map fun is => .val (.int is.sum)
  | _, _ => none
/-- what a loop walks -/
def srcD (sk : SrcK) (ds : List D) : Option (List D) := match sk, ds with
  | .plain, [d] => seqD d
  | .range1, [.int n] => if -(2 ^ 62) ≤ n ∧ n < 2 ^ 62 then some ((List.range n.toNat).map fun i => .int (i : Nat)) else none
  | .range2, [.int a, .int b] => if -(2 ^ 62) ≤ a ∧ a < 2 ^ 62 ∧ -(2 ^ 62) ≤ b ∧ b < 2 ^ 62 then some ((List.range (b - a).toNat).map fun i => .int (a + (i : Nat))) else none
  | .enum, [d] => (match d with
    | .tup xs => some (xs.mapIdx fun i x => .tup [.int i, x])
    | .lst xs => some (xs.mapIdx fun i x => .tup [.int i, x])
    | _ => none)
  | .items, [.dct false kvs] => some (kvs.map fun p => .tup [p.1, p.2])
  | _, _ => none
def bindT (tg : Tg) (d : D) (e : Fm) : Option Fm := match tg with
  | .one i => some (e.set i (.val d))
  | .many is => (match d with
    | .tup xs => if xs.length = is.length then some ((is.zip xs).foldl (fun e p => e.set p.1 (.val p.2)) e) else none
    | _ => none)
def restore (old new : Fm) : List Nat → Fm
  | [] => new
  | i :: is => match old[i]? with
    | some s => (restore old new is).set i s
    | none => restore old new is
def wipeE (e : Fm) : List Nat → Fm
  | [] => e
  | i :: is => (wipeE e is).set i .dead
def Tg.slots : Tg → List Nat
  | .one i => [i]
  | .many is => is
/-- no slot of these holds a thing -/
def noOwn (e : Fm) (own : List Nat) : Bool := own.all fun i => match e[i]? with
  | some (.own _ _) => false
  | _ => true
/-- the turns of a list comprehension -/
def lcL (own : List Nat) (tg : Tg) (cond : Fm → Out Bool) (el : Fm → Out D) : List D → List D → Fm → Out (List D)
  | [], acc, e => .ok acc e
  | d :: ds, acc, e => match bindT tg d (wipeE e own) with
    | none => .bad
    | some e1 => (match cond e1 with
      | .ok true e2 => (match el e2 with
        | .ok x e3 => if acc.length < sizeLine then lcL own tg cond el ds (acc ++ [x]) e3 else .bad
        | _ => .bad)
      | .ok false e2 => lcL own tg cond el ds acc e2
      | _ => .bad)
/-- the outer turns of a comprehension of two clauses -/
def lc2L (own : List Nat) (tg : Tg) (cond : Fm → Out Bool) (inner : List D → Fm → Out (List D)) : List D → List D → Fm → Out (List D)
  | [], acc, e => .ok acc e
  | d :: ds, acc, e => match bindT tg d (wipeE e own) with
    | none => .bad
    | some e1 => (match cond e1 with
      | .ok true e2 => (match inner acc e2 with
        | .ok acc' e3 => lc2L own tg cond inner ds acc' e3
        | _ => .bad)
      | .ok false e2 => lc2L own tg cond inner ds acc e2
      | _ => .bad)
def dcL (own : List Nat) (tg : Tg) (cond : Fm → Out Bool) (kx vx : Fm → Out D) : List D → List (D × D) → Fm → Out (List (D × D))
  | [], acc, e => .ok acc e
  | d :: ds, acc, e => match bindT tg d (wipeE e own) with
    | none => .bad
    | some e1 => (match cond e1 with
      | .ok true e2 => (match kx e2 with
        | .ok k e3 => (match vx e3 with
          | .ok v e4 => if acc.length < sizeLine ∧ keyOk false k = true then dcL own tg cond kx vx ds (dput acc k v) e4 else .bad
          | _ => .bad)
        | _ => .bad)
      | .ok false e2 => dcL own tg cond kx vx ds acc e2
      | _ => .bad)
/-- the receiver of a method, of its type -/
def bmtOk (m : Bmt) (x : Option D) : Bool := match m, x with
  | .append, some (.lst _) => true
  | .extend, some (.lst _) => true
  | .insert, some (.lst _) => true
  | .pop0, some (.lst _) => true
  | .pop1, some (.lst _) => true
  | .get1, some (.dct _ _) => true
  | .get2, some (.dct _ _) => true
  | _, _ => false
/-- a method of a built-in thing; what becomes of the receiver, if it is a slot's -/
def bmtD (m : Bmt) (x : D) (ds : List D) : Option (Rv × Option D) := match m, x, ds with
  | .append, .lst xs, [y] => if xs.length < sizeLine then some (.val .non, some (.lst (xs ++ [y]))) else none
  | .insert, .lst xs, [.int i, y] => if 0 ≤ i ∧ i ≤ xs.length ∧ xs.length < sizeLine then some (.val .non, some (.lst (xs.take i.toNat ++ y :: xs.drop i.toNat))) else none
  | .pop0, .lst xs, [] => (match xs[xs.length - 1]? with
    | some y => some (.val y, some (.lst xs.dropLast))
    | none => none)
  | .pop1, .lst xs, [.int i] => if 0 ≤ i ∧ i < 2 ^ 63 then (match xs[i.toNat]? with
    | some y => some (.val y, some (.lst (xs.eraseIdx i.toNat)))
    | none => none) else none
  | .extend, .lst xs, [.lst ys] => if xs.length + ys.length ≤ sizeLine then some (.val .non, some (.lst (xs ++ ys))) else none
  | .get1, .dct t kvs, [k] => if keyOk t k then some (.val ((dget kvs k).getD .non), none) else none
  | .get2, .dct t kvs, [k, z] => if keyOk t k then some (.val ((dget kvs k).getD z), none) else none
  | _, _, _ => none
/-- what a method leaves -/
def mtOut (r : Rv) (y : Rv × Option D) (e : Fm) : Out Rv := match y.2 with
  | none => .ok y.1 e
  | some z => (match r with
    | .bor i => (match e[i]? with
      | some (.own l _) => .ok y.1 (e.set i (.own l z))
      | _ => .bad)
    | _ => .bad)
def bmtR (m : Bmt) (r : Rv) (rs : List Rv) (e : Fm) : Out Rv := match r.rd e, keep rs with
  | some x, some ds => (match bmtD m x ds with
    | some y => mtOut r y e
    | none => .bad)
  | _, _ => .bad
def stoD (x i v : D) : Option D := match x, i with
  | .lst xs, .int k => (L2.ixN xs.length k).map fun j => .lst (xs.set j v)
  | .dct t kvs, k => if kvs.length < sizeLine ∧ keyOk t k then some (.dct t (dput kvs k v)) else none
  | _, _ => none
end PV
/-! ## the evaluator -/
namespace PV
open PySem
inductive Fl where
  | next | ret (fr : Bool) (d : D) | brk | cnt
def tstR (r : Rv) (e : Fm) : Out Bool := match r with
  | .val (.bl b) => .ok b e
  | _ => .bad
/-- a value as a test -/
def Out.tst (o : Out Rv) : Out Bool := o.bind tstR
def keptR (r : Rv) (e : Fm) : Out D := Out.of r.fz e
/-- a value that is kept -/
def Out.kept (o : Out Rv) : Out D := o.bind keptR
def pairs : List D → Option (List (D × D))
  | [] => some []
  | k :: v :: r => (pairs r).map fun l => (k, v) :: l
  | _ => none
def obj1 (d : D) : Option Nat := match d with
  | .obj c _ => some c
  | _ => none
def rd2 (f : D → D → Option Rv) (x y : Rv) (e : Fm) : Out Rv := match x.rd e, y.rd e with
  | some dx, some dy => Out.of (f dx dy) e
  | _, _ => .bad
def rd1 (f : D → Option Rv) (x : Rv) (e : Fm) : Out Rv := match x.rd e with
  | some dx => Out.of (f dx) e
  | _ => .bad
def cmpF (op : CmpOp) (x y : D) : Option Rv := (cmpD op x y).map fun c => .val (.bl c)
def negR (x : Rv) (e : Fm) : Out Rv := match x with
  | .val (.int i) => .ok (.val (.int (-i))) e
  | _ => .bad
def chnE (o : CmpOp) (dy : D) (z : Rv) (e : Fm) : Out Rv := match z with
  | .val dz => Out.of (cmpF o dy dz) e
  | _ => .bad
def chnR (o1 o2 : CmpOp) (third : Fm → Out Rv) (x y : Rv) (e : Fm) : Out Rv := match x, y with
  | .val dx, .val dy => (match cmpD o1 dx dy with
    | some true => (third e).bind (chnE o2 dy)
    | some false => .ok (.val (.bl false)) e
    | none => .bad)
  | _, _ => .bad
def notR (b : Bool) (e : Fm) : Out Rv := .ok (.val (.bl (!b))) e
def blR (b : Bool) (e : Fm) : Out Rv := .ok (.val (.bl b)) e
def flOk (W : Wd) (d : D) (f : Str) : Bool := match d with
  | .obj c _ => W.fl c f
  | _ => false
def tupR (rs : List Rv) (e : Fm) : Out Rv := match keep rs with
  | some ds => if ds.length ≤ sizeLine then .ok (.val (.tup ds)) e else .bad
  | none => .bad
def lstR (rs : List Rv) (e : Fm) : Out Rv := match keep rs with
  | some ds => if ds.length ≤ sizeLine then .ok (.fresh (.lst ds)) e else .bad
  | none => .bad
def dicR (t : Bool) (rs : List Rv) (e : Fm) : Out Rv := match (keep rs).bind pairs with
  | some ps => if ps.length ≤ 15 ∧ (ps.all fun p => keyOk t p.1) ∧ (t = true → ps = []) then .ok (.fresh (.dct t (ps.foldl (fun acc p => dput acc p.1 p.2) []))) e else .bad
  | none => .bad
def idxR (x y : Rv) (e : Fm) : Out Rv := match x.rd e, y.fz with
  | some dx, some dy => Out.of ((idxD dx dy).map .val) e
  | _, _ => .bad
def slcR (l h : Option Int) (x : Rv) (e : Fm) : Out Rv := rd1 (fun d => slcD d l h) x e
def fldR (W : Wd) (f : Str) (x : Rv) (e : Fm) : Out Rv := rd1 (fun d => if flOk W d f = true then (fldD d f).map .val else none) x e
def giveR (x : Rv) (e : Fm) : Out Rv := match x with
  | .fresh d => .ok (.give d) e
  | _ => .bad
def bltR (b : Blt) (rs : List Rv) (e : Fm) : Out Rv := match reads rs e with
  | some ds => Out.of (bltD b ds) e
  | none => .bad
def isiR (W : Wd) (cs : List Cl) (x : Rv) (e : Fm) : Out Rv := match cs with
  | [c] => rd1 (fun d => (isi1 W d c).map fun b => .val (.bl b)) x e
  | _ => .bad
def partR (x : Rv) (e : Fm) : Out (Option Int) := match x with
  | .val (.int i) => .ok (some i) e
  | _ => .bad
/-- a receiver, handed to its method -/
def selfR (x : Rv) : Rv := match x with
  | .bor i => .lent i
  | r => r
def fcR (e1 : Fm) (own : List Nat) (xs : List D) (e2 : Fm) : Out Rv := .ok (.fresh (.lst xs)) (restore e1 e2 own)
def dcR (e1 : Fm) (own : List Nat) (xs : List (D × D)) (e2 : Fm) : Out Rv := .ok (.fresh (.dct false xs)) (restore e1 e2 own)
def consR (x : Rv) (xs : List Rv) (e : Fm) : Out (List Rv) := .ok (x :: xs) e
def starR (ds : List D) (xs : List Rv) (e : Fm) : Out (List Rv) := .ok (ds.map .val ++ xs) e
def starD : D → Option (List D)
  | .tup ds => some ds
  | .lst ds => some ds
  | _ => none
def E.isNop : E → Bool
  | .nop => true
  | _ => false
def Es.isNil : Es → Bool
  | .nil => true
  | _ => false
/-- a comprehension's test, perhaps none -/
def condF (n : Bool) (m : Fm → Out Rv) (e : Fm) : Out Bool := if n = true then .ok true e else (m e).tst
/-- a slice's part, perhaps none -/
def partF (n : Bool) (m : Fm → Out Rv) (e : Fm) : Out (Option Int) := if n = true then .ok none e else (m e).bind partR
/-- the inner walk of two clauses -/
def innerL (tg1 : Tg) (cond1 : Fm → Out Bool) (el : Fm → Out D) (o : Option (List D)) (acc : List D) (e : Fm) : Out (List D) := match o with
  | some ds => lcL tg1.slots tg1 cond1 el ds acc e
  | none => .bad
variable (W : Wd) (run : Nat → List Sl → Res)
def prpR (f : Str) (x : Rv) (e : Fm) : Out Rv := match ((x.rd e).bind obj1).bind fun c => W.prp c f with
  | some g => (callR run W g [selfR x] [some 0] e).sure
  | none => .bad
def mthG (m : Str) (x : Rv) (e : Fm) : Option Nat := match x.rd e with
  | some (.obj c fs) => if (fs.lookup m).isSome = true then none else W.mth c m
  | _ => none
/-- a new thing's maker: the arguments behind the thing -/
def makA (c : Nat) (as : List Sl) : List Sl := .own (some 0) (.obj c []) :: as.drop 1
def makR (c g : Nat) (pm : List (Option Nat)) (rs : List Rv) (e : Fm) : Out Rv := match argsOf (.val .non :: rs) e (dfls (W.npar g) (W.dfl g)) pm with
  | some (as, ls) => if ls.Nodup ∧ pm.head? = some (some 0) then (match run g (makA c as) with
    | .ok .non false (o :: outs) => .ok (.fresh o) (putBack e ls outs)
    | .ex k fs (_ :: outs) => .ex k fs (putBack e ls outs)
    | _ => .bad) else .bad
  | _ => .bad
mutual
def ev : E → Fm → Out Rv
  | .var i, e => (match e[i]? with
    | some (.val d) => .ok (.val d) e
    | _ => .bad)
  | .bor i, e => (match e[i]? with
    | some (.own _ _) => .ok (.bor i) e
    | some (.val d) => .ok (.val d) e
    | _ => .bad)
  | .mov i, e => (match e[i]? with
    | some (.own none d) => .ok (.fresh d) (e.set i .dead)
    | some (.val d) => .ok (.val d) e
    | _ => .bad)
  | .con d, e => .ok (.val d) e
  | .glo g, e => Out.of ((W.glos[g]?).map .val) e
  | .bin op a b, e => (ev a e).bind fun x e1 => (ev b e1).bind (rd2 (binD op) x)
  | .neg a, e => (ev a e).bind negR
  | .cmp op a b, e => (ev a e).bind fun x e1 => (ev b e1).bind (rd2 (cmpF op) x)
  | .chn o1 o2 a b c, e => (ev a e).bind fun x e1 => (ev b e1).bind (chnR o1 o2 (ev c) x)
  | .and es, e => evAnd es e
  | .or es, e => evOr es e
  | .not a, e => ((ev a e).tst).bind notR
  | .ife c a b, e => ((ev c e).tst).bind fun t e1 => if t = true then ev a e1 else ev b e1
  | .tup es, e => (evs es e).bind tupR
  | .lst es, e => (evs es e).bind lstR
  | .dic t es, e => (evs es e).bind (dicR t)
  | .idx a i, e => (ev a e).bind fun x e1 => (ev i e1).bind (idxR x)
  | .slc a lo hi, e => (ev a e).bind fun x e1 => (partF lo.isNop (fun e => ev lo e) e1).bind fun l e2 => (partF hi.isNop (fun e => ev hi e) e2).bind fun h => slcR l h x
  | .rev a, e => (ev a e).bind (rd1 revD)
  | .nop, _ => .bad
  | .fld a f, e => (ev a e).bind (fldR W f)
  | .prp a f, e => (ev a e).bind (prpR W run f)
  | .cal f es ks pm, e => ((evs es e).bind fun rs e1 => (evs ks e1).bind (appR rs)).bind fun rs => callR run W f rs pm
  | .mth a m es ks pm, e => (ev a e).bind fun x e1 => match mthG W m x e1 with
    | some g => ((evs es e1).bind fun rs e2 => (evs ks e2).bind (appR rs)).bind fun rs => callR run W g (selfR x :: rs) pm
    | none => .bad
  | .mak c es ks pm, e => match W.ini c with
    | some g => ((evs es e).bind fun rs e1 => (evs ks e1).bind (appR rs)).bind (makR W run c g pm)
    | none => .bad
  | .lend i, e => (match e[i]? with
    | some (.own _ _) => .ok (.lent i) e
    | _ => .bad)
  | .give a, e => (ev a e).bind giveR
  | .blt b es, e => (evs es e).bind (bltR b)
  | .bmt m a es, e => (ev a e).bind fun x e1 => if bmtOk m (x.rd e1) = true then (evs es e1).bind (bmtR m x) else .bad
  | .isi a cs, e => (ev a e).bind (isiR W cs)
  | .frz i, e => (match e[i]? with
    | some (.own none d) => .ok (.val d) (e.set i (.val d))
    | some (.val d) => .ok (.val d) e
    | _ => .bad)
  | .lc tg sk src own cond el, e => (evs src e).bind fun rs e1 => match (keep rs).bind (srcD sk) with
    | some ds => if noOwn e1 own = true then (lcL own tg (condF cond.isNop fun e => ev cond e) (fun e => (ev el e).kept) ds [] e1).bind (fcR e1 own) else .bad
    | none => .bad
  | .dc tg sk src own cond k v, e => (evs src e).bind fun rs e1 => match (keep rs).bind (srcD sk) with
    | some ds => if noOwn e1 own = true then (dcL own tg (condF cond.isNop fun e => ev cond e) (fun e => (ev k e).kept) (fun e => (ev v e).kept) ds [] e1).bind (dcR e1 own) else .bad
    | none => .bad
  | .lc2 tg sk src own cond tg1 sk1 src1 cond1 el, e => (evs src e).bind fun rs e1 => match (keep rs).bind (srcD sk) with
    | some ds => if noOwn e1 own = true then (lc2L own tg (condF cond.isNop fun e => ev cond e) (fun acc e2 => (evs src1 e2).bind fun rs1 e3 => innerL tg1 (condF cond1.isNop fun e => ev cond1 e) (fun e => (ev el e).kept) ((keep rs1).bind (srcD sk1)) acc e3) ds [] e1).bind (fcR e1 own) else .bad
    | none => .bad
def evs : Es → Fm → Out (List Rv)
  | .nil, e => .ok [] e
  | .cons a r, e => (ev a e).bind fun x e1 => (evs r e1).bind (consR x)
  | .star a r, e => (ev a e).bind fun x e1 => match (x.rd e1).bind starD with
    | some ds => (evs r e1).bind (starR ds)
    | none => .bad
def evAnd : Es → Fm → Out Rv
  | .nil, _ => .bad
  | .cons a r, e => ((ev a e).tst).bind fun b e1 => if r.isNil = true then blR b e1 else if b = true then evAnd r e1 else .ok (.val (.bl false)) e1
  | .star _ _, _ => .bad
def evOr : Es → Fm → Out Rv
  | .nil, _ => .bad
  | .cons a r, e => ((ev a e).tst).bind fun b e1 => if r.isNil = true then blR b e1 else if b = true then .ok (.val (.bl true)) e1 else evOr r e1
  | .star _ _, _ => .bad
end
end PV
/-! ## statements, calls -/
namespace PV
open PySem
/-- the turns of a for -/
def forL (tg : Tg) (body : Fm → Out Fl) : List D → Fm → Out Fl
  | [], e => .ok .next e
  | d :: ds, e => match bindT tg d e with
    | none => .bad
    | some e1 => (match body e1 with
      | .ok .next e2 => forL tg body ds e2
      | .ok .cnt e2 => forL tg body ds e2
      | .ok .brk e2 => .ok .next e2
      | .ok (.ret fr d) e2 => .ok (.ret fr d) e2
      | .ex c fs e2 => .ex c fs e2
      | .bad => .bad)
/-- the turns of a while, at most n -/
def whlL (cond : Fm → Out Bool) (body : Fm → Out Fl) : Nat → Fm → Out Fl
  | 0, _ => .bad
  | n + 1, e => match cond e with
    | .ok true e1 => (match body e1 with
      | .ok .next e2 => whlL cond body n e2
      | .ok .cnt e2 => whlL cond body n e2
      | .ok .brk e2 => .ok .next e2
      | .ok (.ret fr d) e2 => .ok (.ret fr d) e2
      | .ex c fs e2 => .ex c fs e2
      | .bad => .bad)
    | .ok false e1 => .ok .next e1
    | .ex c fs e1 => .ex c fs e1
    | .bad => .bad
/-- the most turns of a while -/
def most : Nat := 2 ^ 64
def asgR (i : Nat) (o : Bool) (r : Rv) (e : Fm) : Out Fl := match o, r with
  | false, .val d => .ok .next (e.set i (.val d))
  | false, .fresh d => .ok .next (e.set i (.val d))
  | true, .fresh d => .ok .next (e.set i (.own none d))
  | true, .val d => .ok .next (e.set i (.val d))
  | _, _ => .bad
def parR : List (Nat × Bool) → List Rv → Fm → Out Fl
  | [], [], e => .ok .next e
  | (i, o) :: ts, r :: rs, e => (asgR i o r e).bind fun _ e1 => parR ts rs e1
  | _, _, _ => .bad
def stoR (j : Nat) (k v : D) (e : Fm) : Out Fl := match e[j]? with
  | some (.own l x) => (match stoD x k v with
    | some y => .ok .next (e.set j (.own l y))
    | none => .bad)
  | _ => .bad
def ownAt (j : Nat) (e : Fm) : Bool := match e[j]? with
  | some (.own _ _) => true
  | _ => false
variable (W : Wd) (run : Nat → List Sl → Res)
/-- item i of the thing of slot j becomes d -/
def subR (j : Nat) (i : E) (d : D) (e : Fm) : Out Fl := if ownAt j e = true then ((ev W run i e).kept).bind fun k e1 => stoR j k d e1 else .bad
def unpL : List Tu → List D → Fm → Out Fl
  | [], [], e => .ok .next e
  | .nam i :: ts, d :: ds, e => unpL ts ds (e.set i (.val d))
  | .sub j i :: ts, d :: ds, e => (subR W run j i d e).bind fun _ e2 => unpL ts ds e2
  | _, _, _ => .bad
mutual
def ex : S → Fm → Out Fl
  | .asg i o a, e => (ev W run a e).bind fun r e1 => asgR i o r e1
  | .par ts es, e => (evs W run es e).bind fun rs e1 => if (rs.all fun r => r.fz.isSome) = true then parR ts rs e1 else .bad
  | .unp ts a, e => (ev W run a e).bind fun r e1 => match r with
    | .val (.tup ds) => if ds.length = ts.length then unpL W run ts ds e1 else .bad
    | _ => .bad
  | .sto j i a, e => ((ev W run a e).kept).bind (subR W run j i)
  | .att j f a, e => ((ev W run a e).kept).bind fun v e1 => match e1[j]? with
    | some (.own l (.obj c fs)) => if fs.length < 999 ∧ W.fl c f = true then .ok .next (e1.set j (.own l (.obj c (putF f v fs)))) else .bad
    | _ => .bad
  | .exp a, e => (ev W run a e).bind fun _ e1 => .ok .next e1
  | .ret a, e => (ev W run a e).bind fun r e1 => match r with
    | .val d => .ok (.ret false d) e1
    | .fresh d => .ok (.ret true d) e1
    | _ => .bad
  | .retN, e => .ok (.ret false .non) e
  | .pas, e => .ok .next e
  | .brk, e => .ok .brk e
  | .cnt, e => .ok .cnt e
  | .ife c a b, e => ((ev W run c e).tst).bind fun t e1 => if t = true then exs a e1 else exs b e1
  | .for tg sk src b, e => (evs W run src e).bind fun rs e1 => match (keep rs).bind (srcD sk) with
    | some ds => forL tg (exs b) ds e1
    | none => .bad
  | .whl c b, e => whlL (fun e => (ev W run c e).tst) (exs b) most e
  | .nev, _ => .bad
def exs : Ss → Fm → Out Fl
  | .nil, e => .ok .next e
  | .cons s r, e => (ex s e).bind fun f e1 => match f with
    | .next => exs r e1
    | f => .ok f e1
end
/-- the arguments as a def's first slots: what is lent bears its place -/
def label : Nat → List Sl → List Sl
  | _, [] => []
  | j, .own (some _) d :: as => .own (some j) d :: label (j + 1) as
  | j, a :: as => a :: label (j + 1) as
/-- the things that were lent, behind a def -/
def outsOf : Nat → List Sl → Fm → Option (List D)
  | _, [], _ => some []
  | j, .own (some _) _ :: as, e => (match e[j]? with
    | some (.own (some i) d) => if i = j then (outsOf (j + 1) as e).map (d :: ·) else none
    | _ => none)
  | j, _ :: as, e => outsOf (j + 1) as e
/-- a def: its slots' number, its body -/
structure Fn where
  n : Nat
  body : Ss
def start (n : Nat) (as : List Sl) : Fm := label 0 as ++ List.replicate (n - as.length) .dead
def endR (as : List Sl) (o : Out Fl) : Res := match o with
  | .ok .next e => (match outsOf 0 as e with
    | some l => .ok .non false l
    | none => .bad)
  | .ok (.ret fr d) e => (match outsOf 0 as e with
    | some l => .ok d fr l
    | none => .bad)
  | .ex c fs e => (match outsOf 0 as e with
    | some l => .ex c fs l
    | none => .bad)
  | _ => .bad
/-- the calls, to the depth k -/
def runF (fns : Nat → Option Fn) : Nat → Nat → List Sl → Res
  | 0, _, _ => .bad
  | k + 1, f, as => match fns f with
    | some F => endR as (exs W (runF fns k) F.body (start F.n as))
    | none => .bad
end PV
/-! ## data in the abstract heap -/
namespace PV
open PySem L2
def kD : Key → D
  | .inl i => .int i
  | .inr x => .str x
/-- a tuple that is there for good: tracked and no one's own, or of the written part -/
def TupAt (K : PySem.W.Frag) (O : Addr → Prop) (H : Hp) (a : Addr) (vs : List V) : Prop :=
  (¬ O a ∧ H a = some (.tup vs)) ∨
    vs = [] ∧ ∃ (o : Obj) (its : Array Value) (n : Nat), K.lookup a = some o ∧ o.cls = .type "tuple" ∧ o.data = .seq its n ∧ its.size ≤ sizeLine ∧ Vals vs its.toList
def FroAt (K : PySem.W.Frag) (O : Addr → Prop) (H : Hp) (a : Addr) (vs : List V) : Prop :=
  (¬ O a ∧ Rd H a (.lst vs)) ∨
    ∃ (o : Obj) (its : Array Value) (n : Nat), K.lookup a = some o ∧ o.cls = .type "list" ∧ o.dict = none ∧ o.data = .seq its n ∧ its.size ≤ sizeLine ∧ Vals vs its.toList
theorem TupAt.sq {K : PySem.W.Frag} {O : Addr → Prop} {H : Hp} {a : Addr} {vs : List V} (h : TupAt K O H a vs) : SqT K H a vs := h.imp (fun h => .inl h.2) And.right
theorem FroAt.sq {K : PySem.W.Frag} {O : Addr → Prop} {H : Hp} {a : Addr} {vs : List V} (h : FroAt K O H a vs) : SqL K H a vs := h.imp (fun h => h.2) id
section
variable (K : PySem.W.Frag) (cn : Nat → Addr) (O : Addr → Prop) (H : Hp)
mutual
inductive Den : V → D → Prop where
  | non : Den .non .non
  | bl (b : Bool) : Den (.bl b) (.bl b)
  | int (i : Int) : Den (.int i) (.int i)
  | str (x : Str) : Den (.str x) (.str x)
  | tup {a : Addr} {vs : List V} {ds : List D} : TupAt K O H a vs → DenL vs ds → Den (.ref a) (.tup ds)
  | lst {a : Addr} {vs : List V} {ds : List D} : ¬ O a → H a = some (.lst vs) → DenL vs ds → Den (.ref a) (.lst ds)
  | fro {a : Addr} {vs : List V} {ds : List D} : FroAt K O H a vs → DenL vs ds → Den (.ref a) (.fro ds)
  | dK {a : Addr} {kvs : List (Key × V)} {ds : List (D × D)} : ¬ O a → Rd H a (.dK kvs) → DenK kvs ds → Den (.ref a) (.dct false ds)
  | dT {a : Addr} {kvs : List (List Key × V)} {ds : List (D × D)} : ¬ O a → H a = some (.dT kvs) → DenT kvs ds → Den (.ref a) (.dct true ds)
  | obj {a dx : Addr} {c : Nat} {fs : List (Str × V)} {ds : List (Str × D)} : ¬ O a → H a = some (.ins (cn c) dx fs) → DenF fs ds → Den (.ref a) (.obj c ds)
inductive DenL : List V → List D → Prop where
  | nil : DenL [] []
  | cons {v : V} {d : D} {vs : List V} {ds : List D} : Den v d → DenL vs ds → DenL (v :: vs) (d :: ds)
inductive DenK : List (Key × V) → List (D × D) → Prop where
  | nil : DenK [] []
  | cons {k : Key} {v : V} {d : D} {vs : List (Key × V)} {ds : List (D × D)} : Den v d → DenK vs ds → DenK ((k, v) :: vs) ((kD k, d) :: ds)
inductive DenT : List (List Key × V) → List (D × D) → Prop where
  | nil : DenT [] []
  | cons {k : List Key} {v : V} {d : D} {vs : List (List Key × V)} {ds : List (D × D)} : Den v d → DenT vs ds → DenT ((k, v) :: vs) ((.tup (k.map kD), d) :: ds)
inductive DenF : List (Str × V) → List (Str × D) → Prop where
  | nil : DenF [] []
  | cons {f : Str} {v : V} {d : D} {vs : List (Str × V)} {ds : List (Str × D)} : Den v d → DenF vs ds → DenF ((f, v) :: vs) ((f, d) :: ds)
end
/-- the content of a thing at a -/
inductive Cont : Addr → D → Prop where
  | lst {a : Addr} {vs : List V} {ds : List D} : H a = some (.lst vs) → DenL K cn O H vs ds → Cont a (.lst ds)
  | dK {a : Addr} {kvs : List (Key × V)} {ds : List (D × D)} : H a = some (.dK kvs) → DenK K cn O H kvs ds → Cont a (.dct false ds)
  | dT {a : Addr} {kvs : List (List Key × V)} {ds : List (D × D)} : H a = some (.dT kvs) → DenT K cn O H kvs ds → Cont a (.dct true ds)
  | obj {a dx : Addr} {c : Nat} {fs : List (Str × V)} {ds : List (Str × D)} : H a = some (.ins (cn c) dx fs) → DenF K cn O H fs ds → Cont a (.obj c ds)
end
section
variable {K : PySem.W.Frag} {cn : Nat → Addr} {O O' : Addr → Prop} {H H' : Hp}
theorem Cont.there {a : Addr} {d : D} (h : Cont K cn O H a d) : ∃ o, H a = some o := by
  cases h with
  | lst h _ => exact ⟨_, h⟩
  | dK h _ => exact ⟨_, h⟩
  | dT h _ => exact ⟨_, h⟩
  | obj h _ => exact ⟨_, h⟩
theorem Cont.den {a : Addr} {d : D} (h : Cont K cn O H a d) (n : ¬ O a) : Den K cn O H (.ref a) d := by
  cases h with
  | lst h r => exact .lst n h r
  | dK h r => exact .dK n (.inl h) r
  | dT h r => exact .dT n h r
  | obj h r => exact .obj n h r
/-- the same thing, perhaps locked since: a dict that was walked -/
def Sm (o o' : HO) : Prop := o' = o ∨ ∃ (kvs : List (Key × V)) (od : Obj), o = .dK kvs ∧ o' = .frz od (.dK kvs)
theorem Sm.rfl' {o : HO} : Sm o o := .inl rfl
theorem Sm.trans {a b c : HO} (h : Sm a b) (k : Sm b c) : Sm a c := by
  rcases h with rfl | ⟨kvs, od, rfl, rfl⟩
  · exact k
  · rcases k with rfl | ⟨_, _, e, _⟩
    · exact .inr ⟨kvs, od, rfl, rfl⟩
    · cases e
/-- all but a dict -/
def noD : HO → Bool
  | .dK _ => false
  | _ => true
theorem Sm.eq {a b : HO} (h : Sm a b) (n : noD a = true) : b = a := by
  rcases h with h | ⟨kvs, od, rfl, _⟩
  · exact h
  · cases n
/-- what holds data stays: every object that is tracked and no one's own -/
structure Ext (O : Addr → Prop) (H : Hp) (O' : Addr → Prop) (H' : Hp) : Prop where
  keep : ∀ a o, H a = some o → ¬ O a → ∃ o', H' a = some o' ∧ Sm o o'
  own : ∀ a o, H a = some o → ¬ O a → ¬ O' a
theorem Ext.at {a : Addr} {o : HO} (x : Ext O H O' H') (h : H a = some o) (n : ¬ O a) (d : noD o = true) : H' a = some o := by
  obtain ⟨o', h', s⟩ := x.keep a o h n
  rw [h', s.eq d]
theorem Rd.ext {a : Addr} {u : HO} (x : Ext O H O' H') (n : ¬ O a) (h : Rd H a u) (d : noD u = true) : ¬ O' a ∧ Rd H' a u := by
  rcases h with h | ⟨o, h⟩
  · exact ⟨x.own _ _ h n, .inl (x.at h n d)⟩
  · exact ⟨x.own _ _ h n, .inr ⟨o, x.at h n rfl⟩⟩
theorem Rd.extD {a : Addr} {kvs : List (Key × V)} (x : Ext O H O' H') (n : ¬ O a) (h : Rd H a (.dK kvs)) : ¬ O' a ∧ Rd H' a (.dK kvs) := by
  rcases h with h | ⟨o, h⟩
  · refine ⟨x.own _ _ h n, ?_⟩
    obtain ⟨o', h', s⟩ := x.keep a _ h n
    rcases s with rfl | ⟨kvs', od, e, rfl⟩
    · exact .inl h'
    · cases e; exact .inr ⟨od, h'⟩
  · exact ⟨x.own _ _ h n, .inr ⟨o, x.at h n rfl⟩⟩
mutual
theorem Den.ext (x : Ext O H O' H') : ∀ {v : V} {d : D}, Den K cn O H v d → Den K cn O' H' v d
  | _, _, .non => .non
  | _, _, .bl b => .bl b
  | _, _, .int i => .int i
  | _, _, .str z => .str z
  | _, _, .tup h r => .tup (h.imp (fun h => ⟨x.own _ _ h.2 h.1, x.at h.2 h.1 rfl⟩) id) (DenL.ext x r)
  | _, _, .lst n h r => .lst (x.own _ _ h n) (x.at h n rfl) (DenL.ext x r)
  | _, _, .fro h r => .fro (h.imp (fun h => Rd.ext x h.1 h.2 rfl) id) (DenL.ext x r)
  | _, _, .dK n h r => .dK (Rd.extD x n h).1 (Rd.extD x n h).2 (DenK.ext x r)
  | _, _, .dT n h r => .dT (x.own _ _ h n) (x.at h n rfl) (DenT.ext x r)
  | _, _, .obj n h r => .obj (x.own _ _ h n) (x.at h n rfl) (DenF.ext x r)
theorem DenL.ext (x : Ext O H O' H') : ∀ {v : List V} {d : List D}, DenL K cn O H v d → DenL K cn O' H' v d
  | _, _, .nil => .nil
  | _, _, .cons h r => .cons (Den.ext x h) (DenL.ext x r)
theorem DenK.ext (x : Ext O H O' H') : ∀ {v : List (Key × V)} {d : List (D × D)}, DenK K cn O H v d → DenK K cn O' H' v d
  | _, _, .nil => .nil
  | _, _, .cons h r => .cons (Den.ext x h) (DenK.ext x r)
theorem DenT.ext (x : Ext O H O' H') : ∀ {v : List (List Key × V)} {d : List (D × D)}, DenT K cn O H v d → DenT K cn O' H' v d
  | _, _, .nil => .nil
  | _, _, .cons h r => .cons (Den.ext x h) (DenT.ext x r)
theorem DenF.ext (x : Ext O H O' H') : ∀ {v : List (Str × V)} {d : List (Str × D)}, DenF K cn O H v d → DenF K cn O' H' v d
  | _, _, .nil => .nil
  | _, _, .cons h r => .cons (Den.ext x h) (DenF.ext x r)
end
/-- a thing's content stays where the thing stays and what holds data stays -/
theorem Cont.ext (x : Ext O H O' H') {a : Addr} {d : D} (h : Cont K cn O H a d) (k : ∀ o, H a = some o → H' a = some o) : Cont K cn O' H' a d := by
  cases h with
  | lst h r => exact .lst (k _ h) (r.ext x)
  | dK h r => exact .dK (k _ h) (r.ext x)
  | dT h r => exact .dT (k _ h) (r.ext x)
  | obj h r => exact .obj (k _ h) (r.ext x)
/-! ### frames -/
variable (K cn) (L : Nat → Addr)
structure Rel (O : Addr → Prop) (e : Fm) (σ : L2.St) (H : Hp) : Prop where
  len : e.length = σ.length
  dom : ∀ a, O a → H a ≠ none
  val : ∀ (i : Nat) (d : D), e[i]? = some (.val d) → ∃ v, σ[i]? = some (some v) ∧ Den K cn O H v d
  own : ∀ (i : Nat) (l : Option Nat) (d : D), e[i]? = some (.own l d) → ∃ a, σ[i]? = some (some (.ref a)) ∧ O a ∧ Cont K cn O H a d
  lent : ∀ (i j : Nat) (d : D), e[i]? = some (.own (some j) d) → σ[i]? = some (some (.ref (L j)))
  inj : ∀ (i j : Nat) (l l' : Option Nat) (d d' : D) (a : Addr), e[i]? = some (.own l d) → e[j]? = some (.own l' d') → σ[i]? = some (some (.ref a)) → σ[j]? = some (some (.ref a)) → i = j
variable {K cn L}
/-- the things of a frame's own slots -/
def Mine (e : Fm) (σ : L2.St) : Addr → Prop := fun a => ∃ (i : Nat) (l : Option Nat) (d : D), e[i]? = some (.own l d) ∧ σ[i]? = some (some (.ref a))
structure Step (O : Addr → Prop) (H : Hp) (O' : Addr → Prop) (H' : Hp) (M : Addr → Prop) : Prop where
  keep : ∀ a o, H a = some o → ¬ M a → ∃ o', H' a = some o' ∧ Sm o o' ∧ (O a → o' = o)
  own : ∀ a o, H a = some o → ¬ M a → (O' a ↔ O a)
theorem Step.hold {M : Addr → Prop} (s : Step O H O' H' M) {a : Addr} {o : HO} (oa : O a) (h : H a = some o) (n : ¬ M a) : H' a = some o := by
  obtain ⟨o', h', _, e⟩ := s.keep a o h n
  rw [h', e oa]
theorem Step.refl {M : Addr → Prop} : Step O H O H M := ⟨fun _ o h _ => ⟨o, h, .rfl', fun _ => rfl⟩, fun _ _ _ _ => Iff.rfl⟩
theorem Step.trans {O2 : Addr → Prop} {H2 : Hp} {M M' : Addr → Prop} (a : Step O H O' H' M) (b : Step O' H' O2 H2 M') (m : ∀ x, M' x → M x ∨ H x = none) : Step O H O2 H2 M := by
  refine ⟨fun x o h n => ?_, fun x o h n => ?_⟩
  · obtain ⟨o1, h1, s1, e1⟩ := a.keep x o h n
    obtain ⟨o2, h2, s2, e2⟩ := b.keep x o1 h1 fun z => (m x z).elim n fun q => by rw [h] at q; cases q
    exact ⟨o2, h2, s1.trans s2, fun z => (e2 ((a.own x o h n).mpr z)).trans (e1 z)⟩
  · obtain ⟨o1, h1, s1, e1⟩ := a.keep x o h n
    exact (b.own x o1 h1 fun z => (m x z).elim n fun q => by rw [h] at q; cases q).trans (a.own x o h n)
theorem Rel.mine {e : Fm} {σ : L2.St} (R : Rel K cn L O e σ H) {a : Addr} (m : Mine e σ a) : O a := by
  obtain ⟨i, l, d, h, hs⟩ := m
  obtain ⟨b, hb, ob, _⟩ := R.own i l d h
  rw [hs] at hb
  cases hb
  exact ob
theorem Step.ext {M : Addr → Prop} (s : Step O H O' H' M) (m : ∀ a, M a → O a) : Ext O H O' H' :=
  ⟨fun a o h n => let ⟨o', h', sm, _⟩ := s.keep a o h fun z => n (m a z); ⟨o', h', sm⟩, fun a o h n z => n ((s.own a o h fun q => n (m a q)).mp z)⟩
/-! ### answers -/
variable (K cn)
def RvOk (O : Addr → Prop) (H : Hp) (σ : L2.St) (e : Fm) (v : V) : Rv → Prop
  | .val d => Den K cn O H v d
  | .fresh d => ∃ a, v = .ref a ∧ O a ∧ Cont K cn O H a d ∧ ¬ Mine e σ a
  | .give d => ∃ a, v = .ref a ∧ O a ∧ Cont K cn O H a d ∧ ¬ Mine e σ a
  | .bor i => σ[i]? = some (some v)
  | .lent i => σ[i]? = some (some v)
def isNew : Rv → Bool
  | .fresh _ => true
  | .give _ => true
  | _ => false
def RvNew (H : Hp) (M : Addr → Prop) (v : V) (r : Rv) : Prop := isNew r = true → ∀ a, v = .ref a → M a ∨ H a = none
/-- a kind of answer -/
structure Kd (α β : Type) where
  ok : (Addr → Prop) → Hp → L2.St → Fm → β → α → Prop
  new : Hp → (Addr → Prop) → β → α → Prop
  sh : ∀ {H H1 : Hp} {M M1 : Addr → Prop} {b : β} {a : α}, (∀ x, M1 x → M x) → (∀ x, H1 x = none → M x ∨ H x = none) → new H1 M1 b a → new H M b a
theorem RvNew.sh {H H1 : Hp} {M M1 : Addr → Prop} {v : V} {r : Rv} (h1 : ∀ x, M1 x → M x) (h2 : ∀ x, H1 x = none → M x ∨ H x = none) (h : RvNew H1 M1 v r) : RvNew H M v r :=
  fun n a e => (h n a e).elim (fun z => .inl (h1 a z)) (h2 a)
def kR : Kd Rv V := ⟨RvOk K cn, RvNew, RvNew.sh⟩
inductive RsOk (O : Addr → Prop) (H : Hp) (σ : L2.St) (e : Fm) : List V → List Rv → Prop where
  | nil : RsOk O H σ e [] []
  | cons {v : V} {r : Rv} {vs : List V} {rs : List Rv} : RvOk K cn O H σ e v r → (∀ a, isNew r = true → v = .ref a → ∀ (j : Nat) (u : V), vs[j]? = some u → ∀ (q : Rv), rs[j]? = some q → isNew q = true → u ≠ .ref a) → RsOk O H σ e vs rs → RsOk O H σ e (v :: vs) (r :: rs)
def RsNew (H : Hp) (M : Addr → Prop) (vs : List V) (rs : List Rv) : Prop := ∀ (j : Nat) (u : V) (q : Rv), vs[j]? = some u → rs[j]? = some q → RvNew H M u q
def kRs : Kd (List Rv) (List V) := ⟨RsOk K cn, RsNew, fun h1 h2 h j u q a b => (h j u q a b).sh h1 h2⟩
def kB : Kd Bool Bool := ⟨fun _ _ _ _ b c => b = c, fun _ _ _ _ => True, fun _ _ h => h⟩
def kDn : Kd D V := ⟨fun O H _ _ v d => Den K cn O H v d, fun _ _ _ _ => True, fun _ _ h => h⟩
def kP : Kd (Option Int) (Option Int) := ⟨fun _ _ _ _ b c => b = c, fun _ _ _ _ => True, fun _ _ h => h⟩
/-- what is wished of an exception, by its class and data -/
abbrev XW := (Addr → Prop) → Hp → Nat → List D → Prop
variable (L)
/-- what follows, from the state (O, H) of a frame whose things are M -/
def Cn {α β : Type} (k : Kd α β) (X : XW) (O : Addr → Prop) (H : Hp) (M : Addr → Prop) (σ : L2.St) (o : Out α) (Q : β → Hp → Prop) : Prop := match o with
  | .ok r e' => ∀ v O' H', Rel K cn L O' e' σ H' → k.ok O' H' σ e' v r → Step O H O' H' M → (∀ a, Mine e' σ a → M a) → k.new H M v r → Q v H'
  | .ex c fs e' => ∀ O' H', Rel K cn L O' e' σ H' → Step O H O' H' M → (∀ a, Mine e' σ a → M a) → X O' H' c fs
  | .bad => False
variable {K cn L}
section
variable {α β γ δ : Type} {k : Kd α β} {k' : Kd γ δ} {X : XW} {M : Addr → Prop} {σ : L2.St} {e e' : Fm}
theorem Cn.imp {o : Out α} {Q Q' : β → Hp → Prop} (h : Cn K cn L k X O H M σ o Q) (i : ∀ b H', Q b H' → Q' b H') : Cn K cn L k X O H M σ o Q' := by
  cases o with
  | ok r e' => exact fun v O' H' R a s m n => i _ _ (h v O' H' R a s m n)
  | ex c fs e' => exact h
  | bad => exact h
theorem Step.back {M : Addr → Prop} (s : Step O H O' H' M) (a : Addr) (h : H' a = none) : M a ∨ H a = none := by
  by_cases m : M a
  · exact .inl m
  · cases q : H a with
    | none => exact .inr rfl
    | some o => obtain ⟨o', h', _⟩ := s.keep a o q m; rw [h'] at h; cases h
/-- the same, seen from a later state -/
theorem Cn.shift {o : Out α} {Q : β → Hp → Prop} {M' : Addr → Prop} (h : Cn K cn L k X O H M σ o Q) (s : Step O H O' H' M) (m : ∀ a, M' a → M a) : Cn K cn L k X O' H' M' σ o Q := by
  cases o with
  | ok r e2 => exact fun v O2 H2 R a s2 m2 n => h v O2 H2 R a (s.trans s2 fun x z => .inl (m x z)) (fun a z => m a (m2 a z)) (k.sh m s.back n)
  | ex c fs e2 => exact fun O2 H2 R s2 m2 => h O2 H2 R (s.trans s2 fun x z => .inl (m x z)) fun a z => m a (m2 a z)
  | bad => exact h
/-- a state reached -/
structure At (K : PySem.W.Frag) (cn : Nat → Addr) (L : Nat → Addr) (O : Addr → Prop) (H : Hp) (M : Addr → Prop) (σ : L2.St) (O1 : Addr → Prop) (e1 : Fm) (H1 : Hp) : Prop where
  R : Rel K cn L O1 e1 σ H1
  s : Step O H O1 H1 M
  m : ∀ a, Mine e1 σ a → M a
theorem Cn.bind {m : Out α} {f : α → Fm → Out γ} {Q : δ → Hp → Prop} (h : Cn K cn L k' X O H M σ (m.bind f) Q) :
    Cn K cn L k X O H M σ m fun v H1 => ∃ r e1 O1, At K cn L O H M σ O1 e1 H1 ∧ k.ok O1 H1 σ e1 v r ∧ k.new H M v r ∧ Cn K cn L k' X O H M σ (f r e1) Q := by
  cases m with
  | ok r e1 => exact fun v O1 H1 R a s m n => ⟨r, e1, O1, ⟨R, s, m⟩, a, n, h⟩
  | ex c fs e1 => exact h
  | bad => exact h
theorem Cn.of_some {o : Option α} {Q : β → Hp → Prop} (h : Cn K cn L k X O H M σ (Out.of o e) Q) : ∃ a, o = some a ∧ Cn K cn L k X O H M σ (.ok a e) Q := by
  cases o with
  | none => exact h.elim
  | some a => exact ⟨a, rfl, h⟩
theorem RvOk.step {v : V} {r : Rv} (R : Rel K cn L O e σ H) (s : Step O H O' H' (Mine e σ)) (m : ∀ a, Mine e' σ a → Mine e σ a) (h : RvOk K cn O H σ e v r) : RvOk K cn O' H' σ e' v r := by
  have x : Ext O H O' H' := s.ext fun a z => R.mine z
  cases r with
  | val d => exact Den.ext x h
  | fresh d =>
    obtain ⟨a, rfl, o, c, n⟩ := h
    obtain ⟨ob, hob⟩ := c.there
    exact ⟨a, rfl, (s.own a ob hob n).mpr o, c.ext x fun o' q => s.hold o q n, fun z => n (m a z)⟩
  | give d =>
    obtain ⟨a, rfl, o, c, n⟩ := h
    obtain ⟨ob, hob⟩ := c.there
    exact ⟨a, rfl, (s.own a ob hob n).mpr o, c.ext x fun o' q => s.hold o q n, fun z => n (m a z)⟩
  | bor i => exact h
  | lent i => exact h
theorem RsOk.get {vs : List V} {rs : List Rv} (h : RsOk K cn O H σ e vs rs) : ∀ {j : Nat} {r : Rv}, rs[j]? = some r → ∃ v, vs[j]? = some v ∧ RvOk K cn O H σ e v r := by
  induction h with
  | nil => intro j r q; simp at q
  | cons h _ _ ih =>
    intro j r q
    cases j with
    | zero => simp at q; subst q; exact ⟨_, rfl, h⟩
    | succ j => simpa using ih (j := j) (r := r) (by simpa using q)
theorem RsOk.length {vs : List V} {rs : List Rv} (h : RsOk K cn O H σ e vs rs) : vs.length = rs.length := by
  induction h with
  | nil => rfl
  | cons _ _ _ ih => simp [ih]
theorem RsOk.step {vs : List V} {rs : List Rv} (R : Rel K cn L O e σ H) (s : Step O H O' H' (Mine e σ)) (m : ∀ a, Mine e' σ a → Mine e σ a) (h : RsOk K cn O H σ e vs rs) : RsOk K cn O' H' σ e' vs rs := by
  induction h with
  | nil => exact .nil
  | cons h a _ ih => exact .cons (h.step R s m) a ih
/-- a new thing is frozen -/
theorem Rel.freeze {a : Addr} (R : Rel K cn L O e σ H) (n : ¬ Mine e σ a) : Rel K cn L (fun b => O b ∧ b ≠ a) e σ H := by
  have x : Ext O H (fun b => O b ∧ b ≠ a) H := ⟨fun _ o h _ => ⟨o, h, .rfl'⟩, fun _ _ _ h z => h z.1⟩
  refine ⟨R.len, fun b z => R.dom b z.1, fun i d h => ?_, fun i l d h => ?_, R.lent, R.inj⟩
  · obtain ⟨v, hv, dn⟩ := R.val i d h
    exact ⟨v, hv, dn.ext x⟩
  · obtain ⟨b, hb, o, c⟩ := R.own i l d h
    exact ⟨b, hb, ⟨o, fun q => n ⟨i, l, d, h, by rw [← q]; exact hb⟩⟩, c.ext x fun _ q => q⟩
theorem Ext.freeze {a : Addr} : Ext O H (fun b => O b ∧ b ≠ a) H := ⟨fun _ o h _ => ⟨o, h, .rfl'⟩, fun _ _ _ h z => h z.1⟩
theorem Step.freeze {a : Addr} {M : Addr → Prop} (n : M a ∨ H a = none) (s : Step O H O' H' M) : Step O H (fun b => O' b ∧ b ≠ a) H' M :=
  ⟨s.keep, fun b o h m => ⟨fun z => (s.own b o h m).mp z.1, fun z => ⟨(s.own b o h m).mpr z, fun q => by
    subst q
    rcases n with n | n
    · exact m n
    · rw [h] at n; cases n⟩⟩⟩
/-- a new object, someone's own -/
theorem Rel.newOwn {a : Addr} {o : HO} (R : Rel K cn L O e σ H) (n : H a = none) : Rel K cn L (fun b => O b ∨ b = a) e σ (upd H a o) := by
  have x : Ext O H (fun b => O b ∨ b = a) (upd H a o) := ⟨fun b u h _ => ⟨u, by rw [upd_ne (ne_of_none h n)]; exact h, .rfl'⟩, fun b u h m z => z.elim m fun q => ne_of_none h n q⟩
  refine ⟨R.len, fun b z => ?_, fun i d h => ?_, fun i l d h => ?_, R.lent, R.inj⟩
  · by_cases q : b = a
    · subst q; rw [upd_same]; exact fun z => nomatch z
    · rw [upd_ne q]; exact R.dom b (z.elim id fun w => absurd w q)
  · obtain ⟨v, hv, dn⟩ := R.val i d h
    exact ⟨v, hv, dn.ext x⟩
  · obtain ⟨b, hb, ob, c⟩ := R.own i l d h
    exact ⟨b, hb, .inl ob, c.ext x fun u q => by rw [upd_ne (ne_of_none q n)]; exact q⟩
/-- a new object that stays -/
theorem Rel.newVal {a : Addr} {o : HO} (R : Rel K cn L O e σ H) (n : H a = none) : Rel K cn L O e σ (upd H a o) := by
  have x : Ext O H O (upd H a o) := ⟨fun b u h _ => ⟨u, by rw [upd_ne (ne_of_none h n)]; exact h, .rfl'⟩, fun _ _ _ m => m⟩
  refine ⟨R.len, fun b z => ?_, fun i d h => ?_, fun i l d h => ?_, R.lent, R.inj⟩
  · by_cases q : b = a
    · subst q; rw [upd_same]; exact fun z => nomatch z
    · rw [upd_ne q]; exact R.dom b z
  · obtain ⟨v, hv, dn⟩ := R.val i d h
    exact ⟨v, hv, dn.ext x⟩
  · obtain ⟨b, hb, ob, c⟩ := R.own i l d h
    exact ⟨b, hb, ob, c.ext x fun u q => by rw [upd_ne (ne_of_none q n)]; exact q⟩
theorem Step.newOwn {a : Addr} {o : HO} {M : Addr → Prop} (n : H a = none) : Step O H (fun b => O b ∨ b = a) (upd H a o) M :=
  ⟨fun b u h _ => ⟨u, by rw [upd_ne (ne_of_none h n)]; exact h, .rfl', fun _ => rfl⟩, fun b u h _ => ⟨fun z => z.elim id fun q => absurd q (ne_of_none h n), .inl⟩⟩
theorem Step.newVal {a : Addr} {o : HO} {M : Addr → Prop} (n : H a = none) : Step O H O (upd H a o) M :=
  ⟨fun b u h _ => ⟨u, by rw [upd_ne (ne_of_none h n)]; exact h, .rfl', fun _ => rfl⟩, fun _ _ _ _ => Iff.rfl⟩
theorem Ext.newVal {a : Addr} {o : HO} (n : H a = none) : Ext O H O (upd H a o) :=
  ⟨fun b u h _ => ⟨u, by rw [upd_ne (ne_of_none h n)]; exact h, .rfl'⟩, fun _ _ _ m => m⟩
theorem Ext.newOwn {a : Addr} {o : HO} (n : H a = none) : Ext O H (fun b => O b ∨ b = a) (upd H a o) :=
  ⟨fun b u h _ => ⟨u, by rw [upd_ne (ne_of_none h n)]; exact h, .rfl'⟩, fun b u h m z => z.elim m fun q => ne_of_none h n q⟩
theorem Rel.noO {a : Addr} (R : Rel K cn L O e σ H) (n : H a = none) : ¬ O a := fun z => R.dom a z n
theorem Mine.noNone {a : Addr} (R : Rel K cn L O e σ H) (n : H a = none) : ¬ Mine e σ a := fun z => R.dom a (R.mine z) n
/-- an answer that is a value now -/
theorem Cn.val {d : D} {Q : V → Hp → Prop} (h : Cn K cn L (kR K cn) X O H (Mine e σ) σ (.ok (.val d) e) Q) (R : Rel K cn L O e σ H) {v : V} (a : Den K cn O H v d) : Q v H :=
  h v O H R a .refl (fun _ z => z) fun z => nomatch z
theorem Cn.newTup {ds : List D} {Q : V → Hp → Prop} {vs : List V} (h : Cn K cn L (kR K cn) X O H (Mine e σ) σ (.ok (.val (.tup ds)) e) Q) (R : Rel K cn L O e σ H) (dl : DenL K cn O H vs ds) (a : Addr) (n : H a = none) : Q (.ref a) (upd H a (.tup vs)) :=
  h _ O _ (R.newVal n) (.tup (.inl ⟨R.noO n, upd_same⟩) (dl.ext (Ext.newVal n))) (.newVal n) (fun _ z => z) fun z => nomatch z
theorem Cn.newLst {ds : List D} {Q : V → Hp → Prop} {vs : List V} (h : Cn K cn L (kR K cn) X O H (Mine e σ) σ (.ok (.fresh (.lst ds)) e) Q) (R : Rel K cn L O e σ H) (dl : DenL K cn O H vs ds) (a : Addr) (n : H a = none) : Q (.ref a) (upd H a (.lst vs)) :=
  h _ _ _ (R.newOwn n) ⟨a, rfl, .inr rfl, .lst upd_same (dl.ext (Ext.newOwn n)), Mine.noNone R n⟩ (.newOwn n) (fun _ z => z) fun _ b z => by cases z; exact .inr n
end
end
end PV
/-! ## rules: names, constants, operators -/
namespace PV
open PySem L2 PyProof.Rows
/-- the class an exception's number stands for: its address, its fields' names -/
structure Exd where
  at_ : Nat → Addr
  nm : Nat → List Str
/-- an exception's own dict holds its data -/
def ExOk (K : PySem.W.Frag) (cn : Nat → Addr) (xd : Exd) (O : Addr → Prop) (H : Hp) (cls : Value) (d : Option Addr) (c : Nat) (ds : List D) : Prop :=
  cls = .ref (xd.at_ c) ∧ ((xd.nm c = [] ∧ ds = [] ∧ d = none) ∨ ∃ dx vs, d = some dx ∧ H dx = some (.xd ((xd.nm c).zip vs)) ∧ ¬ O dx ∧ vs.length = (xd.nm c).length ∧ DenL K cn O H vs ds)
theorem PE.imp {X : Cx} {e : Expr} {t t' : TE} (h : PE X e t) (i : ∀ σ H Q, t' σ H Q → t σ H Q) : PE X e t' := ⟨fun pins s σ H Q I q => h.run pins s σ H Q I (i σ H Q q)⟩
theorem PT.imp {X : Cx} {e : Expr} {t t' : TT} (h : PT X e t) (i : ∀ σ H Q, t' σ H Q → t σ H Q) : PT X e t' := ⟨fun pins s σ H Q I q => h.run pins s σ H Q I (i σ H Q q)⟩
theorem PW.imp {X : Cx} {e : Expr} {t t' : TT} (h : PW X e t) (i : ∀ σ H Q, t' σ H Q → t σ H Q) : PW X e t' := ⟨fun w pins s σ H Q I q => h.run w pins s σ H Q I (i σ H Q q)⟩
theorem PA.imp {X : Cx} {e : List Expr} {t t' : TA} (h : PA X e t) (i : ∀ σ H Q, t' σ H Q → t σ H Q) : PA X e t' := ⟨fun p pins s σ H Q I q => h.run p pins s σ H Q I (i σ H Q q)⟩
/-- all that stands around an evaluation -/
structure Ct where
  L : Nat → Addr
  cn : Nat → Addr
  xd : Exd
  wd : Wd
  run : Nat → List Sl → Res
  W : WX
def Ct.xw (K : PySem.W.Frag) (C : Ct) (σ : L2.St) : XW := fun O H c fs => ∀ cls d, ExOk K C.cn C.xd O H cls d c fs → C.W cls d σ H
/-- the reading of an evaluation -/
def tI (K : PySem.W.Frag) (C : Ct) {α β : Type} (k : Kd α β) (m : Fm → Out α) : L2.St → Hp → (β → Hp → Prop) → Prop := fun σ H Q => ∃ O e, Rel K C.cn C.L O e σ H ∧ Cn K C.cn C.L k (C.xw K σ) O H (Mine e σ) σ (m e) Q
noncomputable section
abbrev Ct.k (K : PySem.W.Frag) (C : Ct) : Kd Rv V := kR K C.cn
abbrev Ct.ks (K : PySem.W.Frag) (C : Ct) : Kd (List Rv) (List V) := kRs K C.cn
abbrev Ct.ev (C : Ct) (a : E) : Fm → Out Rv := PV.ev C.wd C.run a
abbrev Ct.te (K : PySem.W.Frag) (C : Ct) (a : E) : TE := tI K C (C.k K) (C.ev a)
abbrev Ct.tt (K : PySem.W.Frag) (C : Ct) (a : E) : TT := tI K C kB fun e => (C.ev a e).tst
abbrev Ct.ta (K : PySem.W.Frag) (C : Ct) (es : Es) : TA := tI K C (C.ks K) (PV.evs C.wd C.run es)
section
variable {K : PySem.W.Frag} {C : Ct} {α β γ δ : Type} {k : Kd α β} {k' : Kd γ δ}
theorem tI.imp {m : Fm → Out α} {σ : L2.St} {H : Hp} {Q Q' : β → Hp → Prop} (h : tI K C k m σ H Q) (i : ∀ b H', Q b H' → Q' b H') : tI K C k m σ H Q' := by
  obtain ⟨O, e, R, h⟩ := h
  exact ⟨O, e, R, h.imp i⟩
/-- behind a first answer -/
structure Mid (K : PySem.W.Frag) (C : Ct) (k : Kd α β) (σ : L2.St) (O : Addr → Prop) (e : Fm) (H : Hp) (v : β) (H1 : Hp) (r : α) (e1 : Fm) (O1 : Addr → Prop) : Prop where
  R0 : Rel K C.cn C.L O e σ H
  R : Rel K C.cn C.L O1 e1 σ H1
  s : Step O H O1 H1 (Mine e σ)
  m : ∀ a, Mine e1 σ a → Mine e σ a
  ok : k.ok O1 H1 σ e1 v r
  new : k.new H (Mine e σ) v r
theorem tI.bind {m : Fm → Out α} {f : α → Fm → Out γ} {σ : L2.St} {H : Hp} {Q : δ → Hp → Prop} (h : tI K C k' (fun e => (m e).bind f) σ H Q) :
    tI K C k m σ H fun v H1 => ∃ O e r e1 O1, Mid K C k σ O e H v H1 r e1 O1 ∧ Cn K C.cn C.L k' (C.xw K σ) O H (Mine e σ) σ (f r e1) Q := by
  obtain ⟨O, e, R, h⟩ := h
  exact ⟨O, e, R, (Cn.bind (k := k) h).imp fun v H1 ⟨r, e1, O1, A, a, n, c⟩ => ⟨O, e, r, e1, O1, ⟨R, A.R, A.s, A.m, a, n⟩, c⟩⟩
theorem Mid.sh {σ : L2.St} {O O1 : Addr → Prop} {e e1 : Fm} {H H1 : Hp} {v : β} {r : α} (A : Mid K C k σ O e H v H1 r e1 O1) {m : Out γ} {Q : δ → Hp → Prop} (c : Cn K C.cn C.L k' (C.xw K σ) O H (Mine e σ) σ m Q) : Cn K C.cn C.L k' (C.xw K σ) O1 H1 (Mine e1 σ) σ m Q := c.shift A.s A.m
theorem Mid.tI {σ : L2.St} {O O1 : Addr → Prop} {e e1 : Fm} {H H1 : Hp} {v : β} {r : α} (A : Mid K C k σ O e H v H1 r e1 O1) {m : Fm → Out γ} {Q : δ → Hp → Prop} (c : Cn K C.cn C.L k' (C.xw K σ) O H (Mine e σ) σ (m e1) Q) : tI K C k' m σ H1 Q := ⟨O1, e1, A.R, A.sh c⟩
/-- two answers, one behind another: then the rest, from the state at the start -/
theorem tI.two {k2 : Kd γ δ} {α' β' : Type} {kf : Kd α' β'} {m : Fm → Out α} {m2 : α → Fm → Out γ} {f : α → γ → Fm → Out α'} {σ : L2.St} {H : Hp} {Q : β' → Hp → Prop} (h : tI K C kf (fun e => (m e).bind fun r e1 => (m2 r e1).bind (f r)) σ H Q) :
    tI K C k m σ H fun v H1 => ∃ O e r e1 O1, Mid K C k σ O e H v H1 r e1 O1 ∧ Cn K C.cn C.L k2 (C.xw K σ) O1 H1 (Mine e1 σ) σ (m2 r e1) fun u H2 => ∃ q e2 O2, Mid K C k2 σ O1 e1 H1 u H2 q e2 O2 ∧ Cn K C.cn C.L kf (C.xw K σ) O H (Mine e σ) σ (f r q e2) Q := by
  obtain ⟨O, e, R, h⟩ := h
  refine ⟨O, e, R, (Cn.bind (k := k) h).imp fun v H1 ⟨r, e1, O1, A, a, n, c⟩ => ⟨O, e, r, e1, O1, ⟨R, A.R, A.s, A.m, a, n⟩, ?_⟩⟩
  cases w : m2 r e1 with
  | ok q e2 =>
    rw [w] at c
    exact fun u O2 H2 R2 b s2 m2 n2 => ⟨q, e2, O2, ⟨A.R, R2, s2, m2, b, n2⟩, c⟩
  | ex x fs e2 =>
    rw [w] at c
    exact Cn.shift (k := k2) (Q := fun _ _ => True) (show Cn K C.cn C.L k2 (C.xw K σ) O H (Mine e σ) σ (.ex x fs e2) (fun _ _ => True) from c) A.s A.m
  | bad => rw [w] at c; exact c
end
section
variable {X : Cx} {K : PySem.W.Frag} {C : Ct} {pos : Pos}
/-! ### names, constants -/
theorem s_var {i : Nat} {x : Str} (hN : X.N[i]? = some x) (hv : Vis X.env.scope x) (hd : (x == ("__debug__" : Str)) = false) (hcd : (x == ("__classdict__" : Str)) = false) : PE X (.Name x pos) (C.te K (.var i)) := by
  refine PE.imp (pe_var hN hv hd hcd) fun σ H Q ⟨O, e, R, h⟩ => ?_
  simp only [Ct.ev, ev] at h
  split at h
  · rename_i d q
    obtain ⟨v, hv, dn⟩ := R.val i d q
    exact ⟨v, hv, h.val R dn⟩
  · exact h.elim
theorem s_bor {i : Nat} {x : Str} (hN : X.N[i]? = some x) (hv : Vis X.env.scope x) (hd : (x == ("__debug__" : Str)) = false) (hcd : (x == ("__classdict__" : Str)) = false) : PE X (.Name x pos) (C.te K (.bor i)) := by
  refine PE.imp (pe_var hN hv hd hcd) fun σ H Q ⟨O, e, R, h⟩ => ?_
  simp only [Ct.ev, ev] at h
  split at h
  · rename_i l d q
    obtain ⟨a, ha, _, _⟩ := R.own i l d q
    exact ⟨_, ha, h _ O H R ha .refl (fun _ z => z) fun z => nomatch z⟩
  · rename_i d q
    obtain ⟨v, hv, dn⟩ := R.val i d q
    exact ⟨v, hv, h.val R dn⟩
  · exact h.elim
theorem s_lend {i : Nat} {x : Str} (hN : X.N[i]? = some x) (hv : Vis X.env.scope x) (hd : (x == ("__debug__" : Str)) = false) (hcd : (x == ("__classdict__" : Str)) = false) : PE X (.Name x pos) (C.te K (.lend i)) := by
  refine PE.imp (pe_var hN hv hd hcd) fun σ H Q ⟨O, e, R, h⟩ => ?_
  simp only [Ct.ev, ev] at h
  split at h
  · rename_i l d q
    obtain ⟨a, ha, _, _⟩ := R.own i l d q
    exact ⟨_, ha, h _ O H R ha .refl (fun _ z => z) fun z => nomatch z⟩
  · exact h.elim
theorem get_set {e : Fm} {i j : Nat} {s t : Sl} (h : (e.set i s)[j]? = some t) : (j = i ∧ t = s) ∨ (j ≠ i ∧ e[j]? = some t) := by
  by_cases q : i = j
  · subst q
    rw [List.getElem?_set] at h
    simp at h
    exact .inl ⟨rfl, h.2.symm⟩
  · rw [List.getElem?_set_ne q] at h
    exact .inr ⟨Ne.symm q, h⟩
/-- a slot is forgotten -/
theorem Rel.kill {O : Addr → Prop} {e : Fm} {σ : L2.St} {H : Hp} (R : Rel K C.cn C.L O e σ H) (i : Nat) : Rel K C.cn C.L O (e.set i .dead) σ H := by
  refine ⟨by simpa using R.len, R.dom, fun j d h => ?_, fun j l d h => ?_, fun j q d h => ?_, fun j j' l l' d d' a h h' => ?_⟩
  · rcases get_set h with ⟨_, z⟩ | ⟨_, z⟩
    · cases z
    · exact R.val j d z
  · rcases get_set h with ⟨_, z⟩ | ⟨_, z⟩
    · cases z
    · exact R.own j l d z
  · rcases get_set h with ⟨_, z⟩ | ⟨_, z⟩
    · cases z
    · exact R.lent j q d z
  · rcases get_set h with ⟨_, z⟩ | ⟨_, z⟩
    · cases z
    · rcases get_set h' with ⟨_, z'⟩ | ⟨_, z'⟩
      · cases z'
      · exact R.inj j j' l l' d d' a z z'
theorem Mine.kill {e : Fm} {σ : L2.St} {i : Nat} {a : Addr} (h : Mine (e.set i .dead) σ a) : Mine e σ a ∧ ∀ l d b, e[i]? = some (.own l d) → σ[i]? = some (some (.ref b)) → (∀ j, j ≠ i → ∀ l' d', e[j]? = some (.own l' d') → σ[j]? ≠ some (some (.ref b))) → a ≠ b := by
  obtain ⟨j, l, d, h, hs⟩ := h
  rcases get_set h with ⟨_, z⟩ | ⟨n, z⟩
  · cases z
  · exact ⟨⟨j, l, d, z, hs⟩, fun l' d' b _ _ q e => q j n l d z (by rw [← e]; exact hs)⟩
theorem s_mov {i : Nat} {x : Str} (hN : X.N[i]? = some x) (hv : Vis X.env.scope x) (hd : (x == ("__debug__" : Str)) = false) (hcd : (x == ("__classdict__" : Str)) = false) : PE X (.Name x pos) (C.te K (.mov i)) := by
  refine PE.imp (pe_var hN hv hd hcd) fun σ H Q ⟨O, e, R, h⟩ => ?_
  simp only [Ct.ev, ev] at h
  split at h
  · rename_i d q
    obtain ⟨a, ha, oa, c⟩ := R.own i none d q
    refine ⟨_, ha, h _ O H (R.kill i) ⟨a, rfl, oa, c, fun z => ?_⟩ .refl (fun b z => z.kill.1) fun _ b z => ?_⟩
    · exact z.kill.2 none d a q ha (fun j n l' d' q' w => n (R.inj j i l' none d' d a q' q w ha)) rfl
    · cases z
      exact .inl ⟨i, none, d, q, ha⟩
  · rename_i d q
    obtain ⟨v, hv, dn⟩ := R.val i d q
    exact ⟨v, hv, h.val R dn⟩
  · exact h.elim
theorem s_int {i : Int} {j : Nat} : PE X (.Constant (.int i) j pos) (C.te K (.con (.int i))) := PE.imp pe_int fun σ H Q ⟨O, e, R, h⟩ => by
  simp only [Ct.ev, ev] at h
  exact h.val R (.int i)
theorem s_bl {b : Bool} {j : Nat} : PE X (.Constant (.bool b) j pos) (C.te K (.con (.bl b))) := PE.imp pe_bl fun σ H Q ⟨O, e, R, h⟩ => by
  simp only [Ct.ev, ev] at h
  exact h.val R (.bl b)
theorem s_non {j : Nat} : PE X (.Constant .none j pos) (C.te K (.con .non)) := PE.imp pe_non fun σ H Q ⟨O, e, R, h⟩ => by
  simp only [Ct.ev, ev] at h
  exact h.val R .non
theorem s_str {x : Str} {j : Nat} : PE X (.Constant (.str x) j pos) (C.te K (.con (.str x))) := PE.imp pe_str fun σ H Q ⟨O, e, R, h⟩ => by
  simp only [Ct.ev, ev] at h
  exact h.val R (.str x)
/-! ### operators on values -/
/-- the value of an answer that is read, at a state -/
def Rd1 (K : PySem.W.Frag) (C : Ct) (O : Addr → Prop) (e : Fm) (σ : L2.St) (H : Hp) (v : V) (d : D) : Prop := Den K C.cn O H v d ∨ ∃ a, v = .ref a ∧ O a ∧ Cont K C.cn O H a d
theorem RvOk.rd {O : Addr → Prop} {e e' : Fm} {σ : L2.St} {H : Hp} {v : V} {r : Rv} {d : D} (R : Rel K C.cn C.L O e' σ H) (h : RvOk K C.cn O H σ e v r) (q : r.rd e' = some d) : Rd1 K C O e' σ H v d := by
  cases r with
  | val x => cases q; exact .inl h
  | fresh x =>
    cases q
    obtain ⟨a, rfl, o, c, _⟩ := h
    exact .inr ⟨a, rfl, o, c⟩
  | bor i =>
    simp only [Rv.rd] at q
    split at q
    · rename_i l x w
      cases q
      obtain ⟨a, ha, oa, c⟩ := R.own i l d w
      have h' : σ[i]? = some (some v) := h
      rw [ha] at h'
      cases h'
      exact .inr ⟨a, rfl, oa, c⟩
    · cases q
  | lent i => cases q
  | give x => cases q
theorem Rd1.tup {O : Addr → Prop} {e : Fm} {σ : L2.St} {H : Hp} {v : V} {ds : List D} (h : Rd1 K C O e σ H v (.tup ds)) : ∃ a vs, v = .ref a ∧ TupAt K O H a vs ∧ DenL K C.cn O H vs ds := by
  rcases h with h | ⟨a, rfl, _, c⟩
  · cases h with
    | tup h r => exact ⟨_, _, rfl, h, r⟩
  · cases c
theorem Rd1.lst {O : Addr → Prop} {e : Fm} {σ : L2.St} {H : Hp} {v : V} {ds : List D} (h : Rd1 K C O e σ H v (.lst ds)) : ∃ a vs, v = .ref a ∧ H a = some (.lst vs) ∧ DenL K C.cn O H vs ds := by
  rcases h with h | ⟨a, rfl, _, c⟩
  · cases h with
    | lst _ h r => exact ⟨_, _, rfl, h, r⟩
  · cases c with
    | lst h r => exact ⟨_, _, rfl, h, r⟩
theorem Rd1.fro {O : Addr → Prop} {e : Fm} {σ : L2.St} {H : Hp} {v : V} {ds : List D} (h : Rd1 K C O e σ H v (.fro ds)) : ∃ a vs, v = .ref a ∧ FroAt K O H a vs ∧ DenL K C.cn O H vs ds := by
  rcases h with h | ⟨a, rfl, _, c⟩
  · cases h with
    | fro h r => exact ⟨_, _, rfl, h, r⟩
  · cases c
theorem Rd1.dK {O : Addr → Prop} {e : Fm} {σ : L2.St} {H : Hp} {v : V} {ds : List (D × D)} (h : Rd1 K C O e σ H v (.dct false ds)) : ∃ a kvs, v = .ref a ∧ Rd H a (.dK kvs) ∧ DenK K C.cn O H kvs ds := by
  rcases h with h | ⟨a, rfl, _, c⟩
  · cases h with
    | dK _ h r => exact ⟨_, _, rfl, h, r⟩
  · cases c with
    | dK h r => exact ⟨_, _, rfl, .inl h, r⟩
theorem Rd1.dT {O : Addr → Prop} {e : Fm} {σ : L2.St} {H : Hp} {v : V} {ds : List (D × D)} (h : Rd1 K C O e σ H v (.dct true ds)) : ∃ a kvs, v = .ref a ∧ H a = some (.dT kvs) ∧ DenT K C.cn O H kvs ds := by
  rcases h with h | ⟨a, rfl, _, c⟩
  · cases h with
    | dT _ h r => exact ⟨_, _, rfl, h, r⟩
  · cases c with
    | dT h r => exact ⟨_, _, rfl, h, r⟩
theorem Rd1.obj {O : Addr → Prop} {e : Fm} {σ : L2.St} {H : Hp} {v : V} {c : Nat} {fs : List (Str × D)} (h : Rd1 K C O e σ H v (.obj c fs)) : ∃ a dx vs, v = .ref a ∧ H a = some (.ins (C.cn c) dx vs) ∧ DenF K C.cn O H vs fs := by
  rcases h with h | ⟨a, rfl, _, z⟩
  · cases h with
    | obj _ h r => exact ⟨_, _, _, rfl, h, r⟩
  · cases z with
    | obj h r => exact ⟨_, _, _, rfl, h, r⟩
theorem Rd1.int {O : Addr → Prop} {e : Fm} {σ : L2.St} {H : Hp} {v : V} {i : Int} (h : Rd1 K C O e σ H v (.int i)) : v = .int i := by
  rcases h with h | ⟨a, rfl, _, z⟩
  · cases h; rfl
  · cases z
theorem Rd1.str {O : Addr → Prop} {e : Fm} {σ : L2.St} {H : Hp} {v : V} {i : Str} (h : Rd1 K C O e σ H v (.str i)) : v = .str i := by
  rcases h with h | ⟨a, rfl, _, z⟩
  · cases h; rfl
  · cases z
theorem Rd1.bl {O : Addr → Prop} {e : Fm} {σ : L2.St} {H : Hp} {v : V} {i : Bool} (h : Rd1 K C O e σ H v (.bl i)) : v = .bl i := by
  rcases h with h | ⟨a, rfl, _, z⟩
  · cases h; rfl
  · cases z
theorem DenL.length {cn : Nat → Addr} {O : Addr → Prop} {H : Hp} : ∀ {vs : List V} {ds : List D}, DenL K cn O H vs ds → vs.length = ds.length
  | _, _, .nil => rfl
  | _, _, .cons _ r => by simp [DenL.length r]
theorem DenL.append {cn : Nat → Addr} {O : Addr → Prop} {H : Hp} : ∀ {vs us : List V} {ds es : List D}, DenL K cn O H vs ds → DenL K cn O H us es → DenL K cn O H (vs ++ us) (ds ++ es)
  | _, _, _, _, .nil, s => s
  | _, _, _, _, .cons h r, s => .cons h (DenL.append r s)
theorem DenL.nil_iff {cn : Nat → Addr} {O : Addr → Prop} {H : Hp} {vs : List V} {ds : List D} (h : DenL K cn O H vs ds) : vs = [] ↔ ds = [] := by
  cases h <;> simp
theorem DenL.rep {cn : Nat → Addr} {O : Addr → Prop} {H : Hp} {vs : List V} {ds : List D} (h : DenL K cn O H vs ds) : ∀ n : Nat, DenL K cn O H (List.replicate n vs).flatten (List.replicate n ds).flatten
  | 0 => .nil
  | n + 1 => by simpa [List.replicate_succ] using h.append (DenL.rep h n)
/-- the reading of an operator on two answers -/
def r2 (K : PySem.W.Frag) (C : Ct) (f : D → D → Option Rv) : R2 := fun x y H Q => ∃ O e σ dx dy r, Rel K C.cn C.L O e σ H ∧ Rd1 K C O e σ H x dx ∧ Rd1 K C O e σ H y dy ∧ f dx dy = some r ∧ Cn K C.cn C.L (C.k K) (C.xw K σ) O H (Mine e σ) σ (.ok r e) Q
theorem catTup {O : Addr → Prop} {e : Fm} {σ : L2.St} {H : Hp} {Q : VK} {a b : Addr} {va vb : List V} {xa xb : List D} (R : Rel K C.cn C.L O e σ H) (ha : TupAt K O H a va) (hb : TupAt K O H b vb) (da : DenL K C.cn O H va xa) (db : DenL K C.cn O H vb xb)
    (hl : xa.length + xb.length ≤ sizeLine) (h : Cn K C.cn C.L (C.k K) (C.xw K σ) O H (Mine e σ) σ (.ok (.val (.tup (xa ++ xb))) e) Q) : rCatA K (.ref a) (.ref b) H Q := by
  refine ⟨a, b, va, vb, rfl, rfl, ha.sq, hb.sq, by rw [da.length, db.length]; exact hl, fun z => ?_, fun _ z => ?_, fun _ _ p n => ?_⟩
  · have z' := da.nil_iff.mp z
    subst z'
    exact h.val R (.tup hb db)
  · have z' := db.nil_iff.mp z
    subst z'
    rw [List.append_nil] at h
    exact h.val R (.tup ha da)
  · exact h.newTup R (da.append db) p n
/-- two values, one behind another -/
theorem two {α' β' : Type} {kf : Kd α' β'} {m m2 : Fm → Out Rv} {f : Rv → Rv → Fm → Out α'} {σ : L2.St} {H : Hp} {Q : β' → Hp → Prop} (h : tI K C kf (fun e => (m e).bind fun r e1 => (m2 e1).bind fun q e2 => f r q e2) σ H Q) :
    tI K C (C.k K) m σ H fun v H1 => tI K C (C.k K) m2 σ H1 fun u H2 => ∃ r q e2 O2, Rel K C.cn C.L O2 e2 σ H2 ∧ RvOk K C.cn O2 H2 σ e2 v r ∧ RvOk K C.cn O2 H2 σ e2 u q ∧ Cn K C.cn C.L kf (C.xw K σ) O2 H2 (Mine e2 σ) σ (f r q e2) Q :=
  (tI.two (k := C.k K) (k2 := C.k K) (m2 := fun _ => m2) h).imp fun _ _ ⟨_, _, r, _, _, A, c⟩ => ⟨_, _, A.R, c.imp fun _ _ ⟨q, e2, O2, B, c2⟩ => ⟨r, q, e2, O2, B.R, RvOk.step A.R B.s B.m A.ok, B.ok, B.sh (A.sh c2)⟩⟩
theorem one {α' β' : Type} {kf : Kd α' β'} {m : Fm → Out Rv} {f : Rv → Fm → Out α'} {σ : L2.St} {H : Hp} {Q : β' → Hp → Prop} (h : tI K C kf (fun e => (m e).bind fun r e1 => f r e1) σ H Q) :
    tI K C (C.k K) m σ H fun v H1 => ∃ r e1 O1, Rel K C.cn C.L O1 e1 σ H1 ∧ RvOk K C.cn O1 H1 σ e1 v r ∧ Cn K C.cn C.L kf (C.xw K σ) O1 H1 (Mine e1 σ) σ (f r e1) Q :=
  (tI.bind (k := C.k K) h).imp fun _ _ ⟨_, _, r, e1, O1, A, c⟩ => ⟨r, e1, O1, A.R, A.ok, A.sh c⟩
theorem op_bin {op : Operator} : OpR X (binaryOp op) (r2 X.K C (binD op)) := by
  intro pins s σ' H x y v u Q I rx ry h
  obtain ⟨O, e, σ, dx, dy, r, R, h1, h2, hf, hc⟩ := h
  unfold binD at hf
  split at hf
  · cases hf
    obtain rfl := h1.int
    obtain rfl := h2.int
    exact op_add pins s σ' H _ _ v u Q I rx ry ⟨_, _, rfl, rfl, hc.val R (.int _)⟩
  · cases hf
    obtain rfl := h1.int
    obtain rfl := h2.int
    exact op_sub pins s σ' H _ _ v u Q I rx ry ⟨_, _, rfl, rfl, hc.val R (.int _)⟩
  · split at hf
    · rename_i i j hm
      cases hf
      obtain rfl := h1.int
      obtain rfl := h2.int
      refine op_mul pins s σ' H _ _ v u Q I rx ry ⟨_, _, rfl, rfl, ?_, hc.val R (.int _)⟩
      simp only [mulOk, Bool.or_eq_true, Bool.and_eq_true, decide_eq_true_eq] at hm
      exact hm
    · cases hf
  · split at hf
    · rename_i hm
      cases hf
      obtain rfl := h1.int
      obtain rfl := h2.int
      exact op_mod pins s σ' H _ _ v u Q I rx ry ⟨_, _, rfl, rfl, hm, hc.val R (.int _)⟩
    · cases hf
  · split at hf
    · rename_i hm
      cases hf
      obtain rfl := h1.int
      obtain rfl := h2.int
      exact op_fdiv pins s σ' H _ _ v u Q I rx ry ⟨_, _, rfl, rfl, hm, hc.val R (.int _)⟩
    · cases hf
  · split at hf
    · rename_i hm
      cases hf
      obtain rfl := h1.int
      obtain rfl := h2.int
      exact op_pow pins s σ' H _ _ v u Q I rx ry ⟨_, _, rfl, rfl, hm, hc.val R (.int _)⟩
    · cases hf
  · split at hf
    · rename_i hm
      cases hf
      obtain rfl := h1.str
      obtain rfl := h2.str
      exact op_add_str pins s σ' H _ _ v u Q I rx ry ⟨_, _, rfl, rfl, of_decide_eq_true hm, hc.val R (.str _)⟩
    · cases hf
  · split at hf
    · rename_i hm
      cases hf
      obtain ⟨a, va, rfl, ha, da⟩ := h1.tup
      obtain ⟨b, vb, rfl, hb, db⟩ := h2.tup
      exact op_catA pins s σ' H _ _ v u Q I rx ry (catTup  R ha hb da db (of_decide_eq_true hm) hc)
    · cases hf
  · split at hf
    · rename_i hm
      cases hf
      obtain ⟨a, va, rfl, ha, da⟩ := h1.lst
      obtain ⟨b, vb, rfl, hb, db⟩ := h2.lst
      exact op_cat pins s σ' H _ _ v u Q I rx ry ⟨a, b, va, vb, rfl, rfl, ha, hb, by rw [da.length, db.length]; exact of_decide_eq_true hm, fun p n => hc.newLst R (da.append db) p n⟩
    · cases hf
  · split at hf
    · rename_i hm
      cases hf
      obtain ⟨a, va, rfl, ha, da⟩ := h1.lst
      obtain rfl := h2.int
      exact op_rep pins s σ' H _ _ v u Q I rx ry ⟨a, _, va, rfl, rfl, ha, hm.1, hm.2.1, by rw [da.length]; exact hm.2.2, fun p n => hc.newLst R (da.rep _) p n⟩
    · cases hf
  · cases hf
end
end
end PV
/-! ## rules: comparisons, tests -/
namespace PV
open PySem L2 PyProof.Rows
/-! ### == of data -/
mutual
theorem eqv_pd : ∀ (x y : D) {a b : PyData}, pd x = some a → pd y = some b → eqv x y = PyData.eqv a b
  | .non, y, a, b, ha, hb => by
    simp only [pd, Option.some.injEq] at ha
    subst ha
    cases y <;> simp only [pd, Option.some.injEq, Option.map_eq_some_iff, reduceCtorEq] at hb <;> first
      | (subst hb; simp [eqv, PyData.eqv])
      | (obtain ⟨l, _, rfl⟩ := hb; simp [eqv, PyData.eqv])
  | .bl c, y, a, b, ha, hb => by
    simp only [pd, Option.some.injEq] at ha
    subst ha
    cases y <;> simp only [pd, Option.some.injEq, Option.map_eq_some_iff, reduceCtorEq] at hb <;> first
      | (subst hb; simp [eqv, PyData.eqv])
      | (obtain ⟨l, _, rfl⟩ := hb; simp [eqv, PyData.eqv])
  | .int i, y, a, b, ha, hb => by
    simp only [pd, Option.some.injEq] at ha
    subst ha
    cases y <;> simp only [pd, Option.some.injEq, Option.map_eq_some_iff, reduceCtorEq] at hb <;> first
      | (subst hb; simp [eqv, PyData.eqv])
      | (obtain ⟨l, _, rfl⟩ := hb; simp [eqv, PyData.eqv])
  | .str z, y, a, b, ha, hb => by
    simp only [pd, Option.some.injEq] at ha
    subst ha
    cases y <;> simp only [pd, Option.some.injEq, Option.map_eq_some_iff, reduceCtorEq] at hb <;> first
      | (subst hb; simp [eqv, PyData.eqv])
      | (obtain ⟨l, _, rfl⟩ := hb; simp [eqv, PyData.eqv])
  | .tup xs, y, a, b, ha, hb => by
    simp only [pd, Option.map_eq_some_iff] at ha
    obtain ⟨as, ha, rfl⟩ := ha
    cases y with
    | tup ys =>
      simp only [pd, Option.map_eq_some_iff] at hb
      obtain ⟨bs, hb, rfl⟩ := hb
      simp only [eqv, PyData.eqv]
      exact eqvL_pd xs ys ha hb
    | lst ys =>
      simp only [pd, Option.map_eq_some_iff] at hb
      obtain ⟨bs, hb, rfl⟩ := hb
      simp [eqv, PyData.eqv]
    | _ => simp only [pd, Option.some.injEq, reduceCtorEq] at hb <;> (subst hb; simp [eqv, PyData.eqv])
  | .lst xs, y, a, b, ha, hb => by
    simp only [pd, Option.map_eq_some_iff] at ha
    obtain ⟨as, ha, rfl⟩ := ha
    cases y with
    | lst ys =>
      simp only [pd, Option.map_eq_some_iff] at hb
      obtain ⟨bs, hb, rfl⟩ := hb
      simp only [eqv, PyData.eqv]
      exact eqvL_pd xs ys ha hb
    | tup ys =>
      simp only [pd, Option.map_eq_some_iff] at hb
      obtain ⟨bs, hb, rfl⟩ := hb
      simp [eqv, PyData.eqv]
    | _ => simp only [pd, Option.some.injEq, reduceCtorEq] at hb <;> (subst hb; simp [eqv, PyData.eqv])
  | .fro _, _, _, _, ha, _ => by simp [pd] at ha
  | .dct _ _, _, _, _, ha, _ => by simp [pd] at ha
  | .obj _ _, _, _, _, ha, _ => by simp [pd] at ha
theorem eqvL_pd : ∀ (xs ys : List D) {a b : List PyData}, pdL xs = some a → pdL ys = some b → eqvL xs ys = PyData.eqvAll a b
  | [], [], a, b, ha, hb => by
    simp only [pdL, Option.some.injEq] at ha hb
    subst ha hb
    simp [eqvL, PyData.eqvAll]
  | [], y :: ys, a, b, ha, hb => by
    simp only [pdL, Option.some.injEq] at ha hb
    subst ha
    split at hb
    · cases hb; simp [eqvL, PyData.eqvAll]
    · cases hb
  | x :: xs, [], a, b, ha, hb => by
    simp only [pdL, Option.some.injEq] at ha hb
    subst hb
    split at ha
    · cases ha; simp [eqvL, PyData.eqvAll]
    · cases ha
  | x :: xs, y :: ys, a, b, ha, hb => by
    simp only [pdL] at ha hb
    split at ha
    · rename_i p q h1 h2
      cases ha
      split at hb
      · rename_i p' q' h1' h2'
        cases hb
        simp only [eqvL, PyData.eqvAll]
        rw [eqv_pd x y h1 h1', eqvL_pd xs ys h2 h2']
      · cases hb
    · cases ha
end
section
variable {K : PySem.W.Frag} {cn : Nat → Addr} {O : Addr → Prop} {H : Hp}
mutual
theorem Den.dp : ∀ {v : V} {d : D}, Den K cn O H v d → ∀ {y : PyData}, pd d = some y → Dp K H v y
  | _, _, .non, y, h => by simp only [pd, Option.some.injEq] at h; subst h; exact .non
  | _, _, .bl b, y, h => by simp only [pd, Option.some.injEq] at h; subst h; exact .bl b
  | _, _, .int b, y, h => by simp only [pd, Option.some.injEq] at h; subst h; exact .int b
  | _, _, .str b, y, h => by simp only [pd, Option.some.injEq] at h; subst h; exact .str b
  | _, _, .tup t r, y, h => by
    simp only [pd, Option.map_eq_some_iff] at h
    obtain ⟨l, h, rfl⟩ := h
    exact .tup t.sq (DenL.dp r h)
  | _, _, .lst _ t r, y, h => by
    simp only [pd, Option.map_eq_some_iff] at h
    obtain ⟨l, h, rfl⟩ := h
    exact .lst (SqL.of t) (DenL.dp r h)
  | _, _, .fro _ _, y, h => by simp [pd] at h
  | _, _, .dK _ _ _, y, h => by simp [pd] at h
  | _, _, .dT _ _ _, y, h => by simp [pd] at h
  | _, _, .obj _ _ _, y, h => by simp [pd] at h
theorem DenL.dp : ∀ {v : List V} {d : List D}, DenL K cn O H v d → ∀ {y : List PyData}, pdL d = some y → DpAll K H v y
  | _, _, .nil, y, h => by simp only [pdL, Option.some.injEq] at h; subst h; exact .nil
  | _, _, .cons t r, y, h => by
    simp only [pdL] at h
    split at h
    · rename_i h1 h2
      cases h
      exact .cons (Den.dp t h1) (DenL.dp r h2)
    · cases h
end
end
section
variable {K : PySem.W.Frag} {C : Ct} {O : Addr → Prop} {e : Fm} {σ : L2.St} {H : Hp} {v : V} {d : D}
theorem Rd1.dp (h : Rd1 K C O e σ H v d) {y : PyData} (q : pd d = some y) : Dp K H v y := by
  rcases h with h | ⟨a, rfl, _, c⟩
  · exact h.dp q
  · cases c with
    | lst h r =>
      simp only [pd, Option.map_eq_some_iff] at q
      obtain ⟨l, q, rfl⟩ := q
      exact .lst (SqL.of h) (r.dp q)
    | dK _ _ => simp [pd] at q
    | dT _ _ => simp [pd] at q
    | obj _ _ => simp [pd] at q
theorem Rd1.non (h : Rd1 K C O e σ H v d) : decide (v = .non) = isNon d := by
  rcases h with h | ⟨a, rfl, _, c⟩
  · cases h <;> simp [isNon]
  · cases c <;> simp [isNon]
theorem shp_pd {d : D} (h : shp d = true) : ∃ y, pd d = some y ∧ SeqAt.shaped y = true := by
  unfold shp at h
  split at h
  · exact ⟨_, by assumption, h⟩
  · cases h
/-! ### keys -/
theorem eqv_kD (a b : Key) : eqv (kD a) (kD b) = decide (a = b) := by
  cases a <;> cases b <;> simp [kD, eqv] <;> rfl
theorem eqv_kDs : ∀ (a b : List Key), eqvL (a.map kD) (b.map kD) = decide (a = b)
  | [], [] => by simp [eqvL]
  | [], _ :: _ => by simp [eqvL]
  | _ :: _, [] => by simp [eqvL]
  | x :: xs, y :: ys => by
    simp only [List.map_cons, eqvL, eqv_kD, eqv_kDs xs ys, List.cons.injEq, Bool.decide_and]
theorem atom_key {d : D} (h : atom d = true) : ∃ k, d = kD k := by
  cases d with
  | int i => exact ⟨.inl i, rfl⟩
  | str x => exact ⟨.inr x, rfl⟩
  | _ => simp [atom] at h
theorem atoms_key : ∀ {ds : List D}, ds.all atom = true → ∃ ks : List Key, ds = ks.map kD
  | [], _ => ⟨[], rfl⟩
  | d :: ds, h => by
    simp only [List.all_cons, Bool.and_eq_true] at h
    obtain ⟨k, rfl⟩ := atom_key h.1
    obtain ⟨ks, rfl⟩ := atoms_key h.2
    exact ⟨k :: ks, rfl⟩
theorem den_key {cn : Nat → Addr} {k : Key} (h : Den K cn O H v (kD k)) : v = kV k := by
  cases k <;> (cases h; rfl)
theorem den_keys {cn : Nat → Addr} : ∀ {ks : List Key} {vs : List V}, DenL K cn O H vs (ks.map kD) → vs = ks.map kV
  | [], _, .nil => rfl
  | k :: ks, _, .cons h r => by rw [den_key h, den_keys r]; rfl
theorem any_dK {cn : Nat → Addr} (k : Key) : ∀ {kvs : List (Key × V)} {ds : List (D × D)}, DenK K cn O H kvs ds → (ds.any fun p => eqv p.1 (kD k)) = (valV kvs k).isSome
  | _, _, .nil => rfl
  | _, _, .cons (k := j) h r => by
    have ih := any_dK k r
    rw [List.any_cons, ih, eqv_kD]
    by_cases q : j = k
    · rw [valV_pos q]; simp [q]
    · rw [valV_neg q]; simp [q]
theorem any_dT {cn : Nat → Addr} (k : List Key) : ∀ {kvs : List (List Key × V)} {ds : List (D × D)}, DenT K cn O H kvs ds → (ds.any fun p => eqv p.1 (.tup (k.map kD))) = (valV kvs k).isSome
  | _, _, .nil => rfl
  | _, _, .cons (k := j) h r => by
    have ih := any_dT k r
    rw [List.any_cons, ih]
    simp only [eqv, eqv_kDs]
    by_cases q : j = k
    · rw [valV_pos q]; simp [q]
    · rw [valV_neg q]; simp [q]
theorem get_dK {cn : Nat → Addr} (k : Key) : ∀ {kvs : List (Key × V)} {ds : List (D × D)}, DenK K cn O H kvs ds → (valV kvs k = none ∧ dget ds (kD k) = none) ∨ ∃ v d, valV kvs k = some v ∧ dget ds (kD k) = some d ∧ Den K cn O H v d
  | _, _, .nil => .inl ⟨rfl, rfl⟩
  | _, _, .cons (k := j) (v := v) (d := d) h r => by
    by_cases q : j = k
    · refine .inr ⟨v, d, by rw [valV_pos q], ?_, h⟩
      simp [dget, List.find?_cons, eqv_kD, q]
    · rcases get_dK k r with ⟨a, b⟩ | ⟨v', d', a, b, c⟩
      · refine .inl ⟨by rw [valV_neg q]; exact a, ?_⟩
        simpa [dget, List.find?_cons, eqv_kD, q] using b
      · refine .inr ⟨v', d', by rw [valV_neg q]; exact a, ?_, c⟩
        simpa [dget, List.find?_cons, eqv_kD, q] using b
theorem get_dT {cn : Nat → Addr} (k : List Key) : ∀ {kvs : List (List Key × V)} {ds : List (D × D)}, DenT K cn O H kvs ds → (valV kvs k = none ∧ dget ds (.tup (k.map kD)) = none) ∨ ∃ v d, valV kvs k = some v ∧ dget ds (.tup (k.map kD)) = some d ∧ Den K cn O H v d
  | _, _, .nil => .inl ⟨rfl, rfl⟩
  | _, _, .cons (k := j) (v := v) (d := d) h r => by
    have ee : eqv (.tup (j.map kD)) (.tup (k.map kD)) = decide (j = k) := by simp only [eqv, eqv_kDs]
    by_cases q : j = k
    · refine .inr ⟨v, d, by rw [valV_pos q], ?_, h⟩
      rw [decide_eq_true q] at ee
      simp only [dget, List.find?_cons, ee, Option.map_some]
    · rcases get_dT k r with ⟨a, b⟩ | ⟨v', d', a, b, c⟩
      · refine .inl ⟨by rw [valV_neg q]; exact a, ?_⟩
        simpa [dget, List.find?_cons, ee, q] using b
      · refine .inr ⟨v', d', by rw [valV_neg q]; exact a, ?_, c⟩
        simpa [dget, List.find?_cons, ee, q] using b
/-- what a dict holds at a key -/
theorem Rd1.dget {t : Bool} {kvs : List (D × D)} {y : V} {k : D} (h : Rd1 K C O e σ H v (.dct t kvs)) (hk : Den K C.cn O H y k) (ok : keyOk t k = true) :
    ∃ a o, v = .ref a ∧ DGet H a y o ∧ (kvs.any fun p => eqv p.1 k) = o.isSome ∧ ((o = none ∧ dget kvs k = none) ∨ ∃ u d, o = some u ∧ dget kvs k = some d ∧ Den K C.cn O H u d) := by
  unfold keyOk at ok
  cases t with
  | false =>
    rw [if_neg (by decide)] at ok
    obtain ⟨k, rfl⟩ := atom_key ok
    obtain ⟨a, vs, rfl, ha, r⟩ := h.dK
    obtain rfl := den_key hk
    refine ⟨a, _, rfl, .inl ⟨_, k, ha, rfl, rfl⟩, any_dK k r, ?_⟩
    rcases get_dK k r with ⟨x, z⟩ | ⟨u, d, x, z, w⟩
    · exact .inl ⟨x, z⟩
    · exact .inr ⟨u, d, x, z, w⟩
  | true =>
    rw [if_pos rfl] at ok
    cases k with
    | tup xs =>
      simp only [Bool.and_eq_true] at ok
      obtain ⟨ks, rfl⟩ := atoms_key ok.2
      obtain ⟨a, vs, rfl, ha, r⟩ := h.dT
      cases hk with
      | tup hb rb =>
        rename_i b us
        have eu := den_keys rb
        subst eu
        have hb' : H b = some (.tup (ks.map kV)) := by
          rcases hb with ⟨_, z⟩ | ⟨z, _⟩
          · exact z
          · have : ks = [] := by simpa using z
            subst this
            simp at ok
        refine ⟨a, _, rfl, DGet.t ha hb', any_dT ks r, ?_⟩
        rcases get_dT ks r with ⟨x, z⟩ | ⟨u, d, x, z, w⟩
        · exact .inl ⟨x, z⟩
        · exact .inr ⟨u, d, x, z, w⟩
    | _ => cases ok
end
section
variable {X : Cx} {C : Ct} {pos : Pos} {α' β' : Type} {kf : Kd α' β'}
theorem fin_c {O : Addr → Prop} {e : Fm} {σ : L2.St} {H : Hp} {Q : VK} {b : Bool} (R : Rel X.K C.cn C.L O e σ H) (h : Cn X.K C.cn C.L (C.k X.K) (C.xw X.K σ) O H (Mine e σ) σ (.ok (.val (.bl b)) e) Q) : Q (.bl b) H := h.val R (.bl b)
theorem eqv_comm_any {x : D} {ys : List D} {a : PyData} {bs : List PyData} (hx : pd x = some a) (hy : pdL ys = some bs) : (ys.any fun z => eqv z x) = bs.any fun z => PyData.eqv z a := by
  induction ys generalizing bs with
  | nil => simp only [pdL, Option.some.injEq] at hy; subst hy; rfl
  | cons y ys ih =>
    simp only [pdL] at hy
    split at hy
    · rename_i h1 h2
      cases hy
      simp only [List.any_cons, eqv_pd y x h1 hx, ih h2]
    · cases hy
theorem Rd1.key {K : PySem.W.Frag} {O : Addr → Prop} {e : Fm} {σ : L2.St} {H : Hp} {v : V} {d : D} {t : Bool} (h : Rd1 K C O e σ H v d) (k : keyOk t d = true) : Den K C.cn O H v d := by
  rcases h with h | ⟨a, rfl, _, c⟩
  · exact h
  · unfold keyOk at k
    cases c <;> cases t <;> simp [atom] at k
theorem in_data {x : D} {ys : List D} (h : (shp x && shp (.lst ys)) = true) : ∃ a bs, pd x = some a ∧ pdL ys = some bs ∧ SeqAt.shaped a = true ∧ SeqAt.shaped (.list bs) = true ∧ (ys.any fun z => eqv z x) = bs.any fun z => PyData.eqv z a := by
  simp only [Bool.and_eq_true] at h
  obtain ⟨a, p1, s1⟩ := shp_pd h.1
  obtain ⟨b, p2, s2⟩ := shp_pd h.2
  simp only [pd, Option.map_eq_some_iff] at p2
  obtain ⟨bs, p2, rfl⟩ := p2
  exact ⟨a, bs, p1, p2, s1, s2, eqv_comm_any p1 p2⟩
theorem op_in (hu : X.A.units + 65 < cLine) : OpR X (compareOp .In) (r2 X.K C fun x y => (cmpD .In x y).map fun c => .val (.bl c)) := by
  intro pins s σ' H x y v u Q I rx ry h
  obtain ⟨O, e, σ, dx, dy, r, R, h1, h2, hf, hc⟩ := h
  simp only [cmpD, Option.map_eq_some_iff] at hf
  obtain ⟨b, hf, rfl⟩ := hf
  have fin := fin_c R hc
  unfold inD at hf
  split at hf
  · rename_i ys
    split at hf
    · rename_i hs
      cases hf
      obtain ⟨a, bs, p1, p2, s1, s2, e1⟩ := in_data hs
      rw [e1] at fin
      obtain ⟨as, r1⟩ := Dp.reads I a x v (h1.dp p1) rx
      obtain ⟨cs, r2⟩ := Dp.reads I (.tuple bs) y u (h2.dp (d := .tup ys) (by simp [pd, p2])) ry
      exact SeqAt.in_tuple_reads r2 r1 (SeqAt.canLay_of_shaped s2) (SeqAt.canLay_of_shaped s1) (room_in_shaped s1 hu) ⟨.bl _, H, I, rfl, fin⟩
    · cases hf
  · rename_i ys
    split at hf
    · rename_i hs
      cases hf
      obtain ⟨a, bs, p1, p2, s1, s2, e1⟩ := in_data hs
      rw [e1] at fin
      obtain ⟨as, r1⟩ := Dp.reads I a x v (h1.dp p1) rx
      obtain ⟨cs, r2⟩ := Dp.reads I (.list bs) y u (h2.dp (d := .lst ys) (by simp [pd, p2])) ry
      exact SeqAt.in_list_reads r2 r1 (SeqAt.canLay_of_shaped s2) (SeqAt.canLay_of_shaped s1) (room_in_shaped s1 hu) ⟨.bl _, H, I, rfl, fin⟩
    · cases hf
  · rename_i t kvs
    split at hf
    · rename_i ok
      cases hf
      obtain ⟨a, o, rfl, g, e1, _⟩ := h2.dget (h1.key ok) ok
      cases ry
      rw [e1] at fin
      exact d_in (by omega) I g rx fun s' I' => ⟨.bl o.isSome, H, I', rfl, fin⟩
    · cases hf
  · split at hf
    · cases hf
      obtain rfl := h1.str
      obtain rfl := h2.str
      exact op_in_str pins s σ' H _ _ v u Q I rx ry ⟨_, _, rfl, rfl, fin⟩
    · cases hf
  · cases hf
theorem op_notIn (hu : X.A.units + 65 < cLine) : OpR X (compareOp .NotIn) (r2 X.K C fun x y => (cmpD .NotIn x y).map fun c => .val (.bl c)) := by
  intro pins s σ' H x y v u Q I rx ry h
  obtain ⟨O, e, σ, dx, dy, r, R, h1, h2, hf, hc⟩ := h
  simp only [cmpD, Option.map_eq_some_iff] at hf
  obtain ⟨b, ⟨b', hf, rfl⟩, rfl⟩ := hf
  have fin := fin_c R hc
  unfold inD at hf
  split at hf
  · rename_i ys
    split at hf
    · rename_i hs
      cases hf
      obtain ⟨a, bs, p1, p2, s1, s2, e1⟩ := in_data hs
      rw [e1] at fin
      obtain ⟨as, r1⟩ := Dp.reads I a x v (h1.dp p1) rx
      obtain ⟨cs, r2⟩ := Dp.reads I (.tuple bs) y u (h2.dp (d := .tup ys) (by simp [pd, p2])) ry
      exact SeqAt.notIn_tuple_reads r2 r1 (SeqAt.canLay_of_shaped s2) (SeqAt.canLay_of_shaped s1) (room_in_shaped s1 hu) ⟨.bl _, H, I, rfl, fin⟩
    · cases hf
  · rename_i ys
    split at hf
    · rename_i hs
      cases hf
      obtain ⟨a, bs, p1, p2, s1, s2, e1⟩ := in_data hs
      rw [e1] at fin
      obtain ⟨as, r1⟩ := Dp.reads I a x v (h1.dp p1) rx
      obtain ⟨cs, r2⟩ := Dp.reads I (.list bs) y u (h2.dp (d := .lst ys) (by simp [pd, p2])) ry
      exact SeqAt.notIn_list_reads r2 r1 (SeqAt.canLay_of_shaped s2) (SeqAt.canLay_of_shaped s1) (room_in_shaped s1 hu) ⟨.bl _, H, I, rfl, fin⟩
    · cases hf
  · rename_i t kvs
    split at hf
    · rename_i ok
      cases hf
      obtain ⟨a, o, rfl, g, e1, _⟩ := h2.dget (h1.key ok) ok
      cases ry
      rw [e1] at fin
      exact d_notIn (by omega) I g rx fun s' I' => ⟨.bl (!o.isSome), H, I', rfl, fin⟩
    · cases hf
  · split at hf
    · cases hf
      obtain rfl := h1.str
      obtain rfl := h2.str
      exact op_notin_str pins s σ' H _ _ v u Q I rx ry ⟨_, _, rfl, rfl, fin⟩
    · cases hf
  · cases hf
theorem hits0 {A : Around} {s : Shared} {ks : List (Key × V)} {va vb : List (Key × Value)} (ra : KV ks va) (rb : KV ([] : List (Key × V)) vb) : (va.length = vb.length → PySem.W.KeqHits A s vb va true) ∧ (va.length == vb.length && true) = ks.isEmpty := by
  have l1 := ra.length
  have l2 := rb.length
  have eb : vb = [] := List.eq_nil_of_length_eq_zero l2.symm
  subst eb
  cases ks with
  | nil =>
    have ea : va = [] := List.eq_nil_of_length_eq_zero l1.symm
    subst ea
    exact ⟨fun _ => .nil, rfl⟩
  | cons k ks =>
    refine ⟨fun z => ?_, ?_⟩
    · rw [← l1] at z; cases z
    · rw [← l1]; rfl
theorem eq0 {pins : List (Addr × Obj)} {s : Shared} {σ' σ : L2.St} {H : Hp} {O : Addr → Prop} {e : Fm} {x y : V} {v u : Value} {dx dy : D} {b : Bool} {Q : VK} (hu : X.A.units < cLine) (I : Inv X pins σ' H s) (rx : RelV x v) (ry : RelV y u) (h1 : Rd1 X.K C O e σ H x dx) (h2 : Rd1 X.K C O e σ H y dy) (hf : eqD0 dx dy = some b) (fin : Q (.bl b) H) :
    wpAny (model X.prog X.w) X.A (compareOp .Eq v u) (EP X pins σ' Q) X.xe s := by
  unfold eqD0 at hf
  split at hf
  · cases hf
    obtain ⟨a, ks, rfl, ha, r1⟩ := h1.dK
    obtain ⟨c, ls, rfl, hc, r2⟩ := h2.dK
    cases r2
    cases rx
    cases ry
    obtain ⟨_, ya, va, ra, da⟩ := dk_rd I.hok ha
    obtain ⟨_, yb, vb, rb, db⟩ := dk_rd I.hok hc
    obtain ⟨k1, k2⟩ := hits0 (A := X.A.in1) (s := s) ra rb
    refine PySem.W.keq_eq (knd := mixKind X.prog X.w) (r := true) ya yb da db hu k1 (fin_bl I fin ?_)
    rw [k2]
    cases r1 <;> rfl
  · cases hf
theorem ne0 {pins : List (Addr × Obj)} {s : Shared} {σ' σ : L2.St} {H : Hp} {O : Addr → Prop} {e : Fm} {x y : V} {v u : Value} {dx dy : D} {b : Bool} {Q : VK} (hu : X.A.units < cLine) (I : Inv X pins σ' H s) (rx : RelV x v) (ry : RelV y u) (h1 : Rd1 X.K C O e σ H x dx) (h2 : Rd1 X.K C O e σ H y dy) (hf : eqD0 dx dy = some b) (fin : Q (.bl (!b)) H) :
    wpAny (model X.prog X.w) X.A (compareOp .NotEq v u) (EP X pins σ' Q) X.xe s := by
  unfold eqD0 at hf
  split at hf
  · cases hf
    obtain ⟨a, ks, rfl, ha, r1⟩ := h1.dK
    obtain ⟨c, ls, rfl, hc, r2⟩ := h2.dK
    cases r2
    cases rx
    cases ry
    obtain ⟨_, ya, va, ra, da⟩ := dk_rd I.hok ha
    obtain ⟨_, yb, vb, rb, db⟩ := dk_rd I.hok hc
    obtain ⟨k1, k2⟩ := hits0 (A := X.A.in1) (s := s) ra rb
    refine PySem.W.keq_ne (knd := mixKind X.prog X.w) (r := true) ya yb da db hu k1 (fin_bl I fin ?_)
    rw [k2]
    cases r1 <;> rfl
  · cases hf
theorem op_cmp (hu : X.A.units + 65 < cLine) {op : CmpOp} : OpR X (compareOp op) (r2 X.K C fun x y => (cmpD op x y).map fun c => .val (.bl c)) := by
  cases op with
  | In => exact op_in hu
  | NotIn => exact op_notIn hu
  | _ =>
    intro pins s σ' H x y v u Q I rx ry h
    obtain ⟨O, e, σ, dx, dy, r, R, h1, h2, hf, hc⟩ := h
    simp only [cmpD, Option.map_eq_some_iff] at hf
    first
      | (obtain ⟨b, hf, rfl⟩ := hf
         have fin := fin_c R hc
         first
           | (unfold pyEq at hf
              split at hf
              · rename_i hs
                cases hf
                simp only [Bool.and_eq_true] at hs
                obtain ⟨a, p1, s1⟩ := shp_pd hs.1
                obtain ⟨b, p2, s2⟩ := shp_pd hs.2
                rw [eqv_pd _ _ p1 p2] at fin
                exact op_eqD (by omega) pins s σ' H _ _ v u Q I rx ry ⟨a, b, h1.dp p1, h2.dp p2, s1, s2, fin⟩
              · exact eq0 (by omega) I rx ry h1 h2 hf fin)
           | (split at hf
              · cases hf
                obtain rfl := h1.int
                obtain rfl := h2.int
                first
                  | exact op_lt pins s σ' H _ _ v u Q I rx ry ⟨_, _, rfl, rfl, fin⟩
                  | exact op_le pins s σ' H _ _ v u Q I rx ry ⟨_, _, rfl, rfl, fin⟩
                  | exact op_gt pins s σ' H _ _ v u Q I rx ry ⟨_, _, rfl, rfl, fin⟩
                  | exact op_ge pins s σ' H _ _ v u Q I rx ry ⟨_, _, rfl, rfl, fin⟩
              · cases hf)
           | (split at hf
              · rename_i hn
                cases hf
                have ey : y = .non := by
                  have := h2.non
                  rw [hn] at this
                  exact of_decide_eq_true this
                rw [← h1.non] at fin
                first
                  | exact op_isN pins s σ' H _ _ v u Q I rx ry ⟨ey, fin⟩
                  | exact op_notN pins s σ' H _ _ v u Q I rx ry ⟨ey, fin⟩
              · cases hf))
      | (obtain ⟨b, ⟨b', hf, rfl⟩, rfl⟩ := hf
         have fin := fin_c R hc
         unfold pyEq at hf
         split at hf
         · rename_i hs
           cases hf
           simp only [Bool.and_eq_true] at hs
           obtain ⟨a, p1, s1⟩ := shp_pd hs.1
           obtain ⟨b, p2, s2⟩ := shp_pd hs.2
           rw [eqv_pd _ _ p1 p2] at fin
           exact op_neD (by omega) pins s σ' H _ _ v u Q I rx ry ⟨a, b, h1.dp p1, h2.dp p2, s1, s2, fin⟩
         · exact ne0 (by omega) I rx ry h1 h2 hf fin)
end
end PV
/-! ## rules: expressions -/
namespace PV
open PySem L2 PyProof.Rows
noncomputable section
theorem Out.bind_assoc {α β γ : Type} (m : Out α) (f : α → Fm → Out β) (g : β → Fm → Out γ) : (m.bind f).bind g = m.bind fun a e => (f a e).bind g := by cases m <;> rfl
section
variable {α β γ δ : Type} {K : PySem.W.Frag} {C : Ct} {σ : L2.St} {H : Hp}
theorem tI.eq {k : Kd α β} {m m' : Fm → Out α} {Q : β → Hp → Prop} (h : tI K C k m σ H Q) (e : ∀ x, m x = m' x) : tI K C k m' σ H Q := by
  obtain ⟨O, x, R, h⟩ := h
  exact ⟨O, x, R, by rw [← e]; exact h⟩
/-- one answer, then the rest -/
theorem oneE {α' β' : Type} {kf : Kd α' β'} {m : Fm → Out Rv} {f : Rv → Fm → Out α'} {m' : Fm → Out α'} {Q : β' → Hp → Prop} (h : tI K C kf m' σ H Q) (e : ∀ x, m' x = (m x).bind f) :
    tI K C (C.k K) m σ H fun v H1 => ∃ r e1 O1, Rel K C.cn C.L O1 e1 σ H1 ∧ RvOk K C.cn O1 H1 σ e1 v r ∧ Cn K C.cn C.L kf (C.xw K σ) O1 H1 (Mine e1 σ) σ (f r e1) Q := one (h.eq e)
theorem twoE {α' β' : Type} {kf : Kd α' β'} {m m2 : Fm → Out Rv} {f : Rv → Rv → Fm → Out α'} {m' : Fm → Out α'} {Q : β' → Hp → Prop} (h : tI K C kf m' σ H Q) (e : ∀ x, m' x = (m x).bind fun r e1 => (m2 e1).bind (f r)) :
    tI K C (C.k K) m σ H fun v H1 => tI K C (C.k K) m2 σ H1 fun u H2 => ∃ r q e2 O2, Rel K C.cn C.L O2 e2 σ H2 ∧ RvOk K C.cn O2 H2 σ e2 v r ∧ RvOk K C.cn O2 H2 σ e2 u q ∧ Cn K C.cn C.L kf (C.xw K σ) O2 H2 (Mine e2 σ) σ (f r q e2) Q := two (h.eq e)
/-- a whole list's answers, then the rest -/
theorem lstE {α' β' : Type} {kf : Kd α' β'} {m : Fm → Out (List Rv)} {f : List Rv → Fm → Out α'} {m' : Fm → Out α'} {Q : β' → Hp → Prop} (h : tI K C kf m' σ H Q) (e : ∀ x, m' x = (m x).bind f) :
    tI K C (C.ks K) m σ H fun v H1 => ∃ r e1 O1, Rel K C.cn C.L O1 e1 σ H1 ∧ RsOk K C.cn O1 H1 σ e1 v r ∧ Cn K C.cn C.L kf (C.xw K σ) O1 H1 (Mine e1 σ) σ (f r e1) Q :=
  (tI.bind (k := C.ks K) (h.eq e)).imp fun _ _ ⟨_, _, r, e1, O1, A, c⟩ => ⟨r, e1, O1, A.R, A.ok, A.sh c⟩
end
section
variable {X : Cx} {C : Ct} {pos : Pos} {a b c : Expr} {a' b' c' : E}
/-- the end of an operator on two answers -/
theorem r2_of {f : D → D → Option Rv} {O : Addr → Prop} {e : Fm} {σ : L2.St} {H : Hp} {x y : V} {rx ry : Rv} {Q : VK} {K : PySem.W.Frag} (R : Rel K C.cn C.L O e σ H) (h1 : RvOk K C.cn O H σ e x rx) (h2 : RvOk K C.cn O H σ e y ry)
    (h : Cn K C.cn C.L (C.k K) (C.xw K σ) O H (Mine e σ) σ (rd2 f rx ry e) Q) : r2 K C f x y H Q := by
  unfold rd2 at h
  split at h
  · rename_i dx dy q1 q2
    obtain ⟨r, hr, h⟩ := Cn.of_some h
    exact ⟨O, e, σ, dx, dy, r, R, h1.rd R q1, h2.rd R q2, hr, h⟩
  · exact h.elim
theorem c_bin {op : Operator} {K : PySem.W.Frag} {σ : L2.St} {H : Hp} {Q : VK} (h : C.te K (.bin op a' b') σ H Q) : tOp (r2 K C (binD op)) (C.te K a') (C.te K b') σ H Q :=
  (twoE h fun _ => rfl).imp fun v H1 h1 => h1.imp fun u H2 ⟨r, q, e2, O2, R, k1, k2, h⟩ => r2_of R k1 k2 h
theorem s_bin {op : Operator} (ha : PE X a (C.te X.K a')) (hb : PE X b (C.te X.K b')) : PE X (.BinOp a op b pos) (C.te X.K (.bin op a' b')) := PE.imp (pe_op op_bin ha hb) fun _ _ _ h => c_bin h
theorem c_cmp {op : CmpOp} {K : PySem.W.Frag} {σ : L2.St} {H : Hp} {Q : VK} (h : C.te K (.cmp op a' b') σ H Q) : tOp (r2 K C (cmpF op)) (C.te K a') (C.te K b') σ H Q :=
  (twoE h fun _ => rfl).imp fun v H1 h1 => h1.imp fun u H2 ⟨r, q, e2, O2, R, k1, k2, h⟩ => r2_of R k1 k2 h
theorem op_cmpF (hu : X.A.units + 65 < cLine) {op : CmpOp} : OpR X (compareOp op) (r2 X.K C (cmpF op)) := op_cmp hu
theorem s_cmp {op : CmpOp} (hu : X.A.units + 65 < cLine) (ha : PE X a (C.te X.K a')) (hb : PE X b (C.te X.K b')) (hm : behindInMarks op b = false) : PE X (.Compare a [op] [b] pos) (C.te X.K (.cmp op a' b')) := PE.imp (pe_cmpR (op_cmpF hu) ha hb hm) fun _ _ _ h => c_cmp h
/-- a test is a value that is a truth -/
theorem tst_te {K : PySem.W.Frag} {σ : L2.St} {H : Hp} {Q : Bool → Hp → Prop} (h : C.tt K a' σ H Q) : C.te K a' σ H fun x H1 => ∃ c, x = .bl c ∧ Q c H1 := by
  refine (oneE h fun _ => rfl).imp fun v H1 ⟨r, e1, O1, R, k, h⟩ => ?_
  unfold tstR at h
  split at h
  · cases k
    exact ⟨_, rfl, h _ O1 H1 R rfl .refl (fun _ z => z) trivial⟩
  · exact h.elim
theorem t_plain (ha : PE X a (C.te X.K a')) (he : ∀ whole, isTrue a X.env whole = (do let v ← whole; standAt a.pos; holding [v] (truthy v))) : PT X a (C.tt X.K a') := PT.imp (pt_val ha he) fun _ _ _ h => tst_te h
theorem t_cmp {op : CmpOp} (hu : X.A.units + 65 < cLine) (ha : PE X a (C.te X.K a')) (hb : PE X b (C.te X.K b')) (hm : behindInMarks op b = false) : PT X (.Compare a [op] [b] pos) (C.tt X.K (.cmp op a' b')) :=
  PT.imp (pt_cmpR (op_cmpF hu) ha hb hm) fun _ _ _ h => c_cmp (tst_te h)
theorem s_neg (ha : PE X a (C.te X.K a')) : PE X (.UnaryOp .USub a pos) (C.te X.K (.neg a')) := by
  refine PE.imp (pe_un un_neg ha) fun σ H Q h => ?_
  refine (oneE h fun _ => rfl).imp fun v H1 ⟨r, e1, O1, R, k, h⟩ => ?_
  unfold negR at h
  split at h
  · cases k
    exact ⟨_, rfl, h.val R (.int _)⟩
  · exact h.elim
/-! ### chains -/
theorem r2_val {f : CmpOp} {O : Addr → Prop} {e : Fm} {σ : L2.St} {H : Hp} {x y : V} {dx dy : D} {c : Bool} {Q : VK} {K : PySem.W.Frag} (R : Rel K C.cn C.L O e σ H) (h1 : Den K C.cn O H x dx) (h2 : Den K C.cn O H y dy) (q : cmpD f dx dy = some c)
    (h : ∀ O' H', Rel K C.cn C.L O' e σ H' → Step O H O' H' (Mine e σ) → Q (.bl c) H') : r2 K C (cmpF f) x y H Q := by
  refine ⟨O, e, σ, dx, dy, .val (.bl c), R, .inl h1, .inl h2, by simp only [cmpF, q]; rfl, fun v O' H' R' k s m n => ?_⟩
  cases k
  exact h O' H' R' s
theorem c_chn {o1 o2 : CmpOp} {K : PySem.W.Frag} {σ : L2.St} {H : Hp} {Q : VK} (h : C.te K (.chn o1 o2 a' b' c') σ H Q) :
    tChain (r2 K C (cmpF o1)) (r2 K C (cmpF o2)) (C.te K a') (C.te K b') (C.te K c') σ H Q := by
  refine (twoE h fun _ => rfl).imp fun v H1 h1 => h1.imp fun u H2 ⟨r, q, e2, O2, R, k1, k2, h⟩ => ?_
  unfold chnR at h
  split at h
  · rename_i dx dy
    split at h
    · rename_i w
      refine r2_val R k1 k2 w fun O' H' R' s' => ⟨true, rfl, ?_⟩
      rw [if_pos rfl]
      have h' := Cn.shift h s' (M' := Mine e2 σ) fun _ z => z
      have k2' : Den K C.cn O' H' u dy := Den.ext (s'.ext fun _ z => R.mine z) k2
      refine ⟨O', e2, R', (Cn.bind (k := C.k K) h').imp fun z H3 ⟨r3, e3, O3, A, k3, n3, h3⟩ => ?_⟩
      have h3' := Cn.shift h3 A.s A.m
      unfold chnE at h3'
      split at h3'
      · rename_i dz
        obtain ⟨rr, hr, h4⟩ := Cn.of_some h3'
        exact ⟨O3, e3, σ, dy, dz, rr, A.R, .inl (Den.ext (A.s.ext fun _ z => R'.mine z) k2'), .inl k3, hr, h4⟩
      · exact h3'.elim
    · rename_i w
      refine r2_val R k1 k2 w fun O' H' R' s' => ⟨false, rfl, ?_⟩
      rw [if_neg (by decide)]
      exact h _ O' H' R' (.bl false) s' (fun a z => z) fun z => nomatch z
    · exact h.elim
  · exact h.elim
theorem s_chn {o1 o2 : CmpOp} (hu : X.A.units + 65 < cLine) (ha : PE X a (C.te X.K a')) (hb : PE X b (C.te X.K b')) (hc : PE X c (C.te X.K c')) (hm : lastMarks [o1, o2] [b, c] = false) : PE X (.Compare a [o1, o2] [b, c] pos) (C.te X.K (.chn o1 o2 a' b' c')) :=
  PE.imp (pe_chain (op_cmpF hu) (op_cmpF hu) ha hb hc hm) fun _ _ _ h => c_chn h
theorem t_chn {o1 o2 : CmpOp} (hu : X.A.units + 65 < cLine) (ha : PE X a (C.te X.K a')) (hb : PE X b (C.te X.K b')) (hc : PE X c (C.te X.K c')) (hm : lastMarks [o1, o2] [b, c] = false) : PT X (.Compare a [o1, o2] [b, c] pos) (C.tt X.K (.chn o1 o2 a' b' c')) :=
  PT.imp (pt_chain (op_cmpF hu) (op_cmpF hu) ha hb hc hm) fun _ _ _ h => c_chn (tst_te h)
/-! ### not, and, or, if -/
theorem tBind {K : PySem.W.Frag} {α' β' : Type} {kf : Kd α' β'} {f : Bool → Fm → Out α'} {m' : Fm → Out α'} {σ : L2.St} {H : Hp} {Q : β' → Hp → Prop} (h : tI K C kf m' σ H Q) (e : ∀ x, m' x = ((C.ev a' x).tst).bind f) :
    C.tt K a' σ H fun b H1 => tI K C kf (f b) σ H1 Q :=
  (tI.bind (k := kB) (h.eq e)).imp fun b H1 ⟨_, _, r, e1, O1, A, c⟩ => by
    have q : b = r := A.ok
    subst q
    exact A.tI c
theorem bl_end {K : PySem.W.Frag} {b : Bool} {σ : L2.St} {H : Hp} {Q : VK} (h : tI K C (C.k K) (fun e => .ok (.val (.bl b)) e) σ H Q) : Q (.bl b) H := by
  obtain ⟨O, e, R, h⟩ := h
  exact h.val R (.bl b)
theorem bB_end {K : PySem.W.Frag} {b : Bool} {σ : L2.St} {H : Hp} {Q : Bool → Hp → Prop} (h : tI K C kB (fun e => (Out.ok (Rv.val (.bl b)) e).tst) σ H Q) : Q b H := by
  obtain ⟨O, e, R, h⟩ := h
  exact h _ O H R rfl .refl (fun _ z => z) trivial
theorem s_not (ha : PE X a (C.te X.K a')) : PE X (.UnaryOp .Not a pos) (C.te X.K (.not a')) := by
  refine PE.imp (pe_not ha) fun σ H Q h => ?_
  refine (tst_te (tBind h fun _ => rfl)).imp fun x H1 ⟨c, e, q⟩ => ⟨c, e, bl_end q⟩
theorem t_not (ha : PT X a (C.tt X.K a')) : PT X (.UnaryOp .Not a pos) (C.tt X.K (.not a')) := by
  refine PT.imp (pt_not ha) fun σ H Q h => ?_
  exact (tBind (f := fun b e => (notR b e).tst) h fun x => by simp only [Ct.ev, ev, Out.tst]; rw [Out.bind_assoc]).imp fun b H1 q => bB_end q
abbrev Ct.tA (K : PySem.W.Frag) (C : Ct) (es : Es) : TE := tI K C (C.k K) (evAnd C.wd C.run es)
abbrev Ct.tO (K : PySem.W.Frag) (C : Ct) (es : Es) : TE := tI K C (C.k K) (evOr C.wd C.run es)
abbrev Ct.wA (K : PySem.W.Frag) (C : Ct) (es : Es) : TT := tI K C kB fun e => (evAnd C.wd C.run es e).tst
abbrev Ct.wO (K : PySem.W.Frag) (C : Ct) (es : Es) : TT := tI K C kB fun e => (evOr C.wd C.run es e).tst
variable {es : List Expr} {r' : Es}
theorem s_and1 (ha : PE X a (C.te X.K a')) : PE X (.BoolOp .And [a] pos) (C.tA X.K (.cons a' .nil)) := by
  refine PE.imp (pe_one ha) fun σ H Q h => ?_
  refine (tst_te (tBind (f := fun b e => blR b e) h fun _ => rfl)).imp fun x H1 ⟨c, e, q⟩ => ?_
  subst e
  exact bl_end q
theorem s_and2 (ha : PE X a (C.te X.K a')) (hb : PE X (.BoolOp .And (b :: es) pos) (C.tA X.K r')) (hr : r'.isNil = false) : PE X (.BoolOp .And (a :: b :: es) pos) (C.tA X.K (.cons a' r')) := by
  refine PE.imp (pe_and ha hb) fun σ H Q h => ?_
  refine (tst_te (tBind (f := fun b e => if b = true then evAnd C.wd C.run r' e else .ok (.val (.bl false)) e) h fun x => by simp only [evAnd, hr, Bool.false_eq_true, if_false])).imp fun x H1 ⟨c, e, q⟩ => ⟨c, e, ?_⟩
  cases c with
  | true => exact q
  | false => exact bl_end q
theorem s_or1 (ha : PE X a (C.te X.K a')) : PE X (.BoolOp .Or [a] pos) (C.tO X.K (.cons a' .nil)) := by
  refine PE.imp (pe_one ha) fun σ H Q h => ?_
  refine (tst_te (tBind (f := fun b e => blR b e) h fun _ => rfl)).imp fun x H1 ⟨c, e, q⟩ => ?_
  subst e
  exact bl_end q
theorem s_or2 (ha : PE X a (C.te X.K a')) (hb : PE X (.BoolOp .Or (b :: es) pos) (C.tO X.K r')) (hr : r'.isNil = false) : PE X (.BoolOp .Or (a :: b :: es) pos) (C.tO X.K (.cons a' r')) := by
  refine PE.imp (pe_or ha hb) fun σ H Q h => ?_
  refine (tst_te (tBind (f := fun b e => if b = true then .ok (.val (.bl true)) e else evOr C.wd C.run r' e) h fun x => by simp only [evOr, hr, Bool.false_eq_true, if_false])).imp fun x H1 ⟨c, e, q⟩ => ⟨c, e, ?_⟩
  cases c with
  | true => exact bl_end q
  | false => exact q
theorem w_and1 (ha : PT X a (C.tt X.K a')) : PW X (.BoolOp .And [a] pos) (C.wA X.K (.cons a' .nil)) := by
  refine PW.imp (pw_and1 ha) fun σ H Q h => ?_
  exact (tBind (f := fun b e => (blR b e).tst) h fun x => by simp only [evAnd, Es.isNil, if_true, Out.tst]; rw [Out.bind_assoc]).imp fun b H1 q => bB_end q
theorem w_and2 (ha : PT X a (C.tt X.K a')) (hb : PW X (.BoolOp .And (b :: es) pos) (C.wA X.K r')) (hr : r'.isNil = false) : PW X (.BoolOp .And (a :: b :: es) pos) (C.wA X.K (.cons a' r')) := by
  refine PW.imp (pw_and ha hb) fun σ H Q h => ?_
  refine (tBind (f := fun b e => (if b = true then evAnd C.wd C.run r' e else .ok (.val (.bl false)) e).tst) h fun x => by simp only [evAnd, hr, Bool.false_eq_true, if_false, Out.tst]; rw [Out.bind_assoc]).imp fun c H1 q => ?_
  cases c with
  | true => exact q
  | false => exact bB_end q
theorem w_or1 (ha : PT X a (C.tt X.K a')) : PW X (.BoolOp .Or [a] pos) (C.wO X.K (.cons a' .nil)) := by
  refine PW.imp (pw_or1 ha) fun σ H Q h => ?_
  exact (tBind (f := fun b e => (blR b e).tst) h fun x => by simp only [evOr, Es.isNil, if_true, Out.tst]; rw [Out.bind_assoc]).imp fun b H1 q => bB_end q
theorem w_or2 (ha : PT X a (C.tt X.K a')) (hb : PW X (.BoolOp .Or (b :: es) pos) (C.wO X.K r')) (hr : r'.isNil = false) : PW X (.BoolOp .Or (a :: b :: es) pos) (C.wO X.K (.cons a' r')) := by
  refine PW.imp (pw_or ha hb) fun σ H Q h => ?_
  refine (tBind (f := fun b e => (if b = true then .ok (.val (.bl true)) e else evOr C.wd C.run r' e).tst) h fun x => by simp only [evOr, hr, Bool.false_eq_true, if_false, Out.tst]; rw [Out.bind_assoc]).imp fun c H1 q => ?_
  cases c with
  | true => exact bB_end q
  | false => exact q
theorem s_ife (hc : PT X c (C.tt X.K c')) (ha : PE X a (C.te X.K a')) (hb : PE X b (C.te X.K b')) : PE X (.IfExp c a b pos) (C.te X.K (.ife c' a' b')) := by
  refine PE.imp (pe_ifExp hc ha hb) fun σ H Q h => ?_
  refine (tBind (f := fun t e => if t = true then C.ev a' e else C.ev b' e) h fun _ => rfl).imp fun t H1 q => ?_
  cases t with
  | true => exact q
  | false => exact q
/-! ### lists of arguments, displays -/
theorem RsOk.news {K : PySem.W.Frag} {cn : Nat → Addr} {O : Addr → Prop} {H : Hp} {σ : L2.St} {e : Fm} {vs : List V} {rs : List Rv} (h : RsOk K cn O H σ e vs rs) {j : Nat} {u : V} {q : Rv} (hu : vs[j]? = some u) (hq : rs[j]? = some q) (n : isNew q = true) : ∃ a, u = .ref a ∧ O a ∧ ¬ Mine e σ a ∧ ∃ d, Cont K cn O H a d := by
  obtain ⟨v, hv, k⟩ := h.get hq
  rw [hu] at hv
  cases hv
  cases q with
  | fresh d => obtain ⟨a, e, o, c, n⟩ := k; exact ⟨a, e, o, n, d, c⟩
  | give d => obtain ⟨a, e, o, c, n⟩ := k; exact ⟨a, e, o, n, d, c⟩
  | _ => cases n
theorem RvOk.news {K : PySem.W.Frag} {cn : Nat → Addr} {O : Addr → Prop} {H : Hp} {σ : L2.St} {e : Fm} {v : V} {r : Rv} (h : RvOk K cn O H σ e v r) (n : isNew r = true) : ∃ a, v = .ref a ∧ O a ∧ ¬ Mine e σ a ∧ ∃ d, Cont K cn O H a d := by
  cases r with
  | fresh d => obtain ⟨a, e, o, c, n⟩ := h; exact ⟨a, e, o, n, d, c⟩
  | give d => obtain ⟨a, e, o, c, n⟩ := h; exact ⟨a, e, o, n, d, c⟩
  | _ => cases n
theorem s_nil : PA X [] (C.ta X.K .nil) := PA.imp pa_nil fun σ H Q ⟨O, e, R, h⟩ => h [] O H R .nil .refl (fun _ z => z) fun j u q a => by simp at a
theorem s_cons (ha : PE X a (C.te X.K a')) (hr : PA X es (C.ta X.K r')) (hs : starEach (a :: es) X.env = (false, eval a X.env) :: starEach es X.env) : PA X (a :: es) (C.ta X.K (.cons a' r')) := by
  refine PA.imp (pa_cons ha hr hs) fun σ H Q h => ?_
  refine (tI.two (k := C.k X.K) (k2 := C.ks X.K) (m2 := fun _ => evs C.wd C.run r') (f := consR) h).imp fun v H1 ⟨O, e, r, e1, O1, A, c⟩ => ⟨O1, e1, A.R, c.imp fun vs H2 ⟨rs, e2, O2, B, c2⟩ => ?_⟩
  have k1 : RvOk X.K C.cn O2 H2 σ e2 v r := RvOk.step A.R B.s B.m A.ok
  refine c2 (v :: vs) O2 H2 B.R (.cons k1 (fun a n ea j u hu q hq nq eu => ?_) B.ok) (A.s.trans B.s fun x z => .inl (A.m x z)) (fun a z => A.m a (B.m a z)) fun j u q hu hq => ?_
  · subst ea eu
    obtain ⟨a2, ea, o, nm, d, c⟩ := RvOk.news A.ok n
    cases ea
    rcases B.new j _ q hu hq nq a rfl with z | z
    · exact nm z
    · obtain ⟨ob, hob⟩ := c.there
      rw [hob] at z
      cases z
  · cases j with
    | zero =>
      simp at hu hq
      subst hu hq
      exact A.new
    | succ j => exact (B.new j u q (by simpa using hu) (by simpa using hq)).sh (fun x z => A.m x z) A.s.back
end
end
end PV
/-! ## rules: displays, subscripts, fields -/
namespace PV
open PySem L2 PyProof.Rows
noncomputable section
section
variable {K : PySem.W.Frag} {C : Ct} {σ : L2.St} {H H0 : Hp} {O O0 : Addr → Prop} {e : Fm} {M : Addr → Prop} {cn : Nat → Addr} {L : Nat → Addr}
theorem Ext.trans {O1 O2 : Addr → Prop} {H1 H2 : Hp} (a : Ext O H O1 H1) (b : Ext O1 H1 O2 H2) : Ext O H O2 H2 :=
  ⟨fun x o h n => let ⟨o1, h1, s1⟩ := a.keep x o h n; let ⟨o2, h2, s2⟩ := b.keep x o1 h1 (a.own x o h n); ⟨o2, h2, s1.trans s2⟩, fun x o h n => let ⟨o1, h1, _⟩ := a.keep x o h n; b.own x o1 h1 (a.own x o h n)⟩
theorem Ext.rfl' : Ext O H O H := ⟨fun _ o h _ => ⟨o, h, .rfl'⟩, fun _ _ _ h => h⟩
theorem RvOk.freeze {a : Addr} {v : V} {r : Rv} (h : RvOk K cn O H σ e v r) (n : isNew r = true → v ≠ .ref a) : RvOk K cn (fun b => O b ∧ b ≠ a) H σ e v r := by
  cases r with
  | val d => exact Den.ext Ext.freeze h
  | fresh d => obtain ⟨b, rfl, o, c, m⟩ := h; exact ⟨b, rfl, ⟨o, fun q => n rfl (by rw [q])⟩, c.ext Ext.freeze fun _ q => q, m⟩
  | give d => obtain ⟨b, rfl, o, c, m⟩ := h; exact ⟨b, rfl, ⟨o, fun q => n rfl (by rw [q])⟩, c.ext Ext.freeze fun _ q => q, m⟩
  | bor i => exact h
  | lent i => exact h
theorem RsOk.freeze {a : Addr} {vs : List V} {rs : List Rv} (h : RsOk K cn O H σ e vs rs) (n : ∀ (j : Nat) (u : V), vs[j]? = some u → ∀ (q : Rv), rs[j]? = some q → isNew q = true → u ≠ .ref a) : RsOk K cn (fun b => O b ∧ b ≠ a) H σ e vs rs := by
  induction h with
  | nil => exact .nil
  | cons h ap _ ih => exact .cons (h.freeze (n 0 _ rfl _ rfl)) ap (ih fun j u hu q hq => n (j + 1) u (by simpa using hu) q (by simpa using hq))
/-- a kept answer is a value that stays; what else is someone's own stays so -/
theorem fz_ok2 {v : V} {r : Rv} {d : D} (R : Rel K cn L O e σ H) (s : Step O0 H0 O H M) (k : RvOk K cn O H σ e v r) (n : RvNew H0 M v r) (q : r.fz = some d) :
    ∃ O2, Rel K cn L O2 e σ H ∧ Step O0 H0 O2 H M ∧ Den K cn O2 H v d ∧ Ext O H O2 H ∧ ∀ b, O b → (isNew r = true → v ≠ .ref b) → O2 b := by
  cases r with
  | val x => cases q; exact ⟨O, R, s, k, Ext.rfl', fun _ z _ => z⟩
  | fresh x =>
    cases q
    obtain ⟨a, rfl, o, c, m⟩ := k
    exact ⟨_, R.freeze m, Step.freeze (n rfl a rfl) s, (c.ext Ext.freeze fun _ q => q).den fun z => z.2 rfl, Ext.freeze, fun b ob ne => ⟨ob, fun z => ne rfl (by rw [z])⟩⟩
  | _ => cases q
/-- a kept answer is a value that stays -/
theorem fz_ok {v : V} {r : Rv} {d : D} (R : Rel K cn L O e σ H) (s : Step O0 H0 O H M) (k : RvOk K cn O H σ e v r) (n : RvNew H0 M v r) (q : r.fz = some d) :
    ∃ O2, Rel K cn L O2 e σ H ∧ Step O0 H0 O2 H M ∧ Den K cn O2 H v d ∧ Ext O H O2 H := by
  obtain ⟨O2, a, b, c, e, _⟩ := fz_ok2 R s k n q
  exact ⟨O2, a, b, c, e⟩
theorem keep_ok2 : ∀ {rs : List Rv} {vs : List V} {ds : List D} {O : Addr → Prop}, Rel K cn L O e σ H → Step O0 H0 O H M → RsOk K cn O H σ e vs rs → RsNew H0 M vs rs → keep rs = some ds →
    ∃ O2, Rel K cn L O2 e σ H ∧ Step O0 H0 O2 H M ∧ DenL K cn O2 H vs ds ∧ Ext O H O2 H ∧ ∀ b, O b → (∀ (j : Nat) (q : Rv), rs[j]? = some q → isNew q = true → vs[j]? ≠ some (.ref b)) → O2 b
  | [], _, ds, O, R, s, .nil, n, q => by
    simp only [keep, Option.some.injEq] at q
    subst q
    exact ⟨O, R, s, .nil, Ext.rfl', fun _ z _ => z⟩
  | r :: rs, _, ds, O, R, s, .cons (v := v) (vs := vs) h ap t, n, q => by
    simp only [keep] at q
    split at q
    · rename_i d ds' q1 q2
      cases q
      have nh : RvNew H0 M v r := n 0 v r rfl rfl
      have nt : RsNew H0 M vs rs := fun j u w hu hw => n (j + 1) u w (by simpa using hu) (by simpa using hw)
      cases r with
      | val x =>
        cases q1
        obtain ⟨O2, R2, s2, dl, x2, kp⟩ := keep_ok2 R s t nt q2
        exact ⟨O2, R2, s2, .cons (Den.ext x2 h) dl, x2, fun b ob nb => kp b ob fun j w hj nw => by simpa using nb (j + 1) w (by simpa using hj) nw⟩
      | fresh x =>
        cases q1
        obtain ⟨a, rfl, o, c, m⟩ := h
        obtain ⟨O2, R2, s2, dl, x2, kp⟩ := keep_ok2 (R.freeze m) (Step.freeze (nh rfl a rfl) s) (t.freeze (a := a) fun j u hu w hw nw => ap a rfl rfl j u hu w hw nw) nt q2
        exact ⟨O2, R2, s2, .cons (Den.ext x2 ((c.ext Ext.freeze fun _ q => q).den fun z => z.2 rfl)) dl, Ext.freeze.trans x2, fun b ob nb => kp b ⟨ob, fun z => nb 0 _ rfl rfl (by rw [z]; rfl)⟩ fun j w hj nw => by simpa using nb (j + 1) w (by simpa using hj) nw⟩
      | _ => cases q1
    · cases q
theorem keep_ok {rs : List Rv} {vs : List V} {ds : List D} {O : Addr → Prop} (R : Rel K cn L O e σ H) (s : Step O0 H0 O H M) (k : RsOk K cn O H σ e vs rs) (n : RsNew H0 M vs rs) (q : keep rs = some ds) :
    ∃ O2, Rel K cn L O2 e σ H ∧ Step O0 H0 O2 H M ∧ DenL K cn O2 H vs ds ∧ Ext O H O2 H := by
  obtain ⟨O2, a, b, c, d, _⟩ := keep_ok2 R s k n q
  exact ⟨O2, a, b, c, d⟩
variable {α' β' : Type} {kf : Kd α' β'}
/-- a list of answers that are kept, then the rest -/
theorem keepE {m : Fm → Out (List Rv)} {f : List Rv → Fm → Out α'} {m' : Fm → Out α'} {Q : β' → Hp → Prop} (h : tI K C kf m' σ H Q) (e : ∀ x, m' x = (m x).bind f) :
    tI K C (C.ks K) m σ H fun vs H1 => ∃ rs e1, (∃ O1, Rel K C.cn C.L O1 e1 σ H1 ∧ RsOk K C.cn O1 H1 σ e1 vs rs ∧ Cn K C.cn C.L kf (C.xw K σ) O1 H1 (Mine e1 σ) σ (f rs e1) Q) ∧
      ∀ ds, keep rs = some ds → ∃ O1, Rel K C.cn C.L O1 e1 σ H1 ∧ DenL K C.cn O1 H1 vs ds ∧ Cn K C.cn C.L kf (C.xw K σ) O1 H1 (Mine e1 σ) σ (f rs e1) Q :=
  (tI.bind (k := C.ks K) (h.eq e)).imp fun vs H1 ⟨O, e, rs, e1, O1, A, c⟩ => ⟨rs, e1, ⟨O1, A.R, A.ok, A.sh c⟩, fun ds q => by
    obtain ⟨O2, R2, s2, dl, _⟩ := keep_ok A.R A.s A.ok A.new q
    exact ⟨O2, R2, dl, c.shift s2 A.m⟩⟩
/-- one answer that is kept, then the rest -/
theorem fzE {m : Fm → Out Rv} {f : Rv → Fm → Out α'} {m' : Fm → Out α'} {Q : β' → Hp → Prop} (h : tI K C kf m' σ H Q) (e : ∀ x, m' x = (m x).bind f) :
    tI K C (C.k K) m σ H fun v H1 => ∃ r e1, (∃ O1, Rel K C.cn C.L O1 e1 σ H1 ∧ RvOk K C.cn O1 H1 σ e1 v r ∧ Cn K C.cn C.L kf (C.xw K σ) O1 H1 (Mine e1 σ) σ (f r e1) Q) ∧
      ∀ d, r.fz = some d → ∃ O1, Rel K C.cn C.L O1 e1 σ H1 ∧ Den K C.cn O1 H1 v d ∧ Cn K C.cn C.L kf (C.xw K σ) O1 H1 (Mine e1 σ) σ (f r e1) Q :=
  (tI.bind (k := C.k K) (h.eq e)).imp fun v H1 ⟨O, e, r, e1, O1, A, c⟩ => ⟨r, e1, ⟨O1, A.R, A.ok, A.sh c⟩, fun d q => by
    obtain ⟨O2, R2, s2, dl, _⟩ := fz_ok A.R A.s A.ok A.new q
    exact ⟨O2, R2, dl, c.shift s2 A.m⟩⟩
end
section
variable {X : Cx} {C : Ct} {pos : Pos} {a b c : Expr} {a' b' c' : E} {es : List Expr} {r' : Es}
theorem s_tup {x1 : Nat} (h : PA X es (C.ta X.K r')) : PE X (.Tuple es x1 pos) (C.te X.K (.tup r')) := by
  refine PE.imp (pe_tup h) fun σ H Q h => (keepE h fun _ => rfl).imp fun vs H1 ⟨rs, e1, ⟨O1, R1, k1, c1⟩, kp⟩ => ?_
  cases q : keep rs with
  | none => simp only [tupR, q] at c1; exact c1.elim
  | some ds =>
    obtain ⟨O2, R2, dl, c2⟩ := kp ds q
    simp only [tupR, q] at c2
    split at c2
    · rename_i hl
      exact ⟨by rw [dl.length]; exact hl, fun p n => c2.newTup R2 dl p n⟩
    · exact c2.elim
theorem s_lst (h : PA X es (C.ta X.K r')) : PE X (.List es pos) (C.te X.K (.lst r')) := by
  refine PE.imp (pe_lst h) fun σ H Q h => (keepE h fun _ => rfl).imp fun vs H1 ⟨rs, e1, ⟨O1, R1, k1, c1⟩, kp⟩ => ?_
  cases q : keep rs with
  | none => simp only [lstR, q] at c1; exact c1.elim
  | some ds =>
    obtain ⟨O2, R2, dl, c2⟩ := kp ds q
    simp only [lstR, q] at c2
    split at c2
    · rename_i hl
      exact ⟨by rw [dl.length]; exact hl, fun p n => c2.newLst R2 dl p n⟩
    · exact c2.elim
/-! ### subscripts -/
theorem DenL.get {K : PySem.W.Frag} {cn : Nat → Addr} {O : Addr → Prop} {H : Hp} : ∀ {vs : List V} {ds : List D} {i : Nat} {d : D}, DenL K cn O H vs ds → ds[i]? = some d → ∃ v, vs[i]? = some v ∧ Den K cn O H v d
  | _, _, i, _, .nil, h => by simp at h
  | _, _, 0, _, .cons h r, q => by simp at q; subst q; exact ⟨_, rfl, h⟩
  | _, _, i + 1, _, .cons h r, q => by simpa using DenL.get (i := i) r (by simpa using q)
theorem DenL.at {K : PySem.W.Frag} {cn : Nat → Addr} {O : Addr → Prop} {H : Hp} {vs : List V} {ds : List D} {i : Int} {d : D} (h : DenL K cn O H vs ds) (q : atI ds i = some d) : ∃ v, atI vs i = some v ∧ Den K cn O H v d := by
  unfold atI at q ⊢
  rw [h.length]
  cases w : ixN ds.length i with
  | none => rw [w] at q; cases q
  | some j =>
    rw [w] at q
    simp only [Option.bind_some] at q ⊢
    exact h.get q
theorem ix_all (hu : X.A.units + 1 < cLine) : IxR X (fun x y H Q => ∃ O e σ dx dy d, Rel X.K C.cn C.L O e σ H ∧ Rd1 X.K C O e σ H x dx ∧ Den X.K C.cn O H y dy ∧ idxD dx dy = some d ∧ Cn X.K C.cn C.L (C.k X.K) (C.xw X.K σ) O H (Mine e σ) σ (.ok (.val d) e) Q) := by
  intro value slice pins s σ' H x y v u Q I rx ry h hsub
  obtain ⟨O, e, σ, dx, dy, d, R, h1, h2, hf, hc⟩ := h
  unfold idxD at hf
  split at hf
  · obtain ⟨p, vs, rfl, ht, dl⟩ := h1.tup
    cases h2
    obtain ⟨w, hw, dw⟩ := dl.at hf
    exact ix_tup value slice pins s σ' H _ _ v u Q I rx ry ⟨p, vs, _, w, rfl, rfl, ht.sq, hw, hc.val R dw⟩ hsub
  · obtain ⟨p, vs, rfl, ht, dl⟩ := h1.lst
    cases h2
    obtain ⟨w, hw, dw⟩ := dl.at hf
    exact ix_list value slice pins s σ' H _ _ v u Q I rx ry ⟨p, vs, _, w, rfl, rfl, SqL.of ht, hw, hc.val R dw⟩ hsub
  · obtain ⟨p, vs, rfl, ht, dl⟩ := h1.fro
    cases h2
    obtain ⟨w, hw, dw⟩ := dl.at hf
    exact ix_list value slice pins s σ' H _ _ v u Q I rx ry ⟨p, vs, _, w, rfl, rfl, ht.sq, hw, hc.val R dw⟩ hsub
  · split at hf
    · rename_i hl
      simp only [Option.map_eq_some_iff] at hf
      obtain ⟨c, hc1, rfl⟩ := hf
      obtain rfl := h1.str
      cases h2
      exact ix_str value slice pins s σ' H _ _ v u Q I rx ry ⟨_, _, c, rfl, rfl, of_decide_eq_true hl, hc1, hc.val R (.str _)⟩ hsub
    · cases hf
  · rename_i t kvs k
    split at hf
    · rename_i ok
      obtain ⟨p, o, rfl, g, _, w⟩ := h1.dget h2 ok
      rcases w with ⟨_, w⟩ | ⟨w, d', rfl, hd, dw⟩
      · rw [w] at hf; cases hf
      · rw [hf] at hd
        cases hd
        cases rx
        refine tail_any (dict_typeIs I g) PySem.F.slot_dict_getitem.lookup (d_getItem hu I g ry fun w' s' I' rw' => ⟨w, H, I', rw', hc.val R dw⟩) hsub
    · cases hf
  · cases hf
end
end
end PV
/-! ## rules: subscripts, slices, fields -/
namespace PV
open PySem L2 PyProof.Rows
noncomputable section
section
variable {prog : Program} {w : World} {A : Around} {E : Value → Shared → Prop} {s : Shared}
theorem revAdj (n : Nat) : Builtin.Slice.sliceAdjust none none (-1) (n : Int) = ((n : Int) - 1, -1) := rfl
theorem revPl (n : Nat) : Builtin.Slice.slicePlaces ((n : Int) - 1) (-1) (-1) = n := by
  unfold Builtin.Slice.slicePlaces
  rw [if_neg (by decide)]
  by_cases h : (n : Int) - 1 > -1
  · rw [if_pos h]
    have : ((n : Int) - 1 - -1 - 1) / (- -1) + 1 = n := by
      rw [show (- -1 : Int) = 1 by decide, Int.ediv_one]; omega
    rw [this]
    exact Int.toNat_natCast n
  · rw [if_neg h]
    have : n = 0 := by omega
    subst this
    rfl
theorem fm_map {α β : Type} {f : α → Option β} {g : α → β} : ∀ {l : List α}, (∀ k ∈ l, f k = some (g k)) → l.filterMap f = l.map g
  | [], _ => rfl
  | k :: l, h => by
    rw [List.filterMap_cons, h k List.mem_cons_self, List.map_cons, fm_map fun j hj => h j (List.mem_cons_of_mem _ hj)]
theorem revPick (xs : Array Value) : ((List.range xs.size).filterMap fun (k : Nat) => xs[((xs.size : Int) - 1 + (k : Int) * (-1)).toNat]?).toArray = xs.toList.reverse.toArray := by
  congr 1
  rw [fm_map (g := fun k => xs.toList.reverse.getD k .none) fun k hk => ?_]
  · apply List.ext_getElem?
    intro i
    rw [List.getElem?_map]
    by_cases hi : i < xs.size
    · rw [List.getElem?_range hi]
      simp only [Option.map_some, List.getD_eq_getElem?_getD]
      have h2 : i < xs.toList.reverse.length := by simpa using hi
      rw [List.getElem?_eq_getElem h2]
      rfl
    · rw [List.getElem?_eq_none (by simpa using hi), List.getElem?_eq_none (by simpa using hi)]
      rfl
  · have hk' : k < xs.size := List.mem_range.mp hk
    have e1 : ((xs.size : Int) - 1 + (k : Int) * (-1)).toNat = xs.size - 1 - k := by omega
    have h2 : k < xs.toList.reverse.length := by simpa using hk'
    rw [e1, List.getD_eq_getElem?_getD, List.getElem?_eq_getElem h2, Array.getElem?_eq_getElem (by omega)]
    simp [List.getElem_reverse]
/-- a tuple turned round -/
theorem getItem_tuple_back {t sl : Addr} {items : Array Value} {vl vu vk : Value} {Q : Value → Shared → Prop} (ht : IsTup s.heap t items) (hs : s.heap.IsSliceOf sl vl vu vk) (pl : IsPart vl none) (pu : IsPart vu none) (pk : IsPart vk (some (-1)))
    (h : Q (.ref s.heap.objs.size) { s with heap := s.heap.push { cls := .type "tuple", data := .seq items.toList.reverse.toArray } }) (hsz : items.size ≤ sizeLine) : wpAny (model prog w) A (getItem (.ref t) (.ref sl)) Q E s := by
  have hz : sizeOk (.seq items.toList.reverse.toArray) := by
    show items.toList.reverse.toArray.size ≤ sizeLine
    rw [List.size_toArray, List.length_reverse, Array.length_toList]
    exact hsz
  obtain ⟨os, hos, hcs, hds⟩ := id hs
  unfold getItem
  try with_reducible refine wpAny_holding ?_
  first | refine wpAny_bind (wpAny_pure ?_) | skip
  refine wpAny_bind (wpAny_sequenceKey ht.typeIs (by decide)
    (wpAny_bind (wpAny_callSpecial?_slot (name := Str.ofString "__getitem__") ht.typeIs PyProof.Rows.slot_tuple_getitem (wpAny_call_entry PyProof.Rows.slot_tuple_getitem ht.typeIs entry_tuple_getitem ?_ (args_tuple_getitem _ _)))))
  show wpAny _ _ (Builtin.Tuple.tupleItemsOf (.ref t) >>= _) _ _ s
  refine wpAny_bind (tupleItemsOf_ ht (wpAny_bind (wpAny_typeOf (show s.TypeIs (.ref sl) "slice" from ⟨os, hos, hcs⟩) ?_)))
  rw [if_pos (by decide)]
  have ap : ∀ {Q' : Int × Int × Nat → Shared → Prop} {E' : Value → Shared → Prop}, Q' ((items.size : Int) - 1, -1, items.size) s → wpAny (model prog w) A.in1 (Builtin.Slice.sliceApplied (.ref sl) (pure (items.size : Int))) Q' E' s := by
    intro Q' E' hq
    unfold Builtin.Slice.sliceApplied Builtin.Slice.sliceFields
    refine wpAny_bind (wpAny_bind (wpAny_field hos hds (x := vl) rfl (wpAny_bind (wpAny_field hos hds (x := vu) rfl (wpAny_bind (wpAny_field hos hds (x := vk) rfl (wpAny_pure ?_)))))))
    refine wpAny_bind (HT.slicePart_ pk ?_)
    show wpAny _ _ (if ((-1 : Int) == 0) = true then _ else _) _ _ s
    rw [if_neg (by decide)]
    refine wpAny_bind (HT.slicePart_ pl (wpAny_bind (HT.slicePart_ pu (wpAny_bind (wpAny_pure ?_)))))
    show wpAny _ _ (match Builtin.Slice.sliceAdjust none none (-1) (items.size : Int) with | (lo, hi) => pure (lo, (-1 : Int), Builtin.Slice.slicePlaces lo hi (-1))) _ _ s
    rw [revAdj]
    show wpAny _ _ (pure ((items.size : Int) - 1, (-1 : Int), Builtin.Slice.slicePlaces ((items.size : Int) - 1) (-1) (-1))) _ _ s
    rw [revPl]
    exact wpAny_pure hq
  refine wpAny_bind (ap ?_)
  show wpAny _ _ (if ((items.size : Int) - 1 == 0 && (-1 : Int) == 1 && items.size == items.size) = true then _ else _) _ _ s
  rw [if_neg (by intro q; rw [Bool.and_eq_true, Bool.and_eq_true] at q; exact absurd q.1.2 (by decide)), revPick]
  first
    | exact wpAny_bind (m := Builtin.Tuple.tupleExact _) (wpAny_newObj_type (wpAny_pure ⟨_, rfl, wpAny_pure h⟩) hz)
    | exact wpAny_bind (m := Builtin.Tuple.tupleExact _) (wpAny_newObj_type (wpAny_bind (wpAny_pure (wpAny_pure ⟨_, rfl, wpAny_pure h⟩))) hz)
    | exact wpAny_bind (wpAny_bind (m := Builtin.Tuple.tupleExact _) (wpAny_newObj_type (wpAny_pure (wpAny_pure ⟨_, rfl, wpAny_pure h⟩)) hz))
    | exact wpAny_bind (wpAny_bind (m := Builtin.Tuple.tupleExact _) (wpAny_newObj_type (wpAny_pure ⟨_, rfl, wpAny_pure h⟩) hz))
end
section
variable {X : Cx} {C : Ct} {pos : Pos} {a b c : Expr} {a' b' c' : E} {es : List Expr} {r' : Es}
/-- t[::-1], t a tuple or a list -/
def tRev (K : PySem.W.Frag) (te : TE) : TE := fun σ H Q => te σ H fun x H1 => ∃ a xs, x = .ref a ∧ ((SqT K H1 a xs ∧ ∀ p, H1 p = none → Q (.ref p) (upd H1 p (.tup xs.reverse))) ∨ (SqL K H1 a xs ∧ ∀ p, H1 p = none → Q (.ref p) (upd H1 p (.lst xs.reverse))))
theorem pe_rev {k : Nat} {p1 p2 p3 : Pos} {te : TE} (he : PE X a te) : PE X (.Subscript a (.Slice none none (some (.UnaryOp .USub (.Constant (.int 1) k p1) p2)) p3) pos) (tRev X.K te) := by
  refine ⟨fun pins s σ H Q I h => ?_⟩
  refine Subscript_ (thn (he.run pins s σ H _ I h) fun v s1 ⟨x, H1, I1, r1, t, xs, ex, hx⟩ => ?_)
  subst ex
  cases r1
  have hst : PO X (some (.UnaryOp .USub (.Constant (.int 1) k p1) p2)) (tPart (tUn (rU fun i => .int (-i)) (tC (.int 1)))) := po_some (pe_un un_neg pe_int)
  refine wpAny_Slice (thn (po_none.run pins s1 σ H1 (fun o H2 => o = none ∧ H2 = H1) I1 ⟨rfl, rfl⟩) fun vl s2 ⟨l, H2, I2, pl, el, e2⟩ => ?_)
  subst el e2
  refine thn (po_none.run pins s2 σ H2 (fun o H3 => o = none ∧ H3 = H2) I2 ⟨rfl, rfl⟩) fun vu s3 ⟨u, H3, I3, pu, eu, e3⟩ => ?_
  subst eu e3
  refine thn (hst.run pins s3 σ H3 (fun o H4 => o = some (-1) ∧ H4 = H3) I3 ⟨1, rfl, -1, rfl, rfl, rfl⟩) fun vs s4 ⟨o, H4, I4, ps, eo, e4⟩ => ?_
  subst eo e4
  have I5 : Inv X pins σ H4 { s4 with heap := s4.heap.push { cls := .type "slice", data := .fields #[vl, vu, vs] } } := I4.kept (t' := s4.toks) fun b ob q => Heap.get?_push_of_some _ q
  show wpAny (model X.prog X.w) X.A (subscriptTail a (.Slice none none (some (.UnaryOp .USub (.Constant (.int 1) k p1) p2)) p3) (.ref t) (.ref s4.heap.objs.size)) (EP X pins σ Q) X.xe { s4 with heap := s4.heap.push { cls := .type "slice", data := .fields #[vl, vu, vs] } }
  rcases hx with ⟨hx, q⟩ | ⟨hx, q⟩
  · obtain ⟨its, r, ht, hz⟩ := I5.tuple hx
    have hlen := r.length
    refine tail_any (ops := [.ref t, .ref s4.heap.objs.size]) ht.typeIs (PyProof.Rows.slot_tuple_getitem.lookup) ?_ (by with_unfolding_all rfl)
    refine getItem_tuple_back ht (Heap.IsSliceOf.new _ vl vu vs) pl pu ps ?_ (by rw [List.size_toArray]; omega)
    refine ⟨.ref _, _, I5.laid (t' := s4.toks) (o := .tup xs.reverse) (fun b ob q => Heap.get?_push_of_some _ q) (Nat.le_refl _) ?_, rfl, q _ (I5.hok.fresh (Nat.le_refl _))⟩
    exact ⟨by rw [List.length_reverse]; exact hz, _, r.reverse, ⟨_, Heap.get?_push_size _ rfl, rfl, _, rfl⟩⟩
  · obtain ⟨its, r, ht, hz⟩ := I5.list hx
    have hlen := r.length
    refine tail_any (ops := [.ref t, .ref s4.heap.objs.size]) ht.isList.typeIs (PySem.slot_list_getitem.lookup) ?_ (by with_unfolding_all rfl)
    refine wpAny_getItem_list_slice ht.isList (Heap.IsSliceOf.new _ vl vu vs) pl pu ps (by decide) ?_ (by rw [List.size_toArray]; omega)
    rw [PySem.W.krv_pick]
    refine ⟨.ref _, _, I5.laid (t' := s4.toks) (o := .lst xs.reverse) (fun b ob q => Heap.get?_push_of_some _ q) (Nat.le_refl _) ?_, rfl, q _ (I5.hok.fresh (Nat.le_refl _))⟩
    exact ⟨by rw [List.length_reverse]; exact hz, _, 0, r.reverse, Heap.get?_push_size _ rfl⟩
theorem DenL.reverse {K : PySem.W.Frag} {cn : Nat → Addr} {O : Addr → Prop} {H : Hp} : ∀ {vs : List V} {ds : List D}, DenL K cn O H vs ds → DenL K cn O H vs.reverse ds.reverse
  | _, _, .nil => .nil
  | _, _, .cons h r => by
    rw [List.reverse_cons, List.reverse_cons]
    exact (DenL.reverse r).append (.cons h .nil)
theorem DenL.take {K : PySem.W.Frag} {cn : Nat → Addr} {O : Addr → Prop} {H : Hp} : ∀ {vs : List V} {ds : List D} (n : Nat), DenL K cn O H vs ds → DenL K cn O H (vs.take n) (ds.take n)
  | _, _, 0, _ => .nil
  | _, _, _ + 1, .nil => .nil
  | _, _, n + 1, .cons h r => .cons h (DenL.take n r)
theorem DenL.drop {K : PySem.W.Frag} {cn : Nat → Addr} {O : Addr → Prop} {H : Hp} : ∀ {vs : List V} {ds : List D} (n : Nat), DenL K cn O H vs ds → DenL K cn O H (vs.drop n) (ds.drop n)
  | _, _, 0, h => h
  | _, _, _ + 1, .nil => .nil
  | _, _, n + 1, .cons _ r => DenL.drop n r
theorem DenL.cut {K : PySem.W.Frag} {cn : Nat → Addr} {O : Addr → Prop} {H : Hp} {vs : List V} {ds : List D} (h : DenL K cn O H vs ds) (lo hi : Option Int) : DenL K cn O H (cutV vs lo hi) (cut ds lo hi) := by
  unfold cutV PV.cut
  rw [h.length]
  exact (h.drop _).take _
theorem s_idx (hu : X.A.units + 1 < cLine) (ha : PE X a (C.te X.K a')) (hb : PE X b (C.te X.K b')) (hs : PlainIx b) : PE X (.Subscript a b pos) (C.te X.K (.idx a' b')) := by
  refine PE.imp (pe_ix (ix_all (C := C) hu) ha hb hs) fun σ H Q h => ?_
  refine (tI.two (k := C.k X.K) (k2 := C.k X.K) (m2 := fun _ => C.ev b') (f := idxR) h).imp fun v H1 ⟨O, e, r, e1, O1, A, c⟩ => ⟨O1, e1, A.R, c.imp fun u H2 ⟨q, e2, O2, B, c2⟩ => ?_⟩
  have k1 : RvOk X.K C.cn O2 H2 σ e2 v r := RvOk.step A.R B.s B.m A.ok
  unfold idxR at c2
  split at c2
  · rename_i dx dy q1 q2
    have nm : RvNew H (Mine e σ) u q := RvNew.sh A.m A.s.back B.new
    obtain ⟨O3, R3, s3, dn, x3⟩ := fz_ok B.R (A.s.trans B.s fun x z => .inl (A.m x z)) B.ok nm q2
    obtain ⟨rr, hr, c3⟩ := Cn.of_some c2
    simp only [Option.map_eq_some_iff] at hr
    obtain ⟨d, hd, rfl⟩ := hr
    have rd : Rd1 X.K C O2 e2 σ H2 v dx := RvOk.rd B.R k1 q1
    have rd' : Rd1 X.K C O3 e2 σ H2 v dx ∨ dy ≠ dy := by
      rcases rd with rd | ⟨z, ez, oz, cz⟩
      · exact .inl (.inl (Den.ext x3 rd))
      · by_cases oo : O3 z
        · exact .inl (.inr ⟨z, ez, oo, cz.ext x3 fun _ q => q⟩)
        · exact .inl (.inl (by subst ez; exact (cz.ext x3 fun _ q => q).den oo))
    exact ⟨O3, e2, σ, dx, dy, d, R3, rd'.elim id fun z => absurd rfl z, dn, hd, c3.shift s3 fun x z => A.m x (B.m x z)⟩
  · exact c2.elim
theorem s_rev {k : Nat} {p1 p2 p3 : Pos} (ha : PE X a (C.te X.K a')) : PE X (.Subscript a (.Slice none none (some (.UnaryOp .USub (.Constant (.int 1) k p1) p2)) p3) pos) (C.te X.K (.rev a')) := by
  refine PE.imp (pe_rev ha) fun σ H Q h => (oneE h fun _ => rfl).imp fun v H1 ⟨r, e1, O1, R1, k1, c1⟩ => ?_
  unfold rd1 at c1
  split at c1
  · rename_i dx q
    obtain ⟨rr, hr, c⟩ := Cn.of_some c1
    unfold revD at hr
    split at hr
    · cases hr
      obtain ⟨p, vs, rfl, hp, dl⟩ := (RvOk.rd R1 k1 q).tup
      exact ⟨p, vs, rfl, .inl ⟨hp.sq, fun z n => c.newTup R1 dl.reverse z n⟩⟩
    · cases hr
      obtain ⟨p, vs, rfl, hp, dl⟩ := (RvOk.rd R1 k1 q).lst
      exact ⟨p, vs, rfl, .inr ⟨SqL.of hp, fun z n => c.newLst R1 dl.reverse z n⟩⟩
    · cases hr
  · exact c1.elim
/-! ### slices -/
theorem sl_all : SlR X (fun x lo hi H Q => ∃ O e σ dx r, Rel X.K C.cn C.L O e σ H ∧ Rd1 X.K C O e σ H x dx ∧ slcD dx lo hi = some r ∧ Cn X.K C.cn C.L (C.k X.K) (C.xw X.K σ) O H (Mine e σ) σ (.ok r e) Q) := by
  intro pins s σ' H x v vl vu lo hi sl Q I rx hs pl pu h
  obtain ⟨O, e, σ, dx, r, R, h1, hf, hc⟩ := h
  unfold slcD at hf
  split at hf
  · rename_i ds
    cases hf
    obtain ⟨p, vs, rfl, ht, dl⟩ := h1.tup
    refine sl_tupA pins s σ' H _ v vl vu lo hi sl Q I rx hs pl pu ⟨p, vs, rfl, ht.sq, fun z => ?_, fun _ q n => hc.newTup R (dl.cut lo hi) q n⟩
    refine hc.val R (.tup ht ?_)
    have e : PV.cut ds lo hi = ds := by
      unfold PV.cut
      rw [dl.length] at z
      rw [z.1, z.2]
      simp
    rw [e]
    exact dl
  · cases hf
    obtain ⟨p, vs, rfl, ht, dl⟩ := h1.lst
    exact sl_list pins s σ' H _ v vl vu lo hi sl Q I rx hs pl pu ⟨p, vs, rfl, SqL.of ht, fun q n => hc.newLst R (dl.cut lo hi) q n⟩
  · cases hf
    obtain ⟨p, vs, rfl, ht, dl⟩ := h1.fro
    exact sl_list pins s σ' H _ v vl vu lo hi sl Q I rx hs pl pu ⟨p, vs, rfl, ht.sq, fun q n => hc.newLst R (dl.cut lo hi) q n⟩
  · cases hf
/-- a slice's part -/
abbrev Ct.tp (K : PySem.W.Frag) (C : Ct) (a : E) : TO := tI K C kP (partF a.isNop fun e => C.ev a e)
theorem PO.imp {X : Cx} {e : Option Expr} {t t' : TO} (h : PO X e t) (i : ∀ σ H Q, t' σ H Q → t σ H Q) : PO X e t' := ⟨fun pins s σ H Q I q => h.run pins s σ H Q I (i σ H Q q)⟩
theorem p_none : PO X none (C.tp X.K .nop) := PO.imp po_none fun σ H Q ⟨O, e, R, h⟩ => h none O H R rfl .refl (fun _ z => z) trivial
theorem p_some (ha : PE X a (C.te X.K a')) (hn : a'.isNop = false) : PO X (some a) (C.tp X.K a') := by
  refine PO.imp (po_some ha) fun σ H Q h => (oneE (f := partR) h fun x => by simp only [partF, hn, Bool.false_eq_true, if_false]).imp fun v H1 ⟨r, e1, O1, R1, k1, c1⟩ => ?_
  unfold partR at c1
  split at c1
  · cases k1
    exact ⟨_, rfl, c1 _ O1 H1 R1 rfl .refl (fun _ z => z) trivial⟩
  · exact c1.elim
theorem s_slc {lo hi : Option Expr} {lo' hi' : E} {p2 : Pos} (ha : PE X a (C.te X.K a')) (hl : PO X lo (C.tp X.K lo')) (hh : PO X hi (C.tp X.K hi')) : PE X (.Subscript a (.Slice lo hi none p2) pos) (C.te X.K (.slc a' lo' hi')) := by
  refine PE.imp (pe_slice (sl_all (C := C)) ha hl hh) fun σ H Q h => ?_
  refine (tI.two (k := C.k X.K) (k2 := kP) (m2 := fun _ => partF lo'.isNop fun e => C.ev lo' e) (f := fun x l e2 => (partF hi'.isNop (fun e => C.ev hi' e) e2).bind fun h => slcR l h x) h).imp fun v H1 ⟨O, e, r, e1, O1, A, c⟩ => ⟨O1, e1, A.R, c.imp fun l H2 ⟨q, e2, O2, B, c2⟩ => ?_⟩
  have ql : l = q := B.ok
  subst ql
  have c2' := B.sh (A.sh c2)
  refine ⟨O2, e2, B.R, (Cn.bind (k := kP) c2').imp fun h H3 ⟨q3, e3, O3, D3, k3, n3, c3⟩ => ?_⟩
  have qh : h = q3 := k3
  subst qh
  have c3' := c3.shift D3.s D3.m
  have k1 : RvOk X.K C.cn O3 H3 σ e3 v r := RvOk.step B.R D3.s D3.m (RvOk.step A.R B.s B.m A.ok)
  unfold slcR rd1 at c3'
  split at c3'
  · rename_i dx w
    obtain ⟨rr, hr, c4⟩ := Cn.of_some c3'
    exact ⟨O3, e3, σ, dx, rr, D3.R, RvOk.rd D3.R k1 w, hr, c4⟩
  · exact c3'.elim
/-! ### fields -/
theorem DenF.lookup {K : PySem.W.Frag} {cn : Nat → Addr} {O : Addr → Prop} {H : Hp} {f : Str} : ∀ {vs : List (Str × V)} {ds : List (Str × D)} {d : D}, DenF K cn O H vs ds → ds.lookup f = some d → ∃ v, vs.lookup f = some v ∧ Den K cn O H v d
  | _, _, _, .nil, q => by simp at q
  | _, _, d, .cons (f := g) (v := v) (d := d') h r, q => by
    rw [List.lookup_cons] at q ⊢
    cases w : f == g with
    | true => rw [w] at q; cases q; exact ⟨v, rfl, h⟩
    | false => rw [w] at q; exact DenF.lookup r q
/-- what is known of the classes' fields -/
structure Flds (K : PySem.W.Frag) (cn : Nat → Addr) (W : Wd) : Prop where
  cl : ∀ c f, W.fl c f = true → Cls K (cn c)
  no : ∀ c f, W.fl c f = true → NoAttr K (cn c) f
theorem s_fld {f : Str} (fl : Flds X.K C.cn C.wd) (ha : PE X a (C.te X.K a')) (hb : attributeBase a f X.env (eval a X.env) = eval a X.env) : PE X (.Attribute a f pos) (C.te X.K (.fld a' f)) := by
  refine PE.imp (pe_fld ha hb) fun σ H Q h => (oneE h fun _ => rfl).imp fun v H1 ⟨r, e1, O1, R1, k1, c1⟩ => ?_
  unfold fldR rd1 at c1
  split at c1
  · rename_i dx q
    obtain ⟨rr, hr, c⟩ := Cn.of_some c1
    dsimp only at hr
    split at hr
    · rename_i w
      simp only [Option.map_eq_some_iff] at hr
      obtain ⟨d, hd, rfl⟩ := hr
      cases dx with
      | obj cc fs =>
        obtain ⟨p, dx, vs, rfl, hp, df⟩ := (RvOk.rd R1 k1 q).obj
        obtain ⟨z, hz, dz⟩ := df.lookup hd
        exact ⟨p, _, dx, vs, z, rfl, hp, fl.cl cc f w, fl.no cc f w, hz, c.val R1 dz⟩
      | _ => simp [fldD] at hd
    · cases hr
  · exact c1.elim
end
end
end PV
/-! ## rules: built-in calls -/
namespace PV
open PySem L2 PyProof.Rows
noncomputable section
section
variable {X : Cx} {C : Ct} {pos : Pos} {a b c : Expr} {a' b' c' : E} {es : List Expr} {r' : Es}
/-- all of a call's arguments, read -/
inductive RdL (K : PySem.W.Frag) (C : Ct) (O : Addr → Prop) (e : Fm) (σ : L2.St) (H : Hp) : List V → List D → Prop where
  | nil : RdL K C O e σ H [] []
  | cons {v : V} {d : D} {vs : List V} {ds : List D} : Rd1 K C O e σ H v d → RdL K C O e σ H vs ds → RdL K C O e σ H (v :: vs) (d :: ds)
theorem rdL_of {K : PySem.W.Frag} {O : Addr → Prop} {e : Fm} {σ : L2.St} {H : Hp} (R : Rel K C.cn C.L O e σ H) : ∀ {vs : List V} {rs : List Rv} {ds : List D}, RsOk K C.cn O H σ e vs rs → reads rs e = some ds → RdL K C O e σ H vs ds
  | _, [], ds, .nil, q => by simp only [reads, Option.some.injEq] at q; subst q; exact .nil
  | _, r :: rs, ds, .cons h _ t, q => by
    simp only [reads] at q
    split at q
    · rename_i q1 q2
      cases q
      exact .cons (RvOk.rd R h q1) (rdL_of R t q2)
    · cases q
/-- a built-in's reading by data -/
def rB (X : Cx) (C : Ct) (b : Blt) : List V → Hp → VK → Prop := fun vs H Q => ∃ O e σ ds r, Rel X.K C.cn C.L O e σ H ∧ RdL X.K C O e σ H vs ds ∧ bltD b ds = some r ∧ Cn X.K C.cn C.L (C.k X.K) (C.xw X.K σ) O H (Mine e σ) σ (.ok r e) Q
theorem c_blt {bl : Blt} {σ : L2.St} {H : Hp} {Q : VK} (h : C.te X.K (.blt bl r') σ H Q) : tCB (rB X C bl) (C.ta X.K r') σ H Q :=
  (lstE h fun _ => rfl).imp fun vs H1 ⟨rs, e1, O1, R1, k1, c1⟩ => by
    unfold bltR at c1
    split at c1
    · rename_i ds q
      obtain ⟨r, hr, c⟩ := Cn.of_some c1
      exact ⟨O1, e1, σ, ds, r, R1, rdL_of R1 k1 q, hr, c⟩
    · exact c1.elim
theorem DenK.length {K : PySem.W.Frag} {cn : Nat → Addr} {O : Addr → Prop} {H : Hp} : ∀ {vs : List (Key × V)} {ds : List (D × D)}, DenK K cn O H vs ds → vs.length = ds.length
  | _, _, .nil => rfl
  | _, _, .cons _ r => by simp [DenK.length r]
theorem DenT.length {K : PySem.W.Frag} {cn : Nat → Addr} {O : Addr → Prop} {H : Hp} : ∀ {vs : List (List Key × V)} {ds : List (D × D)}, DenT K cn O H vs ds → vs.length = ds.length
  | _, _, .nil => rfl
  | _, _, .cons _ r => by simp [DenT.length r]
theorem b_len : CallR X (.builtin "len") (rB X C .len) := by
  intro pins s σ' H xs us Q I rx ⟨O, e, σ, ds, r, R, k, hf, hc⟩
  cases k with
  | nil => simp [bltD] at hf
  | cons h t =>
    rename_i v d vs ds
    cases t with
    | cons _ _ => cases d <;> simp [bltD] at hf
    | nil =>
      cases d with
      | str x =>
        simp only [bltD] at hf
        split at hf
        · rename_i hl
          cases hf
          obtain rfl := h.str
          exact call_len_str pins s σ' H _ us Q I rx ⟨_, rfl, of_decide_eq_true hl, hc.val R (.int _)⟩
        · cases hf
      | tup x =>
        simp only [bltD] at hf
        cases hf
        obtain ⟨p, vs, rfl, hp, dl⟩ := h.tup
        exact call_len_seq pins s σ' H _ us Q I rx ⟨p, vs, rfl, .inr hp.sq, by rw [dl.length]; exact hc.val R (.int _)⟩
      | lst x =>
        simp only [bltD] at hf
        cases hf
        obtain ⟨p, vs, rfl, hp, dl⟩ := h.lst
        exact call_len_seq pins s σ' H _ us Q I rx ⟨p, vs, rfl, .inl (SqL.of hp), by rw [dl.length]; exact hc.val R (.int _)⟩
      | fro x =>
        simp only [bltD] at hf
        cases hf
        obtain ⟨p, vs, rfl, hp, dl⟩ := h.fro
        exact call_len_seq pins s σ' H _ us Q I rx ⟨p, vs, rfl, .inl hp.sq, by rw [dl.length]; exact hc.val R (.int _)⟩
      | dct t x =>
        simp only [bltD] at hf
        cases hf
        cases t with
        | false =>
          obtain ⟨p, vs, rfl, hp, dl⟩ := h.dK
          obtain ⟨u, rfl, ru⟩ := vals1 rx
          cases ru
          exact d_len I hp fun t s' I' => ⟨.int vs.length, H, I', ⟨t, rfl⟩, by rw [dl.length]; exact hc.val R (.int _)⟩
        | true =>
          obtain ⟨p, vs, rfl, hp, dl⟩ := h.dT
          exact call_len_dT pins s σ' H _ us Q I rx ⟨p, vs, rfl, hp, by rw [dl.length]; exact hc.val R (.int _)⟩
      | _ => simp [bltD] at hf
theorem bools_of {K : PySem.W.Frag} {cn : Nat → Addr} {O : Addr → Prop} {H : Hp} : ∀ {vs : List V} {ds : List D} {bs : List Bool}, DenL K cn O H vs ds → bools ds = some bs → vs = bs.map V.bl
  | _, [], bs, .nil, q => by simp only [bools, Option.some.injEq] at q; subst q; rfl
  | _, _ :: _, bs, .cons h t, q => by
    simp only [bools] at q
    split at q
    · rename_i q1
      cases q
      cases h
      rw [bools_of t q1]
      rfl
    · cases q
theorem b_all (hc' : X.calm = true) : CallR X (.builtin "all") (rB X C .all) := by
  intro pins s σ' H xs us Q I rx ⟨O, e, σ, ds, r, R, k, hf, hc⟩
  cases k with
  | nil => simp [bltD] at hf
  | cons h t =>
    rename_i v d vs ds
    cases t with
    | cons _ _ => cases d <;> simp [bltD] at hf
    | nil =>
      cases d with
      | lst x =>
        simp only [bltD, Option.map_eq_some_iff] at hf
        obtain ⟨bs, hb, rfl⟩ := hf
        obtain ⟨p, vs, rfl, hp, dl⟩ := h.lst
        have := bools_of dl hb
        subst this
        exact cr_all hc' pins s σ' H _ us Q I rx ⟨p, bs, rfl, SqL.of hp, hc.val R (.bl _)⟩
      | _ => simp [bltD] at hf
theorem b_any (hc' : X.calm = true) : CallR X (.builtin "any") (rB X C .any) := by
  intro pins s σ' H xs us Q I rx ⟨O, e, σ, ds, r, R, k, hf, hc⟩
  cases k with
  | nil => simp [bltD] at hf
  | cons h t =>
    rename_i v d vs ds
    cases t with
    | cons _ _ => cases d <;> simp [bltD] at hf
    | nil =>
      cases d with
      | lst x =>
        simp only [bltD, Option.map_eq_some_iff] at hf
        obtain ⟨bs, hb, rfl⟩ := hf
        obtain ⟨p, vs, rfl, hp, dl⟩ := h.lst
        have := bools_of dl hb
        subst this
        exact cr_any hc' pins s σ' H _ us Q I rx ⟨p, bs, rfl, SqL.of hp, hc.val R (.bl _)⟩
      | _ => simp [bltD] at hf
theorem b_abs : CallR X (.builtin "abs") (rB X C .abs) := by
  intro pins s σ' H xs us Q I rx ⟨O, e, σ, ds, r, R, k, hf, hc⟩
  cases k with
  | nil => simp [bltD] at hf
  | cons h t =>
    rename_i v d vs ds
    cases t with
    | cons _ _ => cases d <;> simp [bltD] at hf
    | nil =>
      cases d with
      | int i =>
        simp only [bltD] at hf
        cases hf
        obtain rfl := h.int
        exact call_abs pins s σ' H _ us Q I rx ⟨_, rfl, hc.val R (.int _)⟩
      | _ => simp [bltD] at hf
theorem b_tuple : CallR X (.type "tuple") (rB X C .tuple) := by
  intro pins s σ' H xs us Q I rx ⟨O, e, σ, ds, r, R, k, hf, hc⟩
  cases k with
  | nil => simp [bltD] at hf
  | cons h t =>
    rename_i v d vs ds
    cases t with
    | cons _ _ => cases d <;> simp [bltD] at hf
    | nil =>
      cases d with
      | lst x =>
        simp only [bltD] at hf
        cases hf
        obtain ⟨p, vs, rfl, hp, dl⟩ := h.lst
        exact call_tuple_of pins s σ' H _ us Q I rx ⟨p, vs, rfl, .inl ⟨SqL.of hp, fun q n => hc.newTup R dl q n⟩⟩
      | tup x =>
        simp only [bltD] at hf
        cases hf
        obtain ⟨p, vs, rfl, hp, dl⟩ := h.tup
        exact call_tupleT pins s σ' H _ us Q I rx ⟨p, vs, rfl, hp.sq, hc.val R (.tup hp dl)⟩
      | _ => simp [bltD] at hf
theorem key_den {K : PySem.W.Frag} {cn : Nat → Addr} {O : Addr → Prop} {H : Hp} : ∀ k : Key, Den K cn O H (kV k) (kD k)
  | .inl i => .int i
  | .inr x => .str x
theorem DenK.keys {K : PySem.W.Frag} {cn : Nat → Addr} {O : Addr → Prop} {H : Hp} : ∀ {kvs : List (Key × V)} {ds : List (D × D)}, DenK K cn O H kvs ds → DenL K cn O H (kvs.map fun kv => kV kv.1) (ds.map (·.1))
  | _, _, .nil => .nil
  | _, _, .cons _ t => .cons (key_den _) (DenK.keys t)
theorem b_list (hc' : X.calm = true) : CallR X (.type "list") (rB X C .list) := by
  intro pins s σ' H xs us Q I rx ⟨O, e, σ, ds, r, R, k, hf, hc⟩
  cases k with
  | nil => simp [bltD] at hf
  | cons h t =>
    rename_i v d vs ds
    cases t with
    | cons _ _ => cases d <;> simp [bltD] at hf
    | nil =>
      cases d with
      | lst x =>
        simp only [bltD] at hf
        cases hf
        obtain ⟨p, vs, rfl, hp, dl⟩ := h.lst
        exact call_list_of pins s σ' H _ us Q I rx ⟨p, vs, rfl, .inl (SqL.of hp), fun q n => hc.newLst R dl q n⟩
      | tup x =>
        simp only [bltD] at hf
        cases hf
        obtain ⟨p, vs, rfl, hp, dl⟩ := h.tup
        exact call_list_of pins s σ' H _ us Q I rx ⟨p, vs, rfl, .inr hp.sq, fun q n => hc.newLst R dl q n⟩
      | fro x =>
        simp only [bltD] at hf
        cases hf
        obtain ⟨p, vs, rfl, hp, dl⟩ := h.fro
        exact call_list_of pins s σ' H _ us Q I rx ⟨p, vs, rfl, .inl hp.sq, fun q n => hc.newLst R dl q n⟩
      | dct t x =>
        cases t with
        | true => simp [bltD] at hf
        | false =>
          simp only [bltD] at hf
          cases hf
          obtain ⟨p, vs, rfl, hp, dl⟩ := h.dK
          exact call_listD hc' pins s σ' H _ us Q I rx ⟨p, vs, rfl, hp, fun q n => hc.newLst R dl.keys q n⟩
      | _ => simp [bltD] at hf
theorem b_int : CallR X (.type "int") (rB X C .int) := by
  intro pins s σ' H xs us Q I rx ⟨O, e, σ, ds, r, R, k, hf, hc⟩
  cases k with
  | nil => simp [bltD] at hf
  | cons h t =>
    rename_i v d vs ds
    cases t with
    | cons _ _ => cases d <;> simp [bltD] at hf
    | nil =>
      cases d with
      | int i =>
        simp only [bltD] at hf
        cases hf
        obtain rfl := h.int
        exact call_int1 pins s σ' H _ us Q I rx (.inl ⟨_, rfl, hc.val R (.int _)⟩)
      | bl i =>
        simp only [bltD] at hf
        cases hf
        obtain rfl := h.bl
        exact call_int1 pins s σ' H _ us Q I rx (.inr ⟨_, rfl, hc.val R (.int _)⟩)
      | _ => simp [bltD] at hf
theorem b_bool : CallR X (.type "bool") (rB X C .bool) := by
  intro pins s σ' H xs us Q I rx ⟨O, e, σ, ds, r, R, k, hf, hc⟩
  cases k with
  | nil => simp [bltD] at hf
  | cons h t =>
    rename_i v d vs ds
    cases t with
    | cons _ _ => cases d <;> simp [bltD] at hf
    | nil =>
      cases d with
      | bl i =>
        simp only [bltD] at hf
        cases hf
        obtain rfl := h.bl
        exact call_bool1 pins s σ' H _ us Q I rx (.inr ⟨_, rfl, hc.val R (.bl _)⟩)
      | _ => simp [bltD] at hf
/-- two ints -/
theorem rd2_int {K : PySem.W.Frag} {O : Addr → Prop} {e : Fm} {σ : L2.St} {H : Hp} {vs : List V} {ds : List D} (h : RdL K C O e σ H vs ds) {i j : Int} (q : ds = [.int i, .int j]) : vs = [.int i, .int j] := by
  subst q
  cases h with
  | cons h t =>
    cases t with
    | cons h2 t2 =>
      cases t2
      rw [h.int, h2.int]
theorem b_min2 (hc' : X.calm = true) : CallR X (.builtin "min") (rB X C .min2) := by
  intro pins s σ' H xs us Q I rx ⟨O, e, σ, ds, r, R, k, hf, hc⟩
  unfold bltD at hf
  split at hf <;> try (simp at *; done)
  all_goals first
    | (rename_i i j hh
       cases hf
       have := rd2_int k rfl
       subst this
       exact call_min2 hc' pins s σ' H _ us Q I rx ⟨_, _, rfl, hc.val R (.int _)⟩)
    | simp_all
theorem b_max2 (hc' : X.calm = true) : CallR X (.builtin "max") (rB X C .max2) := by
  intro pins s σ' H xs us Q I rx ⟨O, e, σ, ds, r, R, k, hf, hc⟩
  unfold bltD at hf
  split at hf <;> try (simp at *; done)
  all_goals first
    | (rename_i i j hh
       cases hf
       have := rd2_int k rfl
       subst this
       exact call_max2 hc' pins s σ' H _ us Q I rx ⟨_, _, rfl, hc.val R (.int _)⟩)
    | simp_all
theorem b_divmod : CallR X (.builtin "divmod") (rB X C .divmod) := by
  intro pins s σ' H xs us Q I rx ⟨O, e, σ, ds, r, R, k, hf, hc⟩
  unfold bltD at hf
  split at hf <;> try (simp at *; done)
  all_goals first
    | (rename_i i j hh
       split at hf
       · rename_i hp
         cases hf
         have := rd2_int k rfl
         subst this
         exact call_divmod pins s σ' H _ us Q I rx ⟨_, _, rfl, hp, fun p n => hc.newTup R (.cons (.int _) (.cons (.int _) .nil)) p n⟩
       · cases hf)
    | simp_all
end
end
end PV
/-! ## rules: methods of built-in things, isinstance -/
namespace PV
open PySem L2 PyProof.Rows
noncomputable section
section
variable {K : PySem.W.Frag} {cn : Nat → Addr} {L : Nat → Addr} {O : Addr → Prop} {e : Fm} {σ : L2.St} {H : Hp} {M : Addr → Prop}
theorem Ext.write {a : Addr} {o : HO} (oa : O a) : Ext O H O (upd H a o) :=
  ⟨fun b u h n => ⟨u, by rw [upd_ne fun q => n (by rw [q]; exact oa)]; exact h, .rfl'⟩, fun _ _ _ n => n⟩
/-- the thing of a slot is changed -/
theorem Rel.write {i : Nat} {l : Option Nat} {d d' : D} {a : Addr} {o : HO} (R : Rel K cn L O e σ H) (h : e[i]? = some (.own l d)) (hs : σ[i]? = some (some (.ref a))) (c : Cont K cn O (upd H a o) a d') :
    Rel K cn L O (e.set i (.own l d')) σ (upd H a o) ∧ Step O H O (upd H a o) (Mine e σ) ∧ ∀ b, Mine (e.set i (.own l d')) σ b → Mine e σ b := by
  obtain ⟨a', ha', oa, _⟩ := R.own i l d h
  rw [hs] at ha'
  cases ha'
  have x : Ext O H O (upd H a o) := Ext.write oa
  have mi : Mine e σ a := ⟨i, l, d, h, hs⟩
  refine ⟨⟨by simpa using R.len, fun b z => ?_, fun j y q => ?_, fun j m y q => ?_, fun j q y w => ?_, fun j j' m m' y y' b q q' => ?_⟩, ⟨fun b u q n => ?_, fun _ _ _ _ => Iff.rfl⟩, fun b z => ?_⟩
  · by_cases q : b = a
    · subst q; rw [upd_same]; exact fun z => nomatch z
    · rw [upd_ne q]; exact R.dom b z
  · rcases get_set q with ⟨_, z⟩ | ⟨_, z⟩
    · cases z
    · obtain ⟨v, hv, dn⟩ := R.val j y z
      exact ⟨v, hv, dn.ext x⟩
  · rcases get_set q with ⟨ej, z⟩ | ⟨n, z⟩
    · cases z
      subst ej
      exact ⟨a, hs, oa, c⟩
    · obtain ⟨b, hb, ob, cb⟩ := R.own j m y z
      refine ⟨b, hb, ob, cb.ext x fun u w => ?_⟩
      have nb : b ≠ a := fun w => n (R.inj j i m l y d a z h (by rw [← w]; exact hb) hs)
      rw [upd_ne nb]
      exact w
  · rcases get_set w with ⟨ej, z⟩ | ⟨_, z⟩
    · cases z
      subst ej
      exact R.lent j q d h
    · exact R.lent j q y z
  · rcases get_set q with ⟨ej, z⟩ | ⟨n, z⟩
    · subst ej
      rcases get_set q' with ⟨ej', z'⟩ | ⟨n', z'⟩
      · exact fun _ _ => ej'.symm
      · exact fun w w' => R.inj j j' l m' d y' b h z' w w'
    · rcases get_set q' with ⟨ej', z'⟩ | ⟨n', z'⟩
      · subst ej'
        exact fun w w' => R.inj j j' m l y d b z h w w'
      · exact fun w w' => R.inj j j' m m' y y' b z z' w w'
  · exact ⟨u, by rw [upd_ne fun w => n (by rw [w]; exact mi)]; exact q, .rfl', fun _ => rfl⟩
  · obtain ⟨j, m, y, q, w⟩ := z
    rcases get_set q with ⟨ej, z⟩ | ⟨n, z⟩
    · subst ej
      exact ⟨j, l, d, h, w⟩
    · exact ⟨j, m, y, z, w⟩
end
section
variable {X : Cx} {C : Ct} {pos : Pos} {a b c : Expr} {a' b' c' : E} {es : List Expr} {r' : Es}
theorem bmtR_eq {m : Bmt} {r : Rv} {rs : List Rv} {e : Fm} {dx : D} {ds : List D} (h1 : r.rd e = some dx) (h2 : keep rs = some ds) : bmtR m r rs e = match bmtD m dx ds with
    | some y => mtOut r y e
    | none => .bad := by
  unfold bmtR
  simp only [h1, h2]
  try (cases bmtD m dx ds <;> rfl)
/-- a method's reading: the receiver's answer, the arguments kept -/
def rM (X : Cx) (C : Ct) (m : Bmt) : V → List V → Hp → VK → Prop := fun x vs H Q => ∃ O e σ r ds dx y, Rel X.K C.cn C.L O e σ H ∧ RvOk X.K C.cn O H σ e x r ∧ r.rd e = some dx ∧ DenL X.K C.cn O H vs ds ∧ bmtD m dx ds = some y ∧
  Cn X.K C.cn C.L (C.k X.K) (C.xw X.K σ) O H (Mine e σ) σ (mtOut r y e) Q
theorem mt_step {m : Bmt} {σ : L2.St} {O1 : Addr → Prop} {e1 : Fm} {H1 : Hp} {Q : VK} {v : V} {r : Rv} {rs : List Rv} {vs : List V} {H2 : Hp} {e2 : Fm} {O2 : Addr → Prop} (k1 : RvOk X.K C.cn O1 H1 σ e1 v r) (nf : ∀ d, r ≠ .fresh d ∧ r ≠ .give d) (R1 : Rel X.K C.cn C.L O1 e1 σ H1)
    (B : At X.K C.cn C.L O1 H1 (Mine e1 σ) σ O2 e2 H2) (k2 : RsOk X.K C.cn O2 H2 σ e2 vs rs) (n2 : RsNew H1 (Mine e1 σ) vs rs) (c2 : Cn X.K C.cn C.L (C.k X.K) (C.xw X.K σ) O1 H1 (Mine e1 σ) σ (bmtR m r rs e2) Q) : rM X C m v vs H2 Q := by
  cases q1 : r.rd e2 with
  | none => unfold bmtR at c2; rw [q1] at c2; exact c2.elim
  | some dx =>
    cases q2 : keep rs with
    | none => unfold bmtR at c2; rw [q1, q2] at c2; exact c2.elim
    | some ds =>
      rw [bmtR_eq q1 q2] at c2
      split at c2
      · rename_i y hy
        obtain ⟨O3, R3, s3, dl, x3⟩ := keep_ok B.R B.s k2 n2 q2
        have k1' : RvOk X.K C.cn O2 H2 σ e2 v r := RvOk.step R1 B.s B.m k1
        have k3 : RvOk X.K C.cn O3 H2 σ e2 v r := by
          cases r with
          | val d => exact Den.ext x3 k1'
          | fresh d => exact absurd rfl (nf d).1
          | give d => exact absurd rfl (nf d).2
          | bor i => exact k1'
          | lent i => exact k1'
        exact ⟨O3, e2, σ, r, ds, dx, y, R3, k3, q1, dl, hy, c2.shift s3 B.m⟩
      · exact c2.elim
/-- a built-in thing's type, a locked dict's too -/
def tyW (K : PySem.W.Frag) (T : String) (x : V) (H : Hp) : Prop := tyV K T x H ∨ (T = "dict" ∧ ∃ p o kvs, x = .ref p ∧ H p = some (.frz o (.dK kvs)))
def tBW (K : PySem.W.Frag) (T : String) (r : V → List V → Hp → VK → Prop) (ty : TE) (t : TA) : TE := fun σ H Q => ty σ H fun x H1 => tyW K T x H1 ∧ t σ H1 fun vs H2 => r x vs H2 Q
theorem c_bmt {m : Bmt} {σ : L2.St} {H : Hp} {Q : VK} {T : String} (hT : ∀ {O : Addr → Prop} {e : Fm} {σ : L2.St} {H : Hp} {v : V} {d : D}, bmtOk m (some d) = true → Rd1 X.K C O e σ H v d → tyW X.K T v H)
    (h : C.te X.K (.bmt m a' r') σ H Q) : tBW X.K T (rM X C m) (C.te X.K a') (C.ta X.K r') σ H Q := by
  refine (tI.bind (k := C.k X.K) (f := fun x e1 => if bmtOk m (x.rd e1) = true then (evs C.wd C.run r' e1).bind (bmtR m x) else .bad) h).imp fun v H1 ⟨O, e, r, e1, O1, A, c⟩ => ?_
  split at c
  · rename_i w
    refine ⟨?_, ?_⟩
    · cases q : r.rd e1 with
      | none => rw [q] at w; cases m <;> cases w
      | some d => rw [q] at w; exact hT w (RvOk.rd A.R A.ok q)
    · by_cases nf : ∃ d, r = .fresh d
      · obtain ⟨d, rfl⟩ := nf
        obtain ⟨O2, R2, s2, dn, x2⟩ := fz_ok (r := .fresh d) A.R A.s A.ok A.new (d := d) rfl
        refine ⟨O2, e1, R2, (Cn.bind (k := C.ks X.K) (f := bmtR m (.fresh d)) (c.shift s2 A.m)).imp fun vs H2 ⟨rs, e2, O3, B, k2, n2, c2⟩ => ?_⟩
        have ee : bmtR m (.fresh d) rs e2 = bmtR m (.val d) rs e2 := by
          unfold bmtR
          rfl
        rw [ee] at c2
        exact mt_step (r := .val d) dn (fun d => ⟨(fun z => nomatch z), fun z => nomatch z⟩) R2 B k2 n2 c2
      · by_cases ng : ∃ d, r = .give d
        · obtain ⟨d, rfl⟩ := ng
          cases m <;> cases w
        · exact ⟨O1, e1, A.R, (Cn.bind (k := C.ks X.K) (f := bmtR m r) (A.sh c)).imp fun vs H2 ⟨rs, e2, O2, B, k2, n2, c2⟩ => mt_step A.ok (fun d => ⟨fun z => nf ⟨d, z⟩, fun z => ng ⟨d, z⟩⟩) A.R B k2 n2 c2⟩
  · exact c.elim
/-- the thing of a slot is changed: what follows -/
theorem mt_write {σ : L2.St} {O : Addr → Prop} {e : Fm} {H : Hp} {Q : VK} {r a : Rv} {x : V} {dx z : D} {p : Addr} (R : Rel X.K C.cn C.L O e σ H) (k : RvOk X.K C.cn O H σ e x r) (q : r.rd e = some dx) (ep : x = .ref p)
    (c : Cn X.K C.cn C.L (C.k X.K) (C.xw X.K σ) O H (Mine e σ) σ (mtOut r (a, some z) e) Q) :
    O p ∧ ∀ (o : HO) (w : V), Cont X.K C.cn O (upd H p o) p z → RvOk X.K C.cn O (upd H p o) σ e w a → isNew a = false → (∀ j, a ≠ .bor j) → (∀ j, a ≠ .lent j) → Q w (upd H p o) := by
  unfold mtOut at c
  cases r with
  | bor i =>
    dsimp only at c
    split at c
    · rename_i l d hi
      have hs : σ[i]? = some (some x) := k
      rw [ep] at hs
      obtain ⟨b, hb, ob, _⟩ := R.own i l d hi
      rw [hs] at hb
      cases hb
      refine ⟨ob, fun o w cz kw nw nb nl => ?_⟩
      obtain ⟨R', s', m'⟩ := R.write hi hs cz
      refine c w O _ R' ?_ s' m' fun z => by rw [nw] at z; cases z
      cases a with
      | val y => exact kw
      | fresh y => cases nw
      | give y => cases nw
      | bor j => exact absurd rfl (nb j)
      | lent j => exact absurd rfl (nl j)
    · exact c.elim
  | _ => exact c.elim
theorem bi_append {d : D} {ds : List D} {y : Rv × Option D} (h : bmtD .append d ds = some y) : ∃ xs z, d = .lst xs ∧ ds = [z] ∧ xs.length < sizeLine ∧ y = (.val .non, some (.lst (xs ++ [z]))) := by
  unfold bmtD at h
  split at h <;> try (first | (cases h; done) | (rename_i q _ _; cases q; done) | (rename_i q; cases q; done))
  all_goals first
    | (split at h
       · cases h; exact ⟨_, _, rfl, rfl, ‹_›, rfl⟩
       · cases h)
    | skip
theorem mt_append' : MtR X "list.append" (rM X C .append) := by
  intro pins s σ' H x vs v us Q I rx rv ⟨O, e, σ, r, ds, dx, y, R, k, q, dl, hy, c⟩
  obtain ⟨xs, z, rfl, rfl, hl, rfl⟩ := bi_append hy
  obtain ⟨p, ws, rfl, hp, dx⟩ := (RvOk.rd R k q).lst
  obtain ⟨op, c⟩ := mt_write R k q rfl c
  cases dl with
  | cons h t =>
    cases t
    exact mt_append pins s σ' H _ _ v us Q I rx rv ⟨p, ws, _, rfl, rfl, hp, by rw [dx.length]; exact hl, c _ _ (.lst upd_same ((dx.append (.cons h .nil)).ext (Ext.write op))) .non rfl (fun _ z => nomatch z) fun _ z => nomatch z⟩
theorem bi_insert {d : D} {ds : List D} {y : Rv × Option D} (h : bmtD .insert d ds = some y) : ∃ xs i z, d = .lst xs ∧ ds = [.int i, z] ∧ (0 ≤ i ∧ i ≤ xs.length ∧ xs.length < sizeLine) ∧ y = (.val .non, some (.lst (xs.take i.toNat ++ z :: xs.drop i.toNat))) := by
  unfold bmtD at h
  split at h <;> try (first | (cases h; done) | (rename_i q _ _; cases q; done) | (rename_i q; cases q; done))
  all_goals first
    | (split at h
       · cases h; exact ⟨_, _, _, rfl, rfl, ‹_›, rfl⟩
       · cases h)
    | skip
theorem bi_pop0 {d : D} {ds : List D} {y : Rv × Option D} (h : bmtD .pop0 d ds = some y) : ∃ xs z, d = .lst xs ∧ ds = [] ∧ xs[xs.length - 1]? = some z ∧ y = (.val z, some (.lst xs.dropLast)) := by
  unfold bmtD at h
  split at h <;> try (first | (cases h; done) | (rename_i q _ _; cases q; done) | (rename_i q; cases q; done))
  all_goals first
    | (split at h
       · cases h; exact ⟨_, _, rfl, rfl, ‹_›, rfl⟩
       · cases h)
    | skip
theorem bi_pop1 {d : D} {ds : List D} {y : Rv × Option D} (h : bmtD .pop1 d ds = some y) : ∃ xs i z, d = .lst xs ∧ ds = [.int i] ∧ (0 ≤ i ∧ i < 2 ^ 63) ∧ xs[i.toNat]? = some z ∧ y = (.val z, some (.lst (xs.eraseIdx i.toNat))) := by
  unfold bmtD at h
  split at h <;> try (first | (cases h; done) | (rename_i q _ _; cases q; done) | (rename_i q; cases q; done))
  all_goals first
    | (split at h
       · split at h
         · cases h; exact ⟨_, _, _, rfl, rfl, ‹_ ∧ _›, ‹_›, rfl⟩
         · cases h
       · cases h)
    | skip
theorem bi_extend {d : D} {ds : List D} {y : Rv × Option D} (h : bmtD .extend d ds = some y) : ∃ xs zs, d = .lst xs ∧ ds = [.lst zs] ∧ xs.length + zs.length ≤ sizeLine ∧ y = (.val .non, some (.lst (xs ++ zs))) := by
  unfold bmtD at h
  split at h <;> try (first | (cases h; done) | (rename_i q _ _; cases q; done) | (rename_i q; cases q; done))
  all_goals first
    | (split at h
       · cases h; exact ⟨_, _, rfl, rfl, ‹_›, rfl⟩
       · cases h)
    | skip
theorem bi_get1 {d : D} {ds : List D} {y : Rv × Option D} (h : bmtD .get1 d ds = some y) : ∃ t kvs k, d = .dct t kvs ∧ ds = [k] ∧ keyOk t k = true ∧ y = (.val ((dget kvs k).getD .non), none) := by
  unfold bmtD at h
  split at h <;> try (first | (cases h; done) | (rename_i q _ _; cases q; done) | (rename_i q; cases q; done))
  all_goals first
    | (split at h
       · cases h; exact ⟨_, _, _, rfl, rfl, ‹_›, rfl⟩
       · cases h)
    | skip
theorem bi_get2 {d : D} {ds : List D} {y : Rv × Option D} (h : bmtD .get2 d ds = some y) : ∃ t kvs k z, d = .dct t kvs ∧ ds = [k, z] ∧ keyOk t k = true ∧ y = (.val ((dget kvs k).getD z), none) := by
  unfold bmtD at h
  split at h <;> try (first | (cases h; done) | (rename_i q _ _; cases q; done) | (rename_i q; cases q; done))
  all_goals first
    | (split at h
       · cases h; exact ⟨_, _, _, _, rfl, rfl, ‹_›, rfl⟩
       · cases h)
    | skip
theorem DenL.eraseIdx {K : PySem.W.Frag} {cn : Nat → Addr} {O : Addr → Prop} {H : Hp} : ∀ {vs : List V} {ds : List D} (i : Nat), DenL K cn O H vs ds → DenL K cn O H (vs.eraseIdx i) (ds.eraseIdx i)
  | _, _, _, .nil => .nil
  | _, _, 0, .cons _ r => r
  | _, _, i + 1, .cons h r => .cons h (DenL.eraseIdx i r)
theorem DenL.dropLast {K : PySem.W.Frag} {cn : Nat → Addr} {O : Addr → Prop} {H : Hp} : ∀ {vs : List V} {ds : List D}, DenL K cn O H vs ds → DenL K cn O H vs.dropLast ds.dropLast
  | _, _, .nil => .nil
  | _, _, .cons h .nil => .nil
  | _, _, .cons h (.cons h2 r) => .cons h (DenL.dropLast (.cons h2 r))
theorem mt_insert' : MtR X "list.insert" (rM X C .insert) := by
  intro pins s σ' H x vs v us Q I rx rv ⟨O, e, σ, r, ds, dx, y, R, k, q, dl, hy, c⟩
  obtain ⟨xs, i, z, rfl, rfl, ⟨h0, h1, hl⟩, rfl⟩ := bi_insert hy
  obtain ⟨p, ws, rfl, hp, dx⟩ := (RvOk.rd R k q).lst
  obtain ⟨op, c⟩ := mt_write R k q rfl c
  cases dl with
  | cons hi t =>
    cases hi
    cases t with
    | cons h t =>
      cases t
      have hz : (sizeLine : Nat) < 2 ^ 63 := by decide
      refine mt_insert pins s σ' H _ _ v us Q I rx rv ⟨p, ws, i, _, rfl, rfl, hp, by rw [dx.length]; exact hl, h0, by omega, ?_⟩
      rw [List.append_assoc]
      exact c _ _ (.lst upd_same (((dx.take i.toNat).append (.cons h (dx.drop i.toNat))).ext (Ext.write op))) .non rfl (fun _ z => nomatch z) fun _ z => nomatch z
theorem mt_pop0' : MtR X "list.pop" (rM X C .pop0) := by
  intro pins s σ' H x vs v us Q I rx rv ⟨O, e, σ, r, ds, dx, y, R, k, q, dl, hy, c⟩
  obtain ⟨xs, z, rfl, rfl, hl, rfl⟩ := bi_pop0 hy
  obtain ⟨p, ws, rfl, hp, dx⟩ := (RvOk.rd R k q).lst
  obtain ⟨op, c⟩ := mt_write R k q rfl c
  cases dl
  obtain ⟨w, hw, dw⟩ := dx.get hl
  exact mt_pop pins s σ' H _ _ v us Q I rx rv ⟨p, ws, w, rfl, rfl, hp, by rw [dx.length]; exact hw, c _ w (.lst upd_same (dx.dropLast.ext (Ext.write op))) (Den.ext (Ext.write op) dw) rfl (fun _ z => nomatch z) fun _ z => nomatch z⟩
theorem mt_pop1' : MtR X "list.pop" (rM X C .pop1) := by
  intro pins s σ' H x vs v us Q I rx rv ⟨O, e, σ, r, ds, dx, y, R, k, q, dl, hy, c⟩
  obtain ⟨xs, i, z, rfl, rfl, ⟨h0, h1⟩, hl, rfl⟩ := bi_pop1 hy
  obtain ⟨p, ws, rfl, hp, dx⟩ := (RvOk.rd R k q).lst
  obtain ⟨op, c⟩ := mt_write R k q rfl c
  cases dl with
  | cons hi t =>
    cases hi
    cases t
    obtain ⟨w, hw, dw⟩ := dx.get hl
    have hlt : i.toNat < ws.length := (List.getElem?_eq_some_iff.mp hw).1
    have hs : seqIndex? i ws.length = some i.toNat := PyProof.Rows.seqIndex_at h0 (by omega)
    exact mt_popAt pins s σ' H _ _ v us Q I rx rv ⟨p, ws, i, i.toNat, w, rfl, rfl, hp, by omega, h1, hs, hw, c _ w (.lst upd_same ((dx.eraseIdx _).ext (Ext.write op))) (Den.ext (Ext.write op) dw) rfl (fun _ z => nomatch z) fun _ z => nomatch z⟩
theorem mt_extend' : MtR X "list.extend" (rM X C .extend) := by
  intro pins s σ' H x vs v us Q I rx rv ⟨O, e, σ, r, ds, dx, y, R, k, q, dl, hy, c⟩
  obtain ⟨xs, zs, rfl, rfl, hl, rfl⟩ := bi_extend hy
  obtain ⟨p, ws, rfl, hp, dx⟩ := (RvOk.rd R k q).lst
  obtain ⟨op, c⟩ := mt_write R k q rfl c
  cases dl with
  | cons h t =>
    cases t
    cases h with
    | lst n hb dz =>
      exact mt_extend pins s σ' H _ _ v us Q I rx rv ⟨p, _, ws, _, rfl, rfl, hp, hb, by rw [dx.length, dz.length]; exact hl, c _ _ (.lst upd_same ((dx.append dz).ext (Ext.write op))) .non rfl (fun _ z => nomatch z) fun _ z => nomatch z⟩
theorem mt_get1' (hu : X.A.units + 1 < cLine) : MtR X "dict.get" (rM X C .get1) := by
  intro pins s σ' H x vs v us Q I rx rv ⟨O, e, σ, r, ds, dx, y, R, k, q, dl, hy, c⟩
  obtain ⟨t, kvs, ky, rfl, rfl, ok, rfl⟩ := bi_get1 hy
  cases dl with
  | cons h t =>
    cases t
    obtain ⟨a, o, rfl, g, _, w⟩ := (RvOk.rd R k q).dget h ok
    cases rx
    obtain ⟨u, rfl, ru⟩ := rv.one
    refine d_get1 hu I g ru fun w' s' I' rw' => ⟨_, H, I', rw', c.val R ?_⟩
    rcases w with ⟨rfl, hn⟩ | ⟨z, d, rfl, hs, dz⟩
    · rw [hn]; exact .non
    · rw [hs]; exact dz
theorem mt_get2' (hu : X.A.units + 1 < cLine) : MtR X "dict.get" (rM X C .get2) := by
  intro pins s σ' H x vs v us Q I rx rv ⟨O, e, σ, r, ds, dx, y, R, k, q, dl, hy, c⟩
  obtain ⟨t, kvs, ky, z, rfl, rfl, ok, rfl⟩ := bi_get2 hy
  cases dl with
  | cons h t =>
    cases t with
    | cons h2 t =>
      cases t
      obtain ⟨a, o, rfl, g, _, w⟩ := (RvOk.rd R k q).dget h ok
      cases rx
      obtain ⟨u, u2, rfl, ru, ru2⟩ := rv.two
      refine d_get2 hu I g ru ru2 fun w' s' I' rw' => ⟨_, H, I', rw', c.val R ?_⟩
      rcases w with ⟨rfl, hn⟩ | ⟨y, d, rfl, hs, dz⟩
      · rw [hn]; exact h2
      · rw [hs]; exact dz
end
end
end PV
/-! ## rules: calls of what is built in, isinstance, globals, stars -/
namespace PV
open PySem L2 PyProof.Rows
noncomputable section
def noStar : Expr → Bool
  | .Starred _ _ => false
  | _ => true
theorem star_cons {a : Expr} {es : List Expr} {env : Env} (h : noStar a = true) : starEach (a :: es) env = (false, eval a env) :: starEach es env := by
  cases a <;> first | rfl | cases h
theorem plain_back {pos : Pos} {env : Env} : ∀ {es : List Expr}, es.all noStar = true → (backTo pos (starEach es env)).any (·.1) = false
  | [], _ => rfl
  | a :: es, h => by
    rw [List.all_cons, Bool.and_eq_true] at h
    rw [star_cons h.1]
    show (false || (backTo pos (starEach es env)).any (·.1)) = false
    rw [plain_back h.2]
    rfl
theorem plain_all {pos : Pos} {env : Env} : ∀ {es : List Expr}, es.all noStar = true → (backTo pos (starEach es env)).all (fun x => !x.1) = true
  | [], _ => rfl
  | a :: es, h => by
    rw [List.all_cons, Bool.and_eq_true] at h
    rw [star_cons h.1]
    show (!false && (backTo pos (starEach es env)).all (fun x => !x.1)) = true
    rw [plain_all h.2]
    rfl
/-- an object whose attributes are asked of itself -/
def noCall : Expr → Bool
  | .Call _ [] [] _ => false
  | _ => true
theorem attr_base {o : Expr} {f : Str} {env : Env} {whole : Sem Value} (h : noCall o = true) : attributeBase o f env whole = whole := by
  cases o with
  | Call f args kws pos =>
    cases args with
    | nil =>
      cases kws with
      | nil => cases h
      | cons k ks => cases f <;> rfl
    | cons a es => cases f <;> rfl
  | _ => rfl
section
variable {X : Cx} {C : Ct} {pos p : Pos} {a b c : Expr} {a' b' c' : E} {es : List Expr} {r' : Es} {x : Str}
/-! ### globals -/
/-- a module's constant -/
structure Glo (K : PySem.W.Frag) (cn : Nat → Addr) (u : Value) (d : D) : Prop where
  is : ∃ v : V, RelV v u ∧ ∀ O H, Den K cn O H v d
theorem s_glo {g : Nat} {u : Value} (hg : Gl X x) (hm : X.mg x = some u) (hd : (x == ("__debug__" : Str)) = false) (h : ∀ d, C.wd.glos[g]? = some d → Glo X.K C.cn u d) : PE X (.Name x pos) (C.te X.K (.glo g)) := by
  refine ⟨fun pins s σ H Q I ⟨O, e, R, q⟩ => ?_⟩
  simp only [Ct.ev, ev] at q
  obtain ⟨r, hr, c⟩ := Cn.of_some q
  simp only [Option.map_eq_some_iff] at hr
  obtain ⟨d, hd', rfl⟩ := hr
  obtain ⟨v, rv, dv⟩ := (h d hd').is
  exact ld_glob I hg hm ⟨v, H, I, rv, c.val R (dv O H)⟩ hd
/-! ### isinstance -/
/-- what must hold of the classes -/
structure IsF (K : PySem.W.Frag) (cn : Nat → Addr) (nc : Nat) : Prop where
  cls : ∀ c, c < nc → Cls K (cn c) ∧ PySem.W.findIn K (.ref (cn c)) "__class__" = some (some (.builtin "object.__class__")) ∧ PySem.W.mroIn K (cn c) (.type "object") = some true
  get : 0 < nc → PySem.W.specialIn K (.builtin "object.__class__") "__get__" = some (some (.builtin "getset_descriptor.__get__")) ∧ PySem.W.takesIn K (.builtin "object.__class__") = some true
  own : ∀ j k, j < nc → k < nc → PySem.W.kitOne K (.ref (cn j)) (.ref (cn k)) = some (decide (j = k))
  ty : ∀ k, k < nc → ∀ T ∈ ["NoneType", "bool", "int", "str", "tuple", "list", "dict"], PySem.W.kitOne K (.type T) (.ref (cn k)) = some false
  oty : ∀ k, k < nc → ∀ T ∈ ["int", "bool", "str", "tuple", "list", "dict"], PySem.W.kitOne K (.ref (cn k)) (.type T) = some false
/-- the type by the datum -/
def tyN : D → Option String
  | .non => some "NoneType"
  | .bl _ => some "bool"
  | .int _ => some "int"
  | .str _ => some "str"
  | .tup _ => some "tuple"
  | .lst _ => some "list"
  | .dct _ _ => some "dict"
  | _ => none
theorem tyX_of {K : PySem.W.Frag} {O : Addr → Prop} {e : Fm} {σ : L2.St} {H : Hp} {v : V} {d : D} {T : String} (h : Rd1 K C O e σ H v d) (q : tyN d = some T) : TyX K H v (.type T) := by
  cases d with
  | non =>
    cases q
    rcases h with h | ⟨_, _, _, c⟩
    · cases h; exact .base .non
    · cases c
  | bl b => cases q; obtain rfl := h.bl; exact .base (.bl b)
  | int b => cases q; obtain rfl := h.int; exact .base (.int b)
  | str b => cases q; obtain rfl := h.str; exact .base (.str b)
  | tup xs =>
    cases q
    obtain ⟨p, vs, rfl, ht, _⟩ := h.tup
    rcases ht with ⟨_, ht⟩ | ⟨_, o, its, n, lk, hc, _⟩
    · exact .base (.tup ht)
    · exact .kTuple lk hc
  | lst xs => cases q; obtain ⟨p, vs, rfl, ht, _⟩ := h.lst; exact .base (.lst ht)
  | fro xs => cases q
  | dct t kvs =>
    cases q
    cases t with
    | false =>
      obtain ⟨p, vs, rfl, ht, _⟩ := h.dK
      rcases ht with ht | ⟨o, ht⟩
      · exact .base (.dK ht)
      · exact .fDict ht
    | true => obtain ⟨p, vs, rfl, ht, _⟩ := h.dT; exact .base (.dT ht)
  | obj c fs => cases q
theorem isiTy_eq {d : D} {n : String} {r : Bool} (h : isiTy d n = some r) : (∃ c fs, d = .obj c fs) ∨ ∃ T, tyN d = some T ∧ r = (decide (T = n) || (decide (T = "bool") && decide (n = "int"))) := by
  cases d <;> simp [isiTy, tyN] at h ⊢ <;> (try subst h) <;> (try simp [eq_comm]) <;> try exact ⟨_, _, rfl⟩
theorem kit_tyN {K : PySem.W.Frag} {T n : String} (h1 : T ∈ ["NoneType", "bool", "int", "str", "tuple", "list", "dict"]) (h2 : n ∈ ["int", "bool", "str", "tuple", "list", "dict"]) : PySem.W.kitOne K (.type T) (.type n) = some (decide (T = n) || (decide (T = "bool") && decide (n = "int"))) := by
  have all : ∀ T ∈ ["NoneType", "bool", "int", "str", "tuple", "list", "dict"], ∀ n ∈ ["int", "bool", "str", "tuple", "list", "dict"], kitB T n = some (decide (T = n) || (decide (T = "bool") && decide (n = "int"))) := by decide +kernel
  exact kit_ty (all T h1 n h2)
theorem tyN_mem {d : D} {T : String} (h : tyN d = some T) : T ∈ ["NoneType", "bool", "int", "str", "tuple", "list", "dict"] := by
  cases d <;> simp [tyN] at h <;> subst h <;> decide
theorem tyOk_mem {n : String} (h : tyOk n = true) : n ∈ ["int", "bool", "str", "tuple", "list", "dict"] := by
  simp only [tyOk, Bool.or_eq_true, decide_eq_true_eq] at h
  simp
  rcases h with ((((h | h) | h) | h) | h) | h <;> simp [h]
theorem isi1_ty {W : Wd} {d : D} {n : String} (h : ¬ ∃ c fs, d = .obj c fs) : isi1 W d (.ty n) = if tyOk n then isiTy d n else none := by
  cases d <;> first | rfl | exact absurd ⟨_, _, rfl⟩ h
/-- isinstance's reading, one class -/
theorem c_isi {K : PySem.W.Frag} {cl : Cl} {v : V} {u : Value} {σ : L2.St} {H : Hp} {Q : VK} (F : IsF K C.cn C.wd.nc) (hc : ClsV v u) (hv : match cl with
    | .ty n => u = .type n
    | .own k => u = .ref (C.cn k)) (h : C.te K (.isi a' [cl]) σ H Q) : C.te K a' σ H fun x H1 => rIsi K [x, v] H1 Q := by
  refine (oneE (f := isiR C.wd [cl]) h fun _ => rfl).imp fun x H1 ⟨r, e1, O1, R1, k1, c1⟩ => ?_
  replace c1 : Cn K C.cn C.L (C.k K) (C.xw K σ) O1 H1 (Mine e1 σ) σ (rd1 (fun d => (isi1 C.wd d cl).map fun b => .val (.bl b)) r e1) Q := c1
  unfold rd1 at c1
  cases q : r.rd e1 with
  | none => rw [q] at c1; exact c1.elim
  | some dx =>
    rw [q] at c1
    have rd := RvOk.rd R1 k1 q
    obtain ⟨rr, hr, c⟩ := Cn.of_some c1
    simp only [Option.map_eq_some_iff] at hr
    obtain ⟨t, ht, rfl⟩ := hr
    have hQ : Q (.bl t) H1 := c.val R1 (.bl t)
    have ob : ∀ {c : Nat} {fs : List (Str × D)}, dx = .obj c fs → c < C.wd.nc → TyX K H1 x (.ref (C.cn c)) := fun e hc => by
      subst e
      obtain ⟨p, dd, vs, rfl, hp, _⟩ := rd.obj
      obtain ⟨z1, z2, z3⟩ := F.cls _ hc
      obtain ⟨z4, z5⟩ := F.get (by omega)
      exact .base (.ins hp z1 z2 z4 z5 z3)
    cases cl with
    | ty n =>
      subst hv
      by_cases ho : ∃ c fs, dx = .obj c fs
      · obtain ⟨c, fs, rfl⟩ := ho
        simp only [isi1] at ht
        split at ht
        · rename_i ok
          cases ht
          exact ⟨x, _, _, _, _, rfl, hc, ob rfl ok.2, F.oty _ ok.2 _ (tyOk_mem ok.1), hQ⟩
        · cases ht
      · rw [isi1_ty ho] at ht
        split at ht
        · rename_i ok
          rcases isiTy_eq ht with ⟨k, fs, rfl⟩ | ⟨T, hT, rfl⟩
          · exact absurd ⟨_, _, rfl⟩ ho
          · exact ⟨x, _, _, _, _, rfl, hc, tyX_of rd hT, kit_tyN (tyN_mem hT) (tyOk_mem ok), hQ⟩
        · cases ht
    | own k =>
      subst hv
      have ba : ∀ {T : String}, tyN dx = some T → k < C.wd.nc → t = false → rIsi K [x, v] H1 Q := fun hT hk e => by
        subst e
        exact ⟨x, _, _, _, _, rfl, hc, tyX_of rd hT, F.ty k hk _ (tyN_mem hT), hQ⟩
      cases dx with
      | obj j fs =>
        simp only [isi1] at ht
        split at ht
        · rename_i ok
          cases ht
          exact ⟨x, _, _, _, _, rfl, hc, ob rfl ok.1, F.own _ _ ok.1 ok.2, hQ⟩
        · cases ht
      | fro xs => simp [isi1] at ht
      | _ =>
        simp only [isi1] at ht
        split at ht
        · rename_i ok
          cases ht
          exact ba rfl ok rfl
        · cases ht
/-- isinstance(a, x) -/
theorem s_isi {cl : Cl} {v : V} {u : Value} {y : Str} {q : Pos} (F : IsF X.K C.cn C.wd.nc) (hc : ClsV v u) (hv : match cl with
    | .ty n => u = .type n
    | .own k => u = .ref (C.cn k)) (hg : Gl X "isinstance") (hm : X.mg "isinstance" = none) (ha : PE X a (C.te X.K a')) (hb : PE X (.Name y q) (tC v)) (hs : noStar a = true) :
    PE X (.Call (.Name "isinstance" p) [a, .Name y q] [] pos) (C.te X.K (.isi a' [cl])) := by
  refine PE.imp (pe_callB call_isi hg hm (by rfl) (pa_cons ha (pa_cons hb pa_nil rfl) (star_cons hs)) (by decide) (by decide) (star_cons hs) (plain_back (by rfl))) fun σ H Q h => ?_
  exact c_isi F hc hv h
end
end
end PV
/-! ## rules: repr, str, min, max, sum -/
namespace PV
open PySem L2 PyProof.Rows SkE
noncomputable section
section
variable {X : Cx} {C : Ct}
mutual
theorem reads_of {pins : List (Addr × Obj)} {s : Shared} {σ : L2.St} {H : Hp} {cn : Nat → Addr} {O : Addr → Prop} (I : Inv X pins σ H s) : ∀ {v : V} {d : D} {u : Value} {p : PyData}, Den X.K cn O H v d → toPy d = some p → RelV v u → ∃ as, Reads s.heap u p as
  | _, .non, _, _, .non, e, r => by cases e; cases r; exact ⟨_, .none⟩
  | _, .bl b, _, _, .bl _, e, r => by cases e; cases r; exact ⟨_, .bool _⟩
  | _, .int i, _, _, .int _, e, r => by cases e; obtain ⟨t, rfl⟩ := r; exact ⟨_, .int _ _⟩
  | _, .str x, _, _, .str _, e, r => by cases e; obtain ⟨t, rfl⟩ := r; exact ⟨_, .str _ _⟩
  | _, .tup ds, _, _, .tup h k, e, r => by
    simp only [toPy, Option.map_eq_some_iff] at e
    obtain ⟨ps, e, rfl⟩ := e
    cases r
    obtain ⟨its, rv, ⟨o, ho, hcl, n, hd⟩, _⟩ := I.tuple h.sq
    obtain ⟨as, ra⟩ := readsAll_of I k e rv
    exact ⟨_, .tuple ho hcl hd (by simpa using ra)⟩
  | _, .lst ds, _, _, .lst no h k, e, r => by
    simp only [toPy, Option.map_eq_some_iff] at e
    obtain ⟨ps, e, rfl⟩ := e
    cases r
    obtain ⟨its, rv, hl, _⟩ := I.list (SqL.of h)
    obtain ⟨o, ho, hcl, n, hd⟩ := hl.isList
    obtain ⟨as, ra⟩ := readsAll_of I k e rv
    exact ⟨_, .list ho hcl hd (by simpa using ra)⟩
theorem readsAll_of {pins : List (Addr × Obj)} {s : Shared} {σ : L2.St} {H : Hp} {cn : Nat → Addr} {O : Addr → Prop} (I : Inv X pins σ H s) : ∀ {vs : List V} {ds : List D} {us : List Value} {ps : List PyData}, DenL X.K cn O H vs ds → toPys ds = some ps → Vals vs us → ∃ as, ReadsAll s.heap us ps as
  | _, [], us, _, .nil, e, r => by cases e; cases r; exact ⟨_, .nil⟩
  | _, d :: ds, us, _, .cons h k, e, r => by
    simp only [toPys] at e
    split at e
    · rename_i q1 q2
      cases e
      cases r with
      | cons r1 r2 =>
        obtain ⟨as, a⟩ := reads_of I h q1 r1
        obtain ⟨bs, b⟩ := readsAll_of I k q2 r2
        exact ⟨_, .cons a b⟩
    · cases e
end
theorem b_repr (hg : X.A.guards = some []) (hu : X.A.units + 32 < cLine) : CallR X (.builtin "repr") (rB X C .repr) := by
  intro pins s σ' H xs us Q I rx ⟨O, e, σ, ds, r, R, k, hf, hc⟩
  cases k with
  | nil => simp [bltD] at hf
  | cons h t =>
    rename_i v d vs ds
    cases t with
    | cons _ _ => cases d <;> simp [bltD] at hf
    | nil =>
      simp only [bltD, Option.map_eq_some_iff] at hf
      obtain ⟨x, hx, rfl⟩ := hf
      unfold shownD at hx
      split at hx
      · rename_i p hp
        split at hx
        · rename_i hh
          obtain ⟨h1, h2, h3, h4⟩ := hh
          cases hx
          obtain ⟨u, rfl, ru⟩ := vals1 rx
          have rd : ∃ as, Reads s.heap u p as := by
            rcases h with h | ⟨a, rfl, o, c⟩
            · exact reads_of I h hp ru
            · cases c with
              | lst h k =>
                cases ru
                simp only [toPy, Option.map_eq_some_iff] at hp
                obtain ⟨ps, e, rfl⟩ := hp
                obtain ⟨its, rv, hl, _⟩ := I.list (SqL.of h)
                obtain ⟨o, ho, hcl, n, hd⟩ := hl.isList
                obtain ⟨as, ra⟩ := readsAll_of I k e rv
                exact ⟨_, .list ho hcl hd (by simpa using ra)⟩
              | _ => simp [toPy] at hp
          obtain ⟨as, rd⟩ := rd
          have hnd := PyData.noDict_hsm (as := as) h2
          cases rd with
          | none => exact PySem.P.repr_of_none ⟨.str _, H, I.tok _, ⟨_, rfl⟩, hc.val R (.str _)⟩
          | bool b => exact PySem.P.repr_of_bool ⟨.str _, H, I.tok _, ⟨_, by simp only [PyData.shown]; rfl⟩, hc.val R (.str _)⟩
          | int i t => exact PySem.P.repr_of_int (by simpa [PyData.showable] using h1) ⟨.str _, H, I.tok _, ⟨_, by simp only [PyData.shown]; rfl⟩, hc.val R (.str _)⟩
          | str x t => exact PySem.P.repr_of_str ⟨.str _, H, I.tok _, ⟨_, by simp only [PyData.shown]; rfl⟩, hc.val R (.str _)⟩ (by simpa only [PyData.shown] using h4)
          | list a b c d => exact repr_of_reads' (.list a b c d) h1 hnd hg (by omega) (fun _ _ e => e) (fun h' t tk kk => ⟨.str _, H, I.kept kk, ⟨_, rfl⟩, hc.val R (.str _)⟩) h4
          | tuple a b c d => exact repr_of_reads' (.tuple a b c d) h1 hnd hg (by omega) (fun _ _ e => e) (fun h' t tk kk => ⟨.str _, H, I.kept kk, ⟨_, rfl⟩, hc.val R (.str _)⟩) h4
          | dict a b c d f => simp [PyData.hasDict] at h2
        · cases hx
      · cases hx
theorem b_str : CallR X (.type "str") (rB X C .str) := by
  intro pins s σ' H xs us Q I rx ⟨O, e, σ, ds, r, R, k, hf, hc⟩
  cases k with
  | nil => simp [bltD] at hf
  | cons h t =>
    rename_i v d vs ds
    cases t with
    | cons _ _ => cases d <;> simp [bltD] at hf
    | nil =>
      cases d with
      | str x =>
        simp only [bltD] at hf
        cases hf
        obtain rfl := h.str
        exact call_str_str pins s σ' H _ us Q I rx ⟨_, rfl, hc.val R (.str _)⟩
      | int i =>
        simp only [bltD] at hf
        split at hf
        · rename_i hl
          cases hf
          obtain rfl := h.int
          exact call_str_int pins s σ' H _ us Q I rx ⟨_, rfl, hl, hc.val R (.str _)⟩
        · cases hf
      | _ => simp [bltD] at hf
theorem ints_of {K : PySem.W.Frag} {cn : Nat → Addr} {O : Addr → Prop} {H : Hp} : ∀ {vs : List V} {ds : List D} {bs : List Int}, DenL K cn O H vs ds → intsD ds = some bs → vs = bs.map V.int
  | _, [], bs, .nil, q => by simp only [intsD, Option.some.injEq] at q; subst q; rfl
  | _, _ :: _, bs, .cons h t, q => by
    simp only [intsD] at q
    split at q
    · rename_i q1
      cases q
      cases h
      rw [ints_of t q1]
      rfl
    · cases q
theorem foldl_min : ∀ (xs : List Int) (x : Int), (xs.foldl min x = x ∨ xs.foldl min x ∈ xs) ∧ xs.foldl min x ≤ x ∧ ∀ y ∈ xs, xs.foldl min x ≤ y
  | [], x => ⟨.inl rfl, Int.le_refl _, fun _ h => by cases h⟩
  | z :: xs, x => by
    obtain ⟨a, b, c⟩ := foldl_min xs (min x z)
    simp only [List.foldl_cons, List.mem_cons]
    refine ⟨?_, by omega, ?_⟩
    · rcases a with a | a
      · rw [a]; omega
      · exact .inr (.inr a)
    · rintro y (rfl | h)
      · omega
      · exact c y h
theorem foldl_max : ∀ (xs : List Int) (x : Int), (xs.foldl max x = x ∨ xs.foldl max x ∈ xs) ∧ x ≤ xs.foldl max x ∧ ∀ y ∈ xs, y ≤ xs.foldl max x
  | [], x => ⟨.inl rfl, Int.le_refl _, fun _ h => by cases h⟩
  | z :: xs, x => by
    obtain ⟨a, b, c⟩ := foldl_max xs (max x z)
    simp only [List.foldl_cons, List.mem_cons]
    refine ⟨?_, by omega, ?_⟩
    · rcases a with a | a
      · rw [a]; omega
      · exact .inr (.inr a)
    · rintro y (rfl | h)
      · omega
      · exact c y h
theorem minI_ok {xs : List Int} {i m : Int} (h : minI xs = some i) (h1 : m ∈ xs) (h2 : ∀ y, y ∈ xs → m ≤ y) : m = i := by
  cases xs with
  | nil => cases h
  | cons x xs =>
    simp only [minI, Option.some.injEq] at h
    obtain ⟨a, b, c⟩ := foldl_min xs x
    rw [h] at a b c
    have h3 : m ≤ i := by
      rcases a with a | a
      · rw [a]; exact h2 _ List.mem_cons_self
      · exact h2 _ (List.mem_cons_of_mem _ a)
    rcases List.mem_cons.mp h1 with rfl | h1
    · omega
    · have := c _ h1; omega
theorem maxI_ok {xs : List Int} {i m : Int} (h : maxI xs = some i) (h1 : m ∈ xs) (h2 : ∀ y, y ∈ xs → y ≤ m) : m = i := by
  cases xs with
  | nil => cases h
  | cons x xs =>
    simp only [maxI, Option.some.injEq] at h
    obtain ⟨a, b, c⟩ := foldl_max xs x
    rw [h] at a b c
    have h3 : i ≤ m := by
      rcases a with a | a
      · rw [a]; exact h2 _ List.mem_cons_self
      · exact h2 _ (List.mem_cons_of_mem _ a)
    rcases List.mem_cons.mp h1 with rfl | h1
    · omega
    · have := c _ h1; omega
theorem b_min1 (hc' : X.calm = true) : CallR X (.builtin "min") (rB X C .min1) := by
  intro pins s σ' H xs us Q I rx ⟨O, e, σ, ds, r, R, k, hf, hc⟩
  cases k with
  | nil => simp [bltD] at hf
  | cons h t =>
    rename_i v d vs ds
    cases t with
    | cons _ _ => cases d <;> simp [bltD] at hf
    | nil =>
      cases d with
      | lst x =>
        simp only [bltD, Option.map_eq_some_iff, Option.bind_eq_some_iff] at hf
        obtain ⟨i, ⟨bs, hb, hi⟩, rfl⟩ := hf
        obtain ⟨p, vs, rfl, hp, dl⟩ := h.lst
        have := ints_of dl hb
        subst this
        exact cr_min hc' pins s σ' H _ us Q I rx ⟨p, bs, rfl, SqL.of hp, by cases bs; cases hi; simp, fun m h1 h2 => by rw [minI_ok hi h1 h2]; exact hc.val R (.int _)⟩
      | _ => simp [bltD] at hf
theorem ints_den {K : PySem.W.Frag} {cn : Nat → Addr} {O : Addr → Prop} {H : Hp} : ∀ is : List Int, DenL K cn O H (is.map V.int) (is.map D.int)
  | [] => .nil
  | i :: is => .cons (.int i) (ints_den is)
theorem isort_uniq : ∀ {a b : List Int}, a.Perm b → a.Pairwise (· ≤ ·) → b.Pairwise (· ≤ ·) → a = b
  | [], b, p, _, _ => (List.nil_perm.mp p).symm
  | x :: a, [], p, _, _ => absurd p.symm (by simp)
  | x :: a, y :: b, p, h1, h2 => by
    rw [List.pairwise_cons] at h1 h2
    have e : x = y := by
      have m1 : x ∈ y :: b := p.mem_iff.mp List.mem_cons_self
      have m2 : y ∈ x :: a := p.mem_iff.mpr List.mem_cons_self
      rcases List.mem_cons.mp m1 with z | z
      · exact z
      · rcases List.mem_cons.mp m2 with w | w
        · exact w.symm
        · exact Int.le_antisymm (h1.1 y w) (h2.1 x z)
    subst e
    rw [isort_uniq (List.Perm.cons_inv p) h1.2 h2.2]
theorem isort_perm (l : List Int) : (isort l).Perm l := List.mergeSort_perm l _
theorem isort_le (l : List Int) : (isort l).Pairwise (· ≤ ·) := by
  have h := List.pairwise_mergeSort (le := fun a b : Int => decide (a ≤ b)) (fun a b c h1 h2 => by simp only [decide_eq_true_eq] at *; omega) (fun a b => by simp only [Bool.or_eq_true, decide_eq_true_eq]; omega) l
  exact h.imp fun z => of_decide_eq_true z
theorem b_sorted : CallR X (.builtin "sorted") (rB X C .sorted) := by
  intro pins s σ' H xs us Q I rx ⟨O, e, σ, ds, r, R, k, hf, hc⟩
  cases k with
  | nil => simp [bltD] at hf
  | cons h t =>
    rename_i v d vs ds
    cases t with
    | cons _ _ => cases d <;> simp [bltD] at hf
    | nil =>
      cases d with
      | lst x =>
        simp only [bltD, Option.map_eq_some_iff] at hf
        obtain ⟨is, q, rfl⟩ := hf
        obtain ⟨p, vs, rfl, hp, dl⟩ := h.lst
        obtain rfl := ints_of dl q
        refine cr_sortedI pins s σ' H _ us Q I rx ⟨p, is, rfl, SqL.of hp, fun ns' a pm rs n => ?_⟩
        have e2 : ns' = isort is := isort_uniq (pm.trans (isort_perm is).symm) rs (isort_le is)
        subst e2
        exact hc.newLst R (ints_den _) a n
      | _ => simp [bltD] at hf
theorem b_max1 (hc' : X.calm = true) : CallR X (.builtin "max") (rB X C .max1) := by
  intro pins s σ' H xs us Q I rx ⟨O, e, σ, ds, r, R, k, hf, hc⟩
  cases k with
  | nil => simp [bltD] at hf
  | cons h t =>
    rename_i v d vs ds
    cases t with
    | cons _ _ => cases d <;> simp [bltD] at hf
    | nil =>
      cases d with
      | lst x =>
        simp only [bltD, Option.map_eq_some_iff, Option.bind_eq_some_iff] at hf
        obtain ⟨i, ⟨bs, hb, hi⟩, rfl⟩ := hf
        obtain ⟨p, vs, rfl, hp, dl⟩ := h.lst
        have := ints_of dl hb
        subst this
        exact cr_max hc' pins s σ' H _ us Q I rx ⟨p, bs, rfl, SqL.of hp, by cases bs; cases hi; simp, fun m h1 h2 => by rw [maxI_ok hi h1 h2]; exact hc.val R (.int _)⟩
      | _ => simp [bltD] at hf
theorem b_sum (hc' : X.calm = true) : CallR X (.builtin "sum") (rB X C .sum) := by
  intro pins s σ' H xs us Q I rx ⟨O, e, σ, ds, r, R, k, hf, hc⟩
  cases k with
  | nil => simp [bltD] at hf
  | cons h t =>
    rename_i v d vs ds
    cases t with
    | cons _ _ => cases d <;> simp [bltD] at hf
    | nil =>
      cases d with
      | lst x =>
        simp only [bltD, Option.map_eq_some_iff] at hf
        obtain ⟨bs, hb, rfl⟩ := hf
        obtain ⟨p, vs, rfl, hp, dl⟩ := h.lst
        have := ints_of dl hb
        subst this
        exact cr_sum hc' pins s σ' H _ us Q I rx ⟨p, bs, rfl, SqL.of hp, hc.val R (.int _)⟩
      | _ => simp [bltD] at hf
end
end
end PV
/-! ## rules: built-in calls by their table, methods by theirs, stars -/
namespace PV
open PySem L2 PyProof.Rows
noncomputable section
/-- the name, the value of a built-in -/
def Blt.nm : Blt → Str
  | .len => "len" | .tuple => "tuple" | .list => "list" | .int => "int" | .str => "str" | .repr => "repr" | .all => "all" | .any => "any" | .sorted => "sorted"
  | .min1 => "min" | .min2 => "min" | .max1 => "max" | .max2 => "max" | .abs => "abs" | .divmod => "divmod" | .sum => "sum" | .bool => "bool"
/-- a type's name, or a function's -/
def Blt.vl : Blt → String ⊕ String
  | .len => .inr "len" | .tuple => .inl "tuple" | .list => .inl "list" | .int => .inl "int" | .str => .inl "str" | .repr => .inr "repr" | .all => .inr "all" | .any => .inr "any" | .sorted => .inr "sorted"
  | .min1 => .inr "min" | .min2 => .inr "min" | .max1 => .inr "max" | .max2 => .inr "max" | .abs => .inr "abs" | .divmod => .inr "divmod" | .sum => .inr "sum" | .bool => .inl "bool"
def bval : String ⊕ String → Value
  | .inl T => .type T
  | .inr f => .builtin f
section
variable {X : Cx} {C : Ct} {pos p : Pos} {a b c : Expr} {a' b' c' : E} {es : List Expr} {r' : Es} {x : Str}
theorem b_none {bl : Blt} {f : Value} (h : ∀ ds, bltD bl ds = none) : CallR X f (rB X C bl) := by
  intro pins s σ' H xs us Q I rx ⟨O, e, σ, ds, r, R, k, hf, hc⟩
  rw [h] at hf
  cases hf
/-- every built-in's rule -/
theorem b_every (hc : X.calm = true) (hg : X.A.guards = some []) (hu : X.A.units + 32 < cLine) : ∀ bl : Blt, CallR X (bval bl.vl) (rB X C bl)
  | .len => b_len
  | .tuple => b_tuple
  | .list => b_list hc
  | .int => b_int
  | .all => b_all hc
  | .any => b_any hc
  | .min2 => b_min2 hc
  | .max2 => b_max2 hc
  | .abs => b_abs
  | .divmod => b_divmod
  | .bool => b_bool
  | .str => b_str
  | .repr => b_repr hg hu
  | .sorted => b_sorted
  | .min1 => b_min1 hc
  | .max1 => b_max1 hc
  | .sum => b_sum hc
theorem s_blt {bl : Blt} (hc : CallR X (bval bl.vl) (rB X C bl)) (hg : Gl X bl.nm) (hm : X.mg bl.nm = none) (hs : (a :: es).all noStar = true) (h : PA X (a :: es) (C.ta X.K r')) :
    PE X (.Call (.Name bl.nm p) (a :: es) [] pos) (C.te X.K (.blt bl r')) := by
  have h1 : noStar a = true ∧ es.all noStar = true := by rw [List.all_cons, Bool.and_eq_true] at hs; exact hs
  have hv : bootBuiltins bl.nm = some (bval bl.vl) := by cases bl <;> rfl
  have hn : bl.nm ≠ "__name__" := by cases bl <;> decide
  have hd : (bl.nm == ("__debug__" : Str)) = false := by cases bl <;> decide
  cases hb : bl.vl with
  | inl T =>
    rw [hb] at hc hv
    exact PE.imp (pe_callTy hc hg hm hv h hn hd (star_cons h1.1) (plain_back h1.2)) fun σ H Q q => c_blt q
  | inr f =>
    rw [hb] at hc hv
    exact PE.imp (pe_callB hc hg hm hv h hn hd (star_cons h1.1) (plain_back h1.2)) fun σ H Q q => c_blt q
/-! ### methods of built-in things -/
def Bmt.ty : Bmt → String
  | .append => "list" | .extend => "list" | .insert => "list" | .pop0 => "list" | .pop1 => "list" | .index => "list" | .count => "list" | .get1 => "dict" | .get2 => "dict"
  | .join => "str" | .split => "str" | .upper => "str" | .replace => "str"
def Bmt.nm : Bmt → Str
  | .append => "append" | .extend => "extend" | .insert => "insert" | .pop0 => "pop" | .pop1 => "pop" | .index => "index" | .count => "count" | .get1 => "get" | .get2 => "get"
  | .join => "join" | .split => "split" | .upper => "upper" | .replace => "replace"
def Bmt.id : Bmt → String
  | .append => "list.append" | .extend => "list.extend" | .insert => "list.insert" | .pop0 => "list.pop" | .pop1 => "list.pop" | .index => "list.index" | .count => "list.count" | .get1 => "dict.get" | .get2 => "dict.get"
  | .join => "str.join" | .split => "str.split" | .upper => "str.upper" | .replace => "str.replace"
theorem bm_plain : ∀ m : Bmt, PlainAttrs m.ty
  | .append | .extend | .insert | .pop0 | .pop1 | .index | .count => PySem.F.plainAttrs_list
  | .get1 | .get2 => PySem.F.plainAttrs_dict
  | .join | .split | .upper | .replace => PySem.F.plainAttrs_str
theorem bm_slot : ∀ m : Bmt, Slot m.ty m.nm m.id
  | .append => PySem.F.slot_list_append
  | .extend => PySem.F.slot_list_extend
  | .insert => PySem.F.slot_list_insert
  | .pop0 => PySem.F.slot_list_pop
  | .pop1 => PySem.F.slot_list_pop
  | .index => PySem.F.slot_list_index
  | .count => PySem.F.slot_list_count
  | .get1 => PySem.F.slot_dict_get
  | .get2 => PySem.F.slot_dict_get
  | .join => PySem.F.slot_str_join
  | .split => PySem.F.slot_str_split
  | .upper => PySem.F.slot_str_upper
  | .replace => PySem.F.slot_str_replace
theorem bm_type : ∀ m : Bmt, typeOf (.builtin m.id) = pure (.type "method_descriptor")
  | .append => PySem.F.type_list_append
  | .extend => PySem.F.type_list_extend
  | .insert => PySem.F.type_list_insert
  | .pop0 => PySem.F.type_list_pop
  | .pop1 => PySem.F.type_list_pop
  | .index => PySem.F.type_list_index
  | .count => PySem.F.type_list_count
  | .get1 => PySem.F.type_dict_get
  | .get2 => PySem.F.type_dict_get
  | .join => PySem.F.type_str_join
  | .split => PySem.F.type_str_split
  | .upper => PySem.F.type_str_upper
  | .replace => PySem.F.type_str_replace
theorem m_none {m : Bmt} {f : String} (h : ∀ d ds, bmtD m d ds = none) : MtR X f (rM X C m) := by
  intro pins s σ' H x vs v us Q I rx rv ⟨O, e, σ, r, ds, dx, y, R, k, q, dl, hy, c⟩
  rw [h] at hy
  cases hy
theorem m_every (hu : X.A.units + 1 < cLine) : ∀ m : Bmt, MtR X m.id (rM X C m)
  | .append => mt_append'
  | .extend => mt_extend'
  | .insert => mt_insert'
  | .pop0 => mt_pop0'
  | .pop1 => mt_pop1'
  | .get1 => mt_get1' hu
  | .get2 => mt_get2' hu
  | .index => m_none fun d ds => by simp [bmtD]
  | .count => m_none fun d ds => by simp [bmtD]
  | .join => m_none fun d ds => by simp [bmtD]
  | .split => m_none fun d ds => by simp [bmtD]
  | .upper => m_none fun d ds => by simp [bmtD]
  | .replace => m_none fun d ds => by simp [bmtD]
theorem bm_ty {m : Bmt} {K : PySem.W.Frag} {O : Addr → Prop} {e : Fm} {σ : L2.St} {H : Hp} {v : V} {d : D} (ok : bmtOk m (some d) = true) (h : Rd1 K C O e σ H v d) : tyW K m.ty v H := by
  cases m <;> cases d <;> first | (cases ok; done) | skip
  all_goals first
    | (obtain ⟨p, vs, rfl, hp, _⟩ := h.lst
       exact .inl (.inl ⟨rfl, vs, SqL.of hp⟩))
    | (rename_i t kvs
       cases t with
       | false =>
         obtain ⟨p, vs, rfl, hp, _⟩ := h.dK
         rcases hp with hp | ⟨o, hp⟩
         · exact .inl (.inr (.inr (.inl ⟨rfl, .inl ⟨vs, hp⟩⟩)))
         · exact .inr ⟨rfl, p, o, vs, rfl, hp⟩
       | true => obtain ⟨p, vs, rfl, hp, _⟩ := h.dT; exact .inl (.inr (.inr (.inl ⟨rfl, .inr ⟨vs, hp⟩⟩))))
theorem tyW_is {pins : List (Addr × Obj)} {σ : L2.St} {H : Hp} {s : Shared} {T : String} {x : V} {v : Value} (I : Inv X pins σ H s) (rx : RelV x v) (ty : tyW X.K T x H) : s.TypeIs v T ∧ ∀ a, v = .ref a → ∃ ob, s.heap.get? a = some ob ∧ ob.dict = none := by
  rcases ty with ty | ⟨rfl, p, o, kvs, rfl, hp⟩
  · exact tyV_is I rx ty
  · cases rx
    obtain ⟨_, hg, hx, _⟩ := I.frzK hp
    refine ⟨⟨o, hg, hx.1⟩, fun a ea => ?_⟩
    cases ea
    exact ⟨o, hg, hx.2.1⟩
theorem s_bmt {m : Bmt} {apos : Pos} (hm : MtR X m.id (rM X C m)) (ha : PE X a (C.te X.K a')) (hb : noCall a = true) (hs : (b :: es).all noStar = true) (hl : (b :: es).length < 30) (hline : (apos.endLine == pos.line) = true) (h : PA X (b :: es) (C.ta X.K r')) :
    PE X (.Call (.Attribute a m.nm apos) (b :: es) [] pos) (C.te X.K (.bmt m a' r')) := by
  have h1 : noStar b = true ∧ es.all noStar = true := by rw [List.all_cons, Bool.and_eq_true] at hs; exact hs
  refine ⟨fun pins s σ H Q I q => ?_⟩
  refine wpAny_Call_method_late (attr_base hb) (by rw [plain_all hs, decide_eq_true (by simpa using hl)]; rfl) hline rfl (thn (ha.run pins s σ H _ I (c_bmt bm_ty q)) fun u s2 ⟨z, H2, J, ru, tz, q2⟩ => ?_)
  obtain ⟨k1, k2⟩ := tyW_is J ru tz
  refine ⟨m.ty, m.id, bm_plain m, bm_slot m, bm_type m, k1, k2, ?_⟩
  have hA := h.run pos pins s2 σ H2 _ J q2
  rw [star_cons h1.1] at hA ⊢
  refine Calls.callWith_builtin (by show (false || (backTo pos (starEach es X.env)).any (·.1)) = false; rw [plain_back h1.2]; rfl) (Calls.evalArgs_plain ?_)
  exact thn hA fun us s3 ⟨vs, H3, J3, r3, q3⟩ => hm pins s3 σ H3 z vs u us Q J3 ru r3 q3
theorem s_bmt0 {m : Bmt} {apos : Pos} (hm : MtR X m.id (rM X C m)) (ha : PE X a (C.te X.K a')) (hb : noCall a = true) (hline : (apos.endLine == pos.line) = true) :
    PE X (.Call (.Attribute a m.nm apos) [] [] pos) (C.te X.K (.bmt m a' .nil)) := by
  refine ⟨fun pins s σ H Q I q => ?_⟩
  have q' : C.te X.K a' σ H fun x H1 => tyW X.K m.ty x H1 ∧ rM X C m x [] H1 Q := tI.imp (c_bmt (r' := .nil) bm_ty q) fun x H1 ⟨ty, O, e, R, c⟩ => ⟨ty, c [] O H1 R .nil .refl (fun _ z => z) fun j u q a => by simp at a⟩
  refine wpAny_Call_method0_late (attr_base hb) hline (thn (ha.run pins s σ H _ I q') fun u s2 ⟨z, H2, J, ru, tz, q2⟩ => ?_)
  obtain ⟨k1, k2⟩ := tyW_is J ru tz
  exact ⟨m.ty, m.id, bm_plain m, bm_slot m, bm_type m, k1, k2, Calls.callWith_builtin rfl (PySem.evalArgs_none (hm pins s2 σ H2 z [] u [] Q J ru .nil q2))⟩
/-! ### stars -/
theorem RsOk.vals {K : PySem.W.Frag} {cn : Nat → Addr} {O : Addr → Prop} {H : Hp} {σ : L2.St} {e : Fm} : ∀ {vs us : List V} {ds : List D} {rs : List Rv}, DenL K cn O H vs ds → RsOk K cn O H σ e us rs → RsOk K cn O H σ e (vs ++ us) (ds.map .val ++ rs)
  | _, _, _, _, .nil, s => s
  | _, _, _, _, .cons h r, s => .cons h (fun a n => nomatch n) (RsOk.vals r s)
theorem s_star {sp : Pos} (ha : PE X a (C.te X.K a')) (hr : PA X es (C.ta X.K r')) : PA X (.Starred a sp :: es) (C.ta X.K (.star a' r')) := by
  refine PA.imp (StX.pa_star ha hr) fun σ H Q h => ?_
  refine (tI.bind (k := C.k X.K) (f := fun x e1 => match (x.rd e1).bind starD with
    | some ds => (evs C.wd C.run r' e1).bind (starR ds)
    | none => .bad) h).imp fun v H1 ⟨O, e, r, e1, O1, A, c⟩ => ?_
  cases q : (r.rd e1).bind starD with
  | none => rw [q] at c; exact c.elim
  | some ds =>
    rw [q] at c
    cases q1 : r.rd e1 with
    | none => rw [q1] at q; cases q
    | some d =>
      rw [q1] at q
      have rd := RvOk.rd A.R A.ok q1
      have lst : ∃ p vs, v = V.ref p ∧ (SqT X.K H1 p vs ∨ SqL X.K H1 p vs) ∧ DenL X.K C.cn O1 H1 vs ds := by
        cases d with
        | tup xs => cases q; obtain ⟨p, vs, rfl, hp, dl⟩ := rd.tup; exact ⟨p, vs, rfl, .inl hp.sq, dl⟩
        | lst xs => cases q; obtain ⟨p, vs, rfl, hp, dl⟩ := rd.lst; exact ⟨p, vs, rfl, .inr (SqL.of hp), dl⟩
        | _ => cases q
      obtain ⟨p, vs, rfl, hs, dl⟩ := lst
      refine ⟨p, vs, rfl, hs, O1, e1, A.R, ?_⟩
      refine (Cn.bind (k := C.ks X.K) (A.sh c)).imp fun us H2 ⟨rs, e2, O2, B, k2, n2, c2⟩ => ?_
      have dl2 : DenL X.K C.cn O2 H2 vs ds := dl.ext (B.s.ext fun a z => A.R.mine z)
      refine c2 (vs ++ us) O2 H2 B.R (RsOk.vals dl2 k2) B.s B.m fun j u q hu hq => ?_
      have hlen := dl2.length
      by_cases hj : j < vs.length
      · rw [List.getElem?_append_left (by simpa [hlen] using hj)] at hq
        simp only [List.getElem?_map, Option.map_eq_some_iff] at hq
        obtain ⟨d', _, rfl⟩ := hq
        exact fun n => nomatch n
      · rw [List.getElem?_append_right (by omega)] at hu
        rw [List.getElem?_append_right (by simpa [hlen] using hj)] at hq
        simp only [List.length_map, ← hlen] at hq
        exact n2 _ u q hu hq
end
end
end PV
/-! ## calls: the arguments' state, the state behind -/
namespace PV
open PySem L2 PyProof.Rows
noncomputable section
/-- the addresses of the arguments -/
def Lof (vs : List V) : Nat → Addr := fun j => match vs[j]? with
  | some (.ref a) => a
  | _ => 0
section
variable {K : PySem.W.Frag} {cn : Nat → Addr} {L : Nat → Addr} {O O' O0 : Addr → Prop} {H H' H0 : Hp} {M : Addr → Prop} {e : Fm} {σ : L2.St}
/-- arguments as a def's slots -/
inductive AsOk (K : PySem.W.Frag) (cn : Nat → Addr) (O : Addr → Prop) (H : Hp) : List V → List Sl → Prop where
  | nil : AsOk K cn O H [] []
  | val {v : V} {d : D} {vs : List V} {as : List Sl} : Den K cn O H v d → AsOk K cn O H vs as → AsOk K cn O H (v :: vs) (.val d :: as)
  | dead {v : V} {vs : List V} {as : List Sl} : AsOk K cn O H vs as → AsOk K cn O H (v :: vs) (.dead :: as)
  | own {a : Addr} {l : Option Nat} {d : D} {vs : List V} {as : List Sl} : O a → Cont K cn O H a d → (∀ (j : Nat) (l' : Option Nat) (d' : D), as[j]? = some (.own l' d') → vs[j]? ≠ some (.ref a)) → AsOk K cn O H vs as → AsOk K cn O H (.ref a :: vs) (.own l d :: as)
theorem AsOk.length {vs : List V} {as : List Sl} (h : AsOk K cn O H vs as) : vs.length = as.length := by
  induction h with
  | nil => rfl
  | val _ _ ih => simp [ih]
  | dead _ ih => simp [ih]
  | own _ _ _ _ ih => simp [ih]
theorem AsOk.getVal {vs : List V} {as : List Sl} (h : AsOk K cn O H vs as) : ∀ {i : Nat} {d : D}, as[i]? = some (.val d) → ∃ v, vs[i]? = some v ∧ Den K cn O H v d := by
  induction h with
  | nil => intro i d q; simp at q
  | val hd _ ih =>
    intro i d q
    cases i with
    | zero => simp at q; subst q; exact ⟨_, rfl, hd⟩
    | succ i => simpa using ih (i := i) (d := d) (by simpa using q)
  | dead _ ih =>
    intro i d q
    cases i with
    | zero => simp at q
    | succ i => simpa using ih (i := i) (d := d) (by simpa using q)
  | own _ _ _ _ ih =>
    intro i d q
    cases i with
    | zero => simp at q
    | succ i => simpa using ih (i := i) (d := d) (by simpa using q)
theorem AsOk.getOwn {vs : List V} {as : List Sl} (h : AsOk K cn O H vs as) : ∀ {i : Nat} {l : Option Nat} {d : D}, as[i]? = some (.own l d) → ∃ a, vs[i]? = some (.ref a) ∧ O a ∧ Cont K cn O H a d := by
  induction h with
  | nil => intro i l d q; simp at q
  | val hd _ ih =>
    intro i l d q
    cases i with
    | zero => simp at q
    | succ i => simpa using ih (i := i) (l := l) (d := d) (by simpa using q)
  | dead _ ih =>
    intro i l d q
    cases i with
    | zero => simp at q
    | succ i => simpa using ih (i := i) (l := l) (d := d) (by simpa using q)
  | own o c _ _ ih =>
    intro i l d q
    cases i with
    | zero => simp at q; obtain ⟨_, rfl⟩ := q; exact ⟨_, rfl, o, c⟩
    | succ i => simpa using ih (i := i) (l := l) (d := d) (by simpa using q)
theorem AsOk.inj {vs : List V} {as : List Sl} (h : AsOk K cn O H vs as) : ∀ {i j : Nat} {l l' : Option Nat} {d d' : D} {a : Addr}, as[i]? = some (.own l d) → as[j]? = some (.own l' d') → vs[i]? = some (.ref a) → vs[j]? = some (.ref a) → i = j := by
  induction h with
  | nil => intro i j l l' d d' a q; simp at q
  | val hd _ ih =>
    intro i j l l' d d' a q q' w w'
    cases i with
    | zero => simp at q
    | succ i =>
      cases j with
      | zero => simp at q'
      | succ j => exact congrArg Nat.succ (ih (l := l) (l' := l') (d := d) (d' := d') (a := a) (by simpa using q) (by simpa using q') (by simpa using w) (by simpa using w'))
  | dead _ ih =>
    intro i j l l' d d' a q q' w w'
    cases i with
    | zero => simp at q
    | succ i =>
      cases j with
      | zero => simp at q'
      | succ j => exact congrArg Nat.succ (ih (l := l) (l' := l') (d := d) (d' := d') (a := a) (by simpa using q) (by simpa using q') (by simpa using w) (by simpa using w'))
  | own o c n _ ih =>
    intro i j l l' d d' a q q' w w'
    cases i with
    | zero =>
      simp at w
      subst w
      cases j with
      | zero => rfl
      | succ j => exact absurd (by simpa using w') (n j l' d' (by simpa using q'))
    | succ i =>
      cases j with
      | zero =>
        simp at w'
        subst w'
        exact absurd (by simpa using w) (n i l d (by simpa using q))
      | succ j => exact congrArg Nat.succ (ih (l := l) (l' := l') (d := d) (d' := d') (a := a) (by simpa using q) (by simpa using q') (by simpa using w) (by simpa using w'))
theorem label_len : ∀ (n : Nat) (as : List Sl), (label n as).length = as.length
  | _, [] => rfl
  | n, a :: as => by
    cases a with
    | own l d => cases l <;> simp [label, label_len (n + 1) as]
    | _ => simp [label, label_len (n + 1) as]
/-- a slot of a labelled list -/
theorem label_get : ∀ (n : Nat) (as : List Sl) (i : Nat), (label n as)[i]? = (as[i]?).map fun s => match s with
    | .own (some _) d => .own (some (n + i)) d
    | s => s
  | _, [], _ => by simp [label]
  | n, a :: as, i => by
    have ih := fun j => label_get (n + 1) as j
    cases i with
    | zero => cases a with
      | own l d => cases l <;> simp [label]
      | _ => simp [label]
    | succ i =>
      have e : n + 1 + i = n + (i + 1) := by omega
      cases a with
      | own l d => cases l <;> simp [label, ih, e]
      | _ => simp [label, ih, e]
theorem label_own {n : Nat} {as : List Sl} {i : Nat} {l : Option Nat} {d : D} (h : (label n as)[i]? = some (.own l d)) : ∃ l', as[i]? = some (.own l' d) ∧ (l = none ↔ l' = none) ∧ ∀ j, l = some j → j = n + i := by
  rw [label_get] at h
  simp only [Option.map_eq_some_iff] at h
  obtain ⟨s, hs, e⟩ := h
  split at e
  · cases e
    exact ⟨_, hs, by simp, fun j q => by cases q; rfl⟩
  · rename_i no
    subst e
    refine ⟨l, hs, Iff.rfl, fun j q => ?_⟩
    subst q
    exact absurd rfl (no j d)
theorem label_val {n : Nat} {as : List Sl} {i : Nat} {d : D} (h : (label n as)[i]? = some (.val d)) : as[i]? = some (.val d) := by
  rw [label_get] at h
  simp only [Option.map_eq_some_iff] at h
  obtain ⟨s, hs, e⟩ := h
  split at e
  · cases e
  · subst e; exact hs
theorem pad_get {as : List Sl} {n i : Nat} {s : Sl} (h : (as ++ List.replicate n Sl.dead)[i]? = some s) (hs : s ≠ .dead) : as[i]? = some s := by
  by_cases q : i < as.length
  · rwa [List.getElem?_append_left q] at h
  · rw [List.getElem?_append_right (by omega), List.getElem?_replicate] at h
    split at h
    · cases h; exact absurd rfl hs
    · cases h
theorem vpad_get {vs : List V} {n i : Nat} {v : V} (h : vs[i]? = some v) : (vs.map some ++ List.replicate n none)[i]? = some (some v) := by
  have q : i < vs.length := (List.getElem?_eq_some_iff.mp h).1
  rw [List.getElem?_append_left (by simpa using q), List.getElem?_map, h]
  rfl
/-- a def's state at its start -/
theorem AsOk.rel {vs : List V} {as : List Sl} (h : AsOk K cn O H vs as) (dom : ∀ a, O a → H a ≠ none) (n : Nat) : Rel K cn (Lof vs) O (label 0 as ++ List.replicate n .dead) (vs.map some ++ List.replicate n none) H := by
  refine ⟨by simp [label_len, h.length], dom, fun i d q => ?_, fun i l d q => ?_, fun i j d q => ?_, fun i j l l' d d' a q q' w w' => ?_⟩
  · obtain ⟨v, hv, dn⟩ := h.getVal (label_val (pad_get q fun z => nomatch z))
    exact ⟨v, vpad_get hv, dn⟩
  · obtain ⟨l', hl, _⟩ := label_own (pad_get q fun z => nomatch z)
    obtain ⟨a, ha, o, c⟩ := h.getOwn hl
    exact ⟨a, vpad_get ha, o, c⟩
  · obtain ⟨l', hl, _, hj⟩ := label_own (pad_get q fun z => nomatch z)
    have := hj j rfl
    obtain ⟨a, ha, _⟩ := h.getOwn hl
    have e : Lof vs j = a := by
      unfold Lof
      rw [this, Nat.zero_add, ha]
    rw [e]
    exact vpad_get ha
  · obtain ⟨m, hm, _⟩ := label_own (pad_get q fun z => nomatch z)
    obtain ⟨m', hm', _⟩ := label_own (pad_get q' fun z => nomatch z)
    obtain ⟨b, hb, _⟩ := h.getOwn hm
    obtain ⟨b', hb', _⟩ := h.getOwn hm'
    have e1 := (vpad_get (n := n) hb).symm.trans w
    have e2 := (vpad_get (n := n) hb').symm.trans w'
    cases e1
    cases e2
    exact h.inj hm hm' hb hb'
/-- the things that a call is handed -/
def ArgM (vs : List V) (as : List Sl) : Addr → Prop := fun a => ∃ (i : Nat) (l : Option Nat) (d : D), as[i]? = some (.own l d) ∧ vs[i]? = some (.ref a)
theorem AsOk.mine {vs : List V} {as : List Sl} (h : AsOk K cn O H vs as) (n : Nat) (a : Addr) : Mine (label 0 as ++ List.replicate n .dead) (vs.map some ++ List.replicate n none) a ↔ ArgM vs as a := by
  constructor
  · rintro ⟨i, l, d, q, w⟩
    obtain ⟨m, hm, _⟩ := label_own (pad_get q fun z => nomatch z)
    obtain ⟨b, hb, _⟩ := h.getOwn hm
    have e1 := (vpad_get (n := n) hb).symm.trans w
    cases e1
    exact ⟨i, m, d, hm, hb⟩
  · rintro ⟨i, l, d, q, w⟩
    have q2 : ∃ l2, (label 0 as)[i]? = some (.own l2 d) := by
      rw [label_get, q]
      cases l with
      | none => exact ⟨_, rfl⟩
      | some j => exact ⟨_, rfl⟩
    obtain ⟨l2, q2⟩ := q2
    refine ⟨i, l2, d, ?_, vpad_get w⟩
    rw [List.getElem?_append_left (List.getElem?_eq_some_iff.mp q2).1]
    exact q2
/-! ### from the caller's answers -/
/-- an answer that is handed over: what is new and not given stays as it is -/
def fzR : Rv → Rv
  | .fresh d => .val d
  | r => r
theorem RsOk.inj {vs : List V} {rs : List Rv} (h : RsOk K cn O H σ e vs rs) : ∀ {i j : Nat} {q p : Rv} {a : Addr}, rs[i]? = some q → rs[j]? = some p → isNew q = true → isNew p = true → vs[i]? = some (.ref a) → vs[j]? = some (.ref a) → i = j := by
  induction h with
  | nil => intro i j q p a z; simp at z
  | cons hr ap _ ih =>
    intro i j q p a hq hp nq np hi hj
    cases i with
    | zero =>
      simp at hq hi
      subst hq hi
      cases j with
      | zero => rfl
      | succ j => exact absurd rfl (ap a nq rfl j (.ref a) (by simpa using hj) p (by simpa using hp) np)
    | succ i =>
      cases j with
      | zero =>
        simp at hp hj
        subst hp hj
        exact absurd rfl (ap a np rfl i (.ref a) (by simpa using hi) q (by simpa using hq) nq)
      | succ j => exact congrArg Nat.succ (ih (q := q) (p := p) (a := a) (by simpa using hq) (by simpa using hp) nq np (by simpa using hi) (by simpa using hj))
theorem RsOk.of : ∀ {vs : List V} {rs : List Rv}, vs.length = rs.length → (∀ (j : Nat) (v : V) (r : Rv), vs[j]? = some v → rs[j]? = some r → RvOk K cn O H σ e v r) →
    (∀ (i j : Nat) (q p : Rv) (a : Addr), rs[i]? = some q → rs[j]? = some p → isNew q = true → isNew p = true → vs[i]? = some (.ref a) → vs[j]? = some (.ref a) → i = j) → RsOk K cn O H σ e vs rs
  | [], [], _, _, _ => .nil
  | v :: vs, r :: rs, l, h, n => .cons (h 0 v r rfl rfl) (fun a nr ea j u hu q hq nq eu => by
      subst ea eu
      exact absurd (n 0 (j + 1) r q a rfl (by simpa using hq) nr nq rfl (by simpa using hu)) (by omega))
      (RsOk.of (by simpa using l) (fun j v r a b => h (j + 1) v r (by simpa using a) (by simpa using b)) fun i j q p a h1 h2 n1 n2 h3 h4 => by
        have := n (i + 1) (j + 1) q p a (by simpa using h1) (by simpa using h2) n1 n2 (by simpa using h3) (by simpa using h4)
        omega)
  | [], _ :: _, l, _, _ => by simp at l
  | _ :: _, [], l, _, _ => by simp at l
/-- new things are given away as values -/
theorem fz_all {vs : List V} {rs : List Rv} (R : Rel K cn L O e σ H) (s : Step O0 H0 O H M) (t : RsOk K cn O H σ e vs rs) (n : RsNew H0 M vs rs) :
    ∃ O2, Rel K cn L O2 e σ H ∧ Step O0 H0 O2 H M ∧ RsOk K cn O2 H σ e vs (rs.map fzR) ∧ RsNew H0 M vs (rs.map fzR) ∧ Ext O H O2 H := by
  have x : Ext O H (fun b => O b ∧ ∀ (j : Nat) (d : D), rs[j]? = some (.fresh d) → vs[j]? ≠ some (.ref b)) H := ⟨fun _ o h _ => ⟨o, h, .rfl'⟩, fun _ _ _ h z => h z.1⟩
  have h1 : Rel K cn L (fun b => O b ∧ ∀ (j : Nat) (d : D), rs[j]? = some (.fresh d) → vs[j]? ≠ some (.ref b)) e σ H := by
    refine ⟨R.len, fun a z => R.dom a z.1, fun i d h => ?_, fun i l d h => ?_, R.lent, R.inj⟩
    · obtain ⟨v, hv, dn⟩ := R.val i d h
      exact ⟨v, hv, dn.ext x⟩
    · obtain ⟨a, ha, oa, c⟩ := R.own i l d h
      refine ⟨a, ha, ⟨oa, fun j d' hj hv => ?_⟩, c.ext x fun _ q => q⟩
      obtain ⟨a', ea, _, nm, _⟩ := t.news hv hj rfl
      cases ea
      exact nm ⟨i, l, d, h, ha⟩
  have h2 : Step O0 H0 (fun b => O b ∧ ∀ (j : Nat) (d : D), rs[j]? = some (.fresh d) → vs[j]? ≠ some (.ref b)) H M := by
    refine ⟨s.keep, fun b o h m => ⟨fun z => (s.own b o h m).mp z.1, fun z => ⟨(s.own b o h m).mpr z, fun j d hj hv => ?_⟩⟩⟩
    rcases n j _ _ hv hj rfl b rfl with w | w
    · exact m w
    · rw [h] at w; cases w
  have h3 : RsOk K cn (fun b => O b ∧ ∀ (j : Nat) (d : D), rs[j]? = some (.fresh d) → vs[j]? ≠ some (.ref b)) H σ e vs (rs.map fzR) := by
    refine RsOk.of (by simpa using t.length) (fun j v r hv hr => ?_) fun i j q p a h1 h2 n1 n2 h3 h4 => ?_
    · simp only [List.getElem?_map, Option.map_eq_some_iff] at hr
      obtain ⟨r0, hr0, rfl⟩ := hr
      obtain ⟨v', hv', k⟩ := t.get hr0
      rw [hv] at hv'
      cases hv'
      cases r0 with
      | val d => exact Den.ext x k
      | bor i => exact k
      | lent i => exact k
      | fresh d =>
        obtain ⟨a, rfl, oa, c, nm⟩ := k
        exact (c.ext x fun _ q => q).den fun z => z.2 j d hr0 hv
      | give d =>
        obtain ⟨a, rfl, oa, c, nm⟩ := k
        refine ⟨a, rfl, ⟨oa, fun j' d' hj' hv' => ?_⟩, c.ext x fun _ q => q, nm⟩
        have := t.inj hr0 hj' rfl rfl hv hv'
        subst this
        rw [hr0] at hj'
        cases hj'
    · simp only [List.getElem?_map, Option.map_eq_some_iff] at h1 h2
      obtain ⟨q0, hq0, rfl⟩ := h1
      obtain ⟨p0, hp0, rfl⟩ := h2
      exact t.inj hq0 hp0 (by cases q0 <;> first | rfl | cases n1) (by cases p0 <;> first | rfl | cases n2) h3 h4
  have h4 : RsNew H0 M vs (rs.map fzR) := fun j u q hu hq => by
    simp only [List.getElem?_map, Option.map_eq_some_iff] at hq
    obtain ⟨q0, hq0, rfl⟩ := hq
    have := n j u q0 hu hq0
    cases q0 with
    | fresh d => exact fun z => nomatch z
    | _ => exact this
  exact ⟨_, h1, h2, h3, h4, x⟩
/-- the written arguments in the parameters' order, the defaults among them -/
def arr {α : Type} (as : List α) : List (Option Nat) → List α → List α
  | some k :: os, d :: ds => as.getD k d :: arr as os ds
  | none :: os, d :: ds => d :: arr as os ds
  | _, _ => []
theorem arr_rel {vs : List V} {us : List Value} (h : Vals vs us) : ∀ {pm : List (Option Nat)} {dv : List V} {ds : List Value}, Vals dv ds → Vals (arr vs pm dv) (arr us pm ds)
  | [], _, _, _ => .nil
  | some k :: os, _, _, .nil => .nil
  | none :: os, _, _, .nil => .nil
  | some k :: os, _, _, .cons r t => by
    refine .cons ?_ (arr_rel h t)
    rw [List.getD_eq_getElem?_getD, List.getD_eq_getElem?_getD]
    cases q : vs[k]? with
    | none =>
      have : us[k]? = none := by
        rw [List.getElem?_eq_none_iff] at q ⊢
        rw [← h.length]
        exact q
      rw [this]
      exact r
    | some y =>
      obtain ⟨w, hw, rw'⟩ := h.get q
      rw [hw]
      exact rw'
  | none :: os, _, _, .cons r t => .cons r (arr_rel h t)
theorem arr_len {α : Type} {as : List α} : ∀ {pm : List (Option Nat)} {ds : List α}, pm.length = ds.length → (arr as pm ds).length = ds.length
  | [], [], _ => rfl
  | some k :: os, d :: ds, h => by simp [arr, arr_len (as := as) (pm := os) (ds := ds) (by simpa using h)]
  | none :: os, d :: ds, h => by simp [arr, arr_len (as := as) (pm := os) (ds := ds) (by simpa using h)]
  | [], _ :: _, h => by simp at h
  | _ :: _, [], h => by simp at h
/-- the defaults as values: the same in every state -/
inductive DflOk (K : PySem.W.Frag) (cn : Nat → Addr) : List (Option D) → List V → Prop where
  | nil : DflOk K cn [] []
  | none {v : V} {ds : List (Option D)} {vs : List V} : DflOk K cn ds vs → DflOk K cn (none :: ds) (v :: vs)
  | some {v : V} {d : D} {ds : List (Option D)} {vs : List V} : (∀ O H, Den K cn O H v d) → DflOk K cn ds vs → DflOk K cn (some d :: ds) (v :: vs)
theorem argOf_fz (rs : List Rv) (e : Fm) (dv : Option D) (o : Option Nat) : argOf (rs.map fzR) e dv o = argOf rs e dv o := by
  unfold argOf
  cases o with
  | none => rfl
  | some k =>
    simp only [List.getElem?_map]
    cases rs[k]? with
    | none => rfl
    | some r => cases r <;> rfl
theorem argsOf_fz (rs : List Rv) (e : Fm) : ∀ (dv : List (Option D)) (pm : List (Option Nat)), argsOf (rs.map fzR) e dv pm = argsOf rs e dv pm
  | [], [] => rfl
  | dv :: ds, o :: os => by
    simp only [argsOf, argOf_fz, argsOf_fz rs e ds os]
  | [], _ :: _ => rfl
  | _ :: _, [] => rfl
/-- whose a handed thing is -/
def Whose (e : Fm) (σ : L2.St) (vs : List V) (rs : List Rv) (ls : List Nat) (pm : List (Option Nat)) (l : Option Nat) (a : Addr) : Prop :=
  (l ≠ none ∧ ∃ q ∈ ls, ∃ l d, e[q]? = some (.own l d) ∧ σ[q]? = some (some (.ref a))) ∨ (l = none ∧ ∃ k, some k ∈ pm ∧ ∃ d, rs[k]? = some (.give d) ∧ vs[k]? = some (.ref a))
theorem args_ok {vs : List V} {rs : List Rv} (R : Rel K cn L O e σ H) (t : RsOk K cn O H σ e vs rs) (nf : ∀ (k : Nat) (d : D), rs[k]? ≠ some (Rv.fresh d)) : ∀ {dfl : List (Option D)} {dvs : List V} {pm : List (Option Nat)} {as : List Sl} {ls : List Nat}, DflOk K cn dfl dvs →
    argsOf rs e dfl pm = some (as, ls) → ls.Nodup → (pm.filterMap id).Nodup → AsOk K cn O H (arr vs pm dvs) as ∧ (∀ (i : Nat) (l : Option Nat) (d : D) (a : Addr), as[i]? = some (.own l d) → (arr vs pm dvs)[i]? = some (.ref a) → Whose e σ vs rs ls pm l a) ∧ pm.length = dvs.length
  | [], _, [], as, ls, .nil, h, _, _ => by
    simp only [argsOf, Option.some.injEq, Prod.mk.injEq] at h
    obtain ⟨rfl, rfl⟩ := h
    exact ⟨.nil, fun i l d a q _ => by simp at q, rfl⟩
  | dv :: ds, v0 :: dvs, o :: os, as, ls, hd, h, nl, np => by
    have hd' : DflOk K cn ds dvs := by cases hd <;> assumption
    unfold argsOf at h
    split at h
    · rename_i a l as' ls' h1 h2
      cases h
      have nl' : ls'.Nodup := (List.nodup_append.mp nl).2.1
      have np' : (os.filterMap id).Nodup := by
        cases o with
        | none => simpa using np
        | some k => simp only [List.filterMap_cons, id] at np; exact (List.nodup_cons.mp np).2
      obtain ⟨ok, wh, hl⟩ := args_ok R t nf hd' h2 nl' np'
      have up : ∀ g b, Whose e σ vs rs ls' os g b → Whose e σ vs rs (l ++ ls') (o :: os) g b := fun g b z => by
        rcases z with ⟨n, q, hq, z⟩ | ⟨n, k, hk, z⟩
        · exact .inl ⟨n, q, List.mem_append_right _ hq, z⟩
        · exact .inr ⟨n, k, List.mem_cons_of_mem _ hk, z⟩
      have vcase : ∀ {v : V} {d : D}, a = .val d → Den K cn O H v d → AsOk K cn O H (v :: arr vs os dvs) (a :: as') ∧ ∀ (i : Nat) (g : Option Nat) (d : D) (b : Addr), (a :: as')[i]? = some (.own g d) → (v :: arr vs os dvs)[i]? = some (.ref b) → Whose e σ vs rs (l ++ ls') (o :: os) g b := fun e dn => by
        subst e
        refine ⟨.val dn ok, fun i g d b q w => ?_⟩
        cases i with
        | zero => simp at q
        | succ i => exact up g b (wh i g d b (by simpa using q) (by simpa using w))
      cases o with
      | none =>
        cases dv with
        | some d =>
          cases h1
          cases hd with
          | some hden _ =>
            obtain ⟨w1, w2⟩ := vcase (v := v0) rfl (hden O H)
            exact ⟨w1, w2, by simp [hl]⟩
        | none =>
          cases h1
          refine ⟨.dead ok, fun i g d b q w => ?_, by simp [hl]⟩
          cases i with
          | zero => simp at q
          | succ i => exact up g b (wh i g d b (by simpa using q) (by simpa [arr] using w))
      | some k =>
        simp only [argOf] at h1
        cases hk : rs[k]? with
        | none => rw [hk] at h1; cases h1
        | some r =>
          rw [hk] at h1
          obtain ⟨v, hv, kk⟩ := t.get hk
          have ea : vs.getD k v0 = v := by rw [List.getD_eq_getElem?_getD, hv]; rfl
          show AsOk K cn O H (vs.getD k v0 :: arr vs os dvs) (a :: as') ∧ _ ∧ _
          show AsOk K cn O H (vs.getD k v0 :: arr vs os dvs) (a :: as') ∧ (∀ (i : Nat) (g : Option Nat) (d : D) (b : Addr), (a :: as')[i]? = some (.own g d) → (vs.getD k v0 :: arr vs os dvs)[i]? = some (.ref b) → Whose e σ vs rs (l ++ ls') (some k :: os) g b) ∧ _
          rw [ea]
          cases r with
          | val d =>
            cases h1
            obtain ⟨w1, w2⟩ := vcase (v := v) rfl kk
            exact ⟨w1, w2, by simp [hl]⟩
          | fresh d => exact absurd hk (nf k d)
          | bor i => cases h1
          | give d =>
            cases h1
            obtain ⟨b, rfl, ob, cb, nm⟩ := kk
            refine ⟨.own ob cb (fun j l' d' q w => ?_) ok, fun i g d' b' q w => ?_, by simp [hl]⟩
            · rcases wh j l' d' b q w with ⟨_, i, _, l, d2, h3, h4⟩ | ⟨_, k', hk', d2, h3, h4⟩
              · exact nm ⟨i, l, d2, h3, h4⟩
              · have := t.inj hk h3 rfl rfl hv h4
                subst this
                simp only [List.filterMap_cons, id] at np
                exact (List.nodup_cons.mp np).1 (List.mem_filterMap.mpr ⟨some k, hk', rfl⟩)
            · cases i with
              | zero =>
                simp at w q
                subst w
                exact .inr ⟨q.1.symm, k, List.mem_cons_self, d, hk, hv⟩
              | succ i => exact up g b' (wh i g d' b' (by simpa using q) (by simpa using w))
          | lent i =>
            dsimp only at h1
            split at h1
            · rename_i l0 d hi
              cases h1
              obtain ⟨b, hb, ob, cb⟩ := R.own i l0 d hi
              have kv : σ[i]? = some (some v) := kk
              rw [hb] at kv
              cases kv
              refine ⟨.own ob cb (fun j l' d' q w => ?_) ok, fun i' g d' b' q w => ?_, by simp [hl]⟩
              · rcases wh j l' d' b q w with ⟨_, i2, hm, l2, d2, h3, h4⟩ | ⟨_, k', hk', d2, h3, h4⟩
                · have := R.inj i i2 l0 l2 d d2 b hi h3 hb h4
                  subst this
                  exact (List.nodup_append.mp nl).2.2 i List.mem_cons_self i hm rfl
                · obtain ⟨b2, e2, _, nm, _⟩ := t.news h4 h3 rfl
                  cases e2
                  exact nm ⟨i, l0, d, hi, hb⟩
              · cases i' with
                | zero =>
                  simp at w q
                  subst w
                  refine .inl ⟨?_, i, List.mem_append_left _ List.mem_cons_self, l0, d, hi, hb⟩
                  rw [← q.1]
                  exact fun z => nomatch z
                | succ i' => exact up g b' (wh i' g d' b' (by simpa using q) (by simpa using w))
            · cases h1
    · cases h
  | [], _, _ :: _, as, ls, .nil, h, _, _ => by simp [argsOf] at h
  | _ :: _, _, [], as, ls, _, h, _, _ => by simp [argsOf] at h
/-! ### behind the call -/
inductive OutsOk (K : PySem.W.Frag) (cn : Nat → Addr) (O : Addr → Prop) (H : Hp) : List V → List Sl → List D → Prop where
  | nil : OutsOk K cn O H [] [] []
  | val {v : V} {d : D} {vs : List V} {as : List Sl} {os : List D} : OutsOk K cn O H vs as os → OutsOk K cn O H (v :: vs) (.val d :: as) os
  | dead {v : V} {vs : List V} {as : List Sl} {os : List D} : OutsOk K cn O H vs as os → OutsOk K cn O H (v :: vs) (.dead :: as) os
  | give {v : V} {d : D} {vs : List V} {as : List Sl} {os : List D} : OutsOk K cn O H vs as os → OutsOk K cn O H (v :: vs) (.own none d :: as) os
  | lent {a : Addr} {j : Nat} {d d' : D} {vs : List V} {as : List Sl} {os : List D} : O a → Cont K cn O H a d' → OutsOk K cn O H vs as os → OutsOk K cn O H (.ref a :: vs) (.own (some j) d :: as) (d' :: os)
/-- what is put back -/
inductive BackOk (K : PySem.W.Frag) (cn : Nat → Addr) (O : Addr → Prop) (H : Hp) (σ : L2.St) (e : Fm) : List Nat → List D → Prop where
  | nil : BackOk K cn O H σ e [] []
  | cons {i : Nat} {d' : D} {ls : List Nat} {os : List D} : (∃ l d a, e[i]? = some (.own l d) ∧ σ[i]? = some (some (.ref a)) ∧ O a ∧ Cont K cn O H a d') → BackOk K cn O H σ e ls os → BackOk K cn O H σ e (i :: ls) (d' :: os)
theorem outs_back {vs : List V} {rs : List Rv} (R : Rel K cn L O e σ H) (t : RsOk K cn O H σ e vs rs) : ∀ {dfl : List (Option D)} {dvs : List V} {pm : List (Option Nat)} {as : List Sl} {ls : List Nat} {outs : List D}, dfl.length = dvs.length →
    argsOf rs e dfl pm = some (as, ls) → OutsOk K cn O' H' (arr vs pm dvs) as outs → BackOk K cn O' H' σ e ls outs
  | [], _, [], as, ls, outs, hd, h, q => by
    simp only [argsOf, Option.some.injEq, Prod.mk.injEq] at h
    obtain ⟨rfl, rfl⟩ := h
    cases q
    exact .nil
  | dv :: ds, v0 :: dvs, o :: os, as, ls, outs, hd, h, q => by
    unfold argsOf at h
    split at h
    · rename_i a l as' ls' h1 h2
      cases h
      have go : ∀ {x : List D}, OutsOk K cn O' H' (arr vs os dvs) as' x → BackOk K cn O' H' σ e ls' x := fun z => outs_back R t (by simpa using hd) h2 z
      cases o with
      | none =>
        cases dv with
        | some d => cases h1; cases q with | val q => exact go q
        | none => cases h1; cases q with | dead q => exact go q
      | some k =>
        simp only [argOf] at h1
        cases hk : rs[k]? with
        | none => rw [hk] at h1; cases h1
        | some r =>
          rw [hk] at h1
          obtain ⟨v, hv, kk⟩ := t.get hk
          have ea : vs.getD k v0 = v := by rw [List.getD_eq_getElem?_getD, hv]; rfl
          have q' : OutsOk K cn O' H' (vs.getD k v0 :: arr vs os dvs) (a :: as') outs := q
          rw [ea] at q'
          cases r with
          | val d => cases h1; cases q' with | val q => exact go q
          | fresh d => cases h1; cases q' with | val q => exact go q
          | bor i => cases h1
          | give d => cases h1; cases q' with | give q => exact go q
          | lent i =>
            dsimp only at h1
            split at h1
            · rename_i l0 d hi
              cases h1
              cases q' with
              | lent oa c q2 => exact .cons ⟨_, _, _, hi, kk, oa, c⟩ (go q2)
            · cases h1
    · cases h
  | [], _, _ :: _, as, ls, outs, _, h, _ => by simp [argsOf] at h
  | _ :: _, _, [], as, ls, outs, _, h, _ => by simp [argsOf] at h
  | _ :: _, [], _ :: _, as, ls, outs, h, _, _ => by simp at h
/-- a state some of whose slots are still to be written -/
structure RelN (K : PySem.W.Frag) (cn : Nat → Addr) (L : Nat → Addr) (O : Addr → Prop) (e : Fm) (σ : L2.St) (H : Hp) (N : List Nat) : Prop where
  len : e.length = σ.length
  dom : ∀ a, O a → H a ≠ none
  val : ∀ (i : Nat) (d : D), e[i]? = some (.val d) → ∃ v, σ[i]? = some (some v) ∧ Den K cn O H v d
  own : ∀ (i : Nat) (l : Option Nat) (d : D), i ∉ N → e[i]? = some (.own l d) → ∃ a, σ[i]? = some (some (.ref a)) ∧ O a ∧ Cont K cn O H a d
  lent : ∀ (i j : Nat) (d : D), e[i]? = some (.own (some j) d) → σ[i]? = some (some (.ref (L j)))
  inj : ∀ (i j : Nat) (l l' : Option Nat) (d d' : D) (a : Addr), e[i]? = some (.own l d) → e[j]? = some (.own l' d') → σ[i]? = some (some (.ref a)) → σ[j]? = some (some (.ref a)) → i = j
theorem put_mine {a : Addr} : ∀ {ls : List Nat} {outs : List D} {e : Fm}, Mine (putBack e ls outs) σ a → Mine e σ a
  | [], outs, e, h => by cases outs <;> exact h
  | _ :: _, [], e, h => h
  | i :: ls, d :: outs, e, h => by
    have h' := put_mine (ls := ls) (outs := outs) h
    split at h'
    · rename_i l d0 hi
      obtain ⟨j, m, y, q, w⟩ := h'
      rcases get_set q with ⟨ej, z⟩ | ⟨_, z⟩
      · subst ej; cases z; exact ⟨j, l, d0, hi, w⟩
      · exact ⟨j, m, y, z, w⟩
    · exact h'
theorem back_rel : ∀ {ls : List Nat} {outs : List D} {e : Fm}, BackOk K cn O H σ e ls outs → ls.Nodup → RelN K cn L O e σ H ls → Rel K cn L O (putBack e ls outs) σ H
  | [], _, e, .nil, _, R => ⟨R.len, R.dom, R.val, fun i l d q => R.own i l d (by simp) q, R.lent, R.inj⟩
  | i :: ls, _, e, .cons (d' := d') (os := os) ⟨l, d, a, hi, ha, oa, c⟩ t, nd, R => by
    have nd' := List.nodup_cons.mp nd
    have e1 : putBack e (i :: ls) (d' :: os) = putBack (e.set i (.own l d')) ls os := by
      show putBack (match e[i]? with
        | some (.own l _) => e.set i (.own l d')
        | _ => e) ls os = _
      rw [hi]
    rw [e1]
    refine back_rel (ls := ls) (outs := os) ?_ nd'.2 ⟨by simpa using R.len, R.dom, fun j y q => ?_, fun j m y nj q => ?_, fun j q y w => ?_, fun j j' m m' y y' b q q' => ?_⟩
    · clear e1 R nd
      replace nd' := nd'.1
      induction t with
      | nil => exact .nil
      | cons h t ih =>
        rename_i i' y ls' os'
        obtain ⟨l2, d2, a2, h1, h2⟩ := h
        have ne : i' ≠ i := fun z => nd' (by rw [z]; exact List.mem_cons_self)
        exact .cons ⟨l2, d2, a2, by rw [List.getElem?_set_ne (Ne.symm ne)]; exact h1, h2⟩ (ih fun z => nd' (List.mem_cons_of_mem _ z))
    · rcases get_set q with ⟨_, z⟩ | ⟨_, z⟩
      · cases z
      · exact R.val j y z
    · rcases get_set q with ⟨ej, z⟩ | ⟨n, z⟩
      · cases z; subst ej; exact ⟨a, ha, oa, c⟩
      · exact R.own j m y (fun z2 => (List.mem_cons.mp z2).elim n nj) z
    · rcases get_set w with ⟨ej, z⟩ | ⟨_, z⟩
      · cases z; subst ej; exact R.lent j q d hi
      · exact R.lent j q y z
    · rcases get_set q with ⟨ej, z⟩ | ⟨n, z⟩
      · rcases get_set q' with ⟨ej', z'⟩ | ⟨n', z'⟩
        · exact fun _ _ => ej.trans ej'.symm
        · subst ej; exact fun w w' => R.inj j j' l m' d y' b hi z' w w'
      · rcases get_set q' with ⟨ej', z'⟩ | ⟨n', z'⟩
        · subst ej'; exact fun w w' => R.inj j j' m l y d b z hi w w'
        · exact fun w w' => R.inj j j' m m' y y' b z z' w w'
/-- the caller's state behind the call -/
theorem call_rel {vs : List V} {rs : List Rv} {dfl : List (Option D)} {dvs : List V} {pm : List (Option Nat)} {as : List Sl} {ls : List Nat} {outs : List D} (R : Rel K cn L O e σ H) (s : Step O0 H0 O H M) (t : RsOk K cn O H σ e vs rs) (n : RsNew H0 M vs rs)
    (m : ∀ a, Mine e σ a → M a) (hl : dfl.length = dvs.length) (ha : argsOf rs e dfl pm = some (as, ls)) (nd : ls.Nodup) (ok : AsOk K cn O H (arr vs pm dvs) as) (wh : ∀ (i : Nat) (l : Option Nat) (d : D) (a : Addr), as[i]? = some (.own l d) → (arr vs pm dvs)[i]? = some (.ref a) → Whose e σ vs rs ls pm l a)
    (s' : Step O H O' H' (ArgM (arr vs pm dvs) as)) (dom : ∀ a, O' a → H' a ≠ none) (oo : OutsOk K cn O' H' (arr vs pm dvs) as outs) :
    Rel K cn L O' (putBack e ls outs) σ H' ∧ Step O0 H0 O' H' M := by
  have am : ∀ a, ArgM (arr vs pm dvs) as a → O a := fun a ⟨i, l, d, q, w⟩ => by
    obtain ⟨b, hb, ob, _⟩ := ok.getOwn q
    rw [w] at hb
    cases hb
    exact ob
  have x : Ext O H O' H' := s'.ext am
  refine ⟨back_rel (outs_back R t hl ha oo) nd ⟨R.len, dom, fun i d q => ?_, fun i l d ni q => ?_, R.lent, R.inj⟩, s.trans s' fun a ⟨i, l, d, q, w⟩ => ?_⟩
  · obtain ⟨v, hv, dn⟩ := R.val i d q
    exact ⟨v, hv, dn.ext x⟩
  · obtain ⟨a, ha', oa, c⟩ := R.own i l d q
    have nam : ¬ ArgM (arr vs pm dvs) as a := fun ⟨i2, l2, d2, q2, w2⟩ => by
      rcases wh i2 l2 d2 a q2 w2 with ⟨_, j, hj, l3, d3, h3, h4⟩ | ⟨_, k, hk, d3, h3, h4⟩
      · exact ni (by rw [R.inj i j l l3 d d3 a q h3 ha' h4]; exact hj)
      · obtain ⟨b2, e2, _, nm, _⟩ := t.news h4 h3 rfl
        cases e2
        exact nm ⟨i, l, d, q, ha'⟩
    obtain ⟨ob, hob⟩ := c.there
    exact ⟨a, ha', (s'.own a ob hob nam).mpr oa, c.ext x fun o h => s'.hold oa h nam⟩
  · rcases wh i l d a q w with ⟨_, j, hj, l3, d3, h3, h4⟩ | ⟨_, k, hk, d3, h3, h4⟩
    · exact .inl (m a ⟨j, l3, d3, h3, h4⟩)
    · exact n k _ _ h4 h3 rfl a rfl
end
end
end PV
/-! ## a def's promise by its evaluator; calls by it -/
namespace PV
open PySem L2 PyProof.Rows
noncomputable section
/-- a call's answer -/
def RetOk (K : PySem.W.Frag) (cn : Nat → Addr) (H : Hp) (vs : List V) (as : List Sl) (O' : Addr → Prop) (H' : Hp) (v : V) (fr : Bool) (r : D) : Prop :=
  if fr = true then ∃ a, v = .ref a ∧ O' a ∧ Cont K cn O' H' a r ∧ (∀ (i j : Nat) (d : D), as[i]? = some (.own (some j) d) → vs[i]? ≠ some (.ref a)) ∧ (ArgM vs as a ∨ H a = none) else Den K cn O' H' v r
/-- a def's promise -/
def spF (K : PySem.W.Frag) (cn : Nat → Addr) (xd : Exd) (run : Nat → List Sl → Res) (n : Nat) (f : Nat) : Sp := fun vs H Q E => ∃ O as, AsOk K cn O H vs as ∧ (∀ a, O a → H a ≠ none) ∧ vs.length = n ∧ match run f as with
  | .ok r fr outs => ∀ v O' H', Step O H O' H' (ArgM vs as) → (∀ a, O' a → H' a ≠ none) → OutsOk K cn O' H' vs as outs → RetOk K cn H vs as O' H' v fr r → Q v H'
  | .ex c fs outs => ∀ O' H' cls d, Step O H O' H' (ArgM vs as) → (∀ a, O' a → H' a ≠ none) → OutsOk K cn O' H' vs as outs → ExOk K cn xd O' H' cls d c fs → E cls d H'
  | .bad => False
section
variable {K : PySem.W.Frag} {C : Ct} {O O0 : Addr → Prop} {H H0 : Hp} {M : Addr → Prop} {e : Fm} {σ : L2.St}
theorem nf_map {rs : List Rv} (k : Nat) (d : D) : (rs.map fzR)[k]? ≠ some (.fresh d) := by
  rw [List.getElem?_map]
  cases rs[k]? with
  | none => simp
  | some r => cases r <;> simp [fzR]
theorem DflOk.length {cn : Nat → Addr} {ds : List (Option D)} {vs : List V} (h : DflOk K cn ds vs) : ds.length = vs.length := by
  induction h with
  | nil => rfl
  | none _ ih => simp [ih]
  | some _ _ ih => simp [ih]
/-- from the caller's answers to the def's promise -/
theorem call_sp {f n : Nat} {dfl : List (Option D)} {dvs : List V} {rs : List Rv} {vs : List V} {pm : List (Option Nat)} {Q : VK} {run : Nat → List Sl → Res} {XX : XW} {EE : XK} (hX : ∀ O' H' cls d k fs, XX O' H' k fs → ExOk K C.cn C.xd O' H' cls d k fs → EE cls d H') (hd : DflOk K C.cn dfl dvs) (np : (pm.filterMap id).Nodup) (hn : dfl.length = n)
    (R : Rel K C.cn C.L O e σ H) (s : Step O0 H0 O H M) (m : ∀ a, Mine e σ a → M a) (t : RsOk K C.cn O H σ e vs rs) (nw : RsNew H0 M vs rs)
    (c : Cn K C.cn C.L (C.k K) XX O0 H0 M σ (callG run f dfl rs pm e) Q) : spF K C.cn C.xd run n f (arr vs pm dvs) H Q EE := by
  unfold callG at c
  cases ha : argsOf rs e dfl pm with
  | none => rw [ha] at c; exact c.elim
  | some p =>
    obtain ⟨as, ls⟩ := p
    rw [ha] at c
    dsimp only at c
    split at c
    · rename_i nd
      obtain ⟨O2, R2, s2, t2, n2, x2⟩ := fz_all R s t nw
      have ha2 : argsOf (rs.map fzR) e dfl pm = some (as, ls) := by rw [argsOf_fz]; exact ha
      obtain ⟨ok, wh, hl⟩ := args_ok R2 t2 nf_map hd ha2 nd np
      refine ⟨O2, as, ok, R2.dom, by rw [arr_len hl, ← hd.length, hn], ?_⟩
      cases hr : run f as with
      | bad => rw [hr] at c; exact c.elim
      | ok r fr outs =>
        rw [hr] at c
        intro v O' H' s' dom oo ret
        obtain ⟨R', S'⟩ := call_rel R2 s2 t2 n2 m hd.length ha2 nd ok wh s' dom oo
        refine c v O' H' R' ?_ S' (fun a z => m a (put_mine z)) ?_
        · cases fr with
          | false => exact ret
          | true =>
            obtain ⟨a, rfl, oa, ca, nl, na⟩ := ret
            refine ⟨a, rfl, oa, ca, fun z => ?_⟩
            have z := put_mine z
            rcases na with ⟨i, l, d, q, w⟩ | na
            · cases l with
              | some j => exact nl i j d q w
              | none =>
                rcases wh i none d a q w with ⟨n, _⟩ | ⟨_, k, hk, d3, h3, h4⟩
                · exact n rfl
                · obtain ⟨b2, e2, _, nm, _⟩ := t2.news h4 h3 rfl
                  cases e2
                  exact nm z
            · exact R2.dom a (R2.mine z) na
        · cases fr with
          | false => exact fun z => nomatch z
          | true =>
            obtain ⟨a, rfl, oa, ca, nl, na⟩ := ret
            intro _ b eb
            cases eb
            rcases na with ⟨i, l, d, q, w⟩ | na
            · cases l with
              | some j => exact absurd w (nl i j d q)
              | none =>
                rcases wh i none d a q w with ⟨n, _⟩ | ⟨_, k, hk, d3, h3, h4⟩
                · exact absurd rfl n
                · exact n2 k _ _ h4 h3 rfl a rfl
            · exact s2.back a na
      | ex k fs outs =>
        rw [hr] at c
        intro O' H' cls d s' dom oo xo
        obtain ⟨R', S'⟩ := call_rel R2 s2 t2 n2 m hd.length ha2 nd ok wh s' dom oo
        exact hX _ _ _ _ _ _ (c O' H' R' S' (fun a z => m a (put_mine z))) xo
    · exact c.elim
end
/-! ### a def -/
/-- a def that keeps its promise wherever no repr is under way -/
structure FnG (P : Program) (w : World) (K : PySem.W.Frag) (mg : Str → Option Value) (base : Heap) (k : Nat) (f : Addr) (fd : FuncData) (ps : List Str) (sp : Sp) : Prop where
  len : ∀ vs H Q E, sp vs H Q E → vs.length = ps.length
  run : ∀ (A : Around) (outer : List Env) (s : Shared) (H : Hp) (args : Args) (us : List Value) (vs : List V) (Q : VK) (E : XK), A.guards = some [] → Room k A → Env0 P w K mg base A outer s H → BindsTo s fd args (ps.zip us) → Vals vs us →
    sp vs H Q E → codeAny (model P w) A (.call (.ref f) args) (CR (CX P w) outer P w H s Q E) s
section
variable {X : Cx} {W : WX} {k : Nat} {f C0 : Addr} {fd : FuncData} {ps : List Str} {sp : Sp} {pins : List (Addr × Obj)} {σ : L2.St} {H : Hp} {s : Shared} {Q : VK}
/-- the callee runs -/
theorem run_g {args : Args} {us : List Value} {vs : List V} (F : FnG X.prog X.w X.K X.mg X.base k f fd ps sp) (hg : X.A.guards = some []) (hr : Room k X.A) (hb : BindsTo s fd args (ps.zip us)) (tk : Takes X W) (I : Inv X pins σ H s) (r : Vals vs us)
    (h : sp vs H Q fun cls d H' => W cls d σ H') : wpAny (model X.prog X.w) X.A (call (.ref f) args.pos args.kw) (EP X pins σ Q) X.xe s := by
  refine wpAny_call (codeAny_mono (F.run X.A X.stack s H args us vs Q _ hg hr I.env0 hb r h) fun z s' q => ?_)
  cases z with
  | error u => exact tk u s' (XE.of_call I (fun _ _ _ y => y) q)
  | ok fl =>
    cases fl with
    | ret u => exact I.after q
    | _ => exact q.elim
theorem make_guards {A : Around} {us : List Value} {kw : List (Str × Value)} : (A.under (.builtin "type.__call__" ⟨.ref C0 :: us, kw⟩)).guards = A.guards := by
  have h : (Code.builtin "type.__call__" ⟨.ref C0 :: us, kw⟩).guards = [] := by simp [Code.guards, Code.isGuard, guardIds]
  show pushGuards (Code.builtin "type.__call__" ⟨.ref C0 :: us, kw⟩).guards A.guards = A.guards
  rw [h]
  rfl
theorem deeper_guards {A : Around} {env : Env} : (A.deeper env).guards = A.guards := rfl
theorem in1_guards {A : Around} : A.in1.guards = A.guards := rfl
/-- C(..): the thing and its dict are laid, then its __init__ -/
theorem run_makeG {us ws : List Value} {ks : List Str} {bs : Addr → List Value} {vs : Addr → List V} (Mk0 : Mk X.K C0 f) (F : FnG X.prog X.w X.K X.mg X.base k f fd ps sp) (hg : X.A.guards = some []) (hr : Room (k + 1) X.A)
    (hb : ∀ (x : Addr) (s1 : Shared), X.K.In s1.heap → BindsTo s1 fd ⟨.ref x :: us, ks.zip ws⟩ (ps.zip (bs x))) (tk : Takes X W) (I : Inv X pins σ H s) (r : ∀ x, Vals (vs x) (bs x))
    (h : ∀ x dx, H x = none → H dx = none → dx ≠ x → sp (vs x) (upd (upd H dx (.own x)) x (.ins C0 dx [])) (fun v H2 => v = .non ∧ Q (.ref x) H2) fun cls d H' => W cls d σ H') :
    wpAny (model X.prog X.w) X.A (call (.ref C0) us (ks.zip ws)) (EP X pins σ Q) X.xe s := by
  have hq := h (s.heap.objs.size + 1) s.heap.objs.size (I.hok.fresh (Nat.le_succ _)) (I.hok.fresh (Nat.le_refl _)) (Nat.ne_of_lt (Nat.lt_succ_self _))
  have J := Inv.made (C := C0) I
  refine wpAny_call (make_map (f := f) I.kIn Mk0.makes Mk0.init (beq_iff_eq.mp Mk0.fn) ?_)
  refine codeAny_mono (F.run _ X.stack _ _ ⟨Value.ref (s.heap.objs.size + 1) :: us, ks.zip ws⟩ (bs _) (vs _) _ _ (make_guards.trans hg) (hr.make C0 us (ks.zip ws)) (J.env0.make C0 us (ks.zip ws)) (hb _ _ J.kIn) (r _) hq) fun z s' q => ?_
  cases z with
  | error u => exact tk u s' (XE.of_call J (fun _ _ _ y => y) q)
  | ok fl =>
    cases fl with
    | ret u =>
      obtain ⟨v, H', I3, rv, ev, q3⟩ := J.after q
      subst ev
      exact ⟨rv, ⟨V.ref (s.heap.objs.size + 1), H', I3, rfl, q3⟩⟩
    | _ => exact q.elim
end
end
end PV
/-! ## rules: calls -/
namespace PV
open PySem L2 PyProof.Rows
noncomputable section
def Es.plain : Es → Bool
  | .nil => true
  | .cons _ r => r.plain
  | .star _ _ => false
def Es.len : Es → Nat
  | .nil => 0
  | .cons _ r => r.len + 1
  | .star _ r => r.len + 1
def kwNm : List Keyword → Option (List Str)
  | [] => some []
  | ⟨some n, _, _⟩ :: r => (kwNm r).map (n :: ·)
  | ⟨none, _, _⟩ :: _ => none
theorem kw_all {pos : Pos} {env : Env} : ∀ {kws : List Keyword} {ks : List Str}, kwNm kws = some ks → (backToKw pos (keywordEach kws env)).all (·.1.isSome) = true ∧ (backToKw pos (keywordEach kws env)).filterMap (·.1) = ks ∧ (backToKw pos (keywordEach kws env)).any (·.1.isNone) = false
  | [], ks, h => by cases h; exact ⟨rfl, rfl, rfl⟩
  | ⟨some n, e, p⟩ :: r, ks, h => by
    simp only [kwNm, Option.map_eq_some_iff] at h
    obtain ⟨l, hl, rfl⟩ := h
    obtain ⟨h1, h2, h3⟩ := kw_all (pos := pos) (env := env) hl
    refine ⟨?_, ?_, ?_⟩
    · show (true && (backToKw pos (keywordEach r env)).all (·.1.isSome)) = true
      rw [h1]; rfl
    · show n :: (backToKw pos (keywordEach r env)).filterMap (·.1) = _
      rw [h2]
    · show (false || (backToKw pos (keywordEach r env)).any (·.1.isNone)) = false
      rw [h3]; rfl
  | ⟨none, e, p⟩ :: r, ks, h => by cases h
theorem kw_len : ∀ {kws : List Keyword} {ks : List Str}, kwNm kws = some ks → ks.length = kws.length
  | [], _, h => by cases h; rfl
  | ⟨some n, e, p⟩ :: r, ks, h => by
    simp only [kwNm, Option.map_eq_some_iff] at h
    obtain ⟨l, hl, rfl⟩ := h
    simp [kw_len hl]
  | ⟨none, e, p⟩ :: r, ks, h => by cases h
theorem evs_len {W : Wd} {run : Nat → List Sl → Res} : ∀ {es : Es} {e e1 : Fm} {rs : List Rv}, es.plain = true → evs W run es e = .ok rs e1 → rs.length = es.len
  | .nil, e, e1, rs, _, h => by simp only [evs] at h; cases h; rfl
  | .star _ _, _, _, _, h, _ => by cases h
  | .cons a r, e, e1, rs, p, h => by
    simp only [evs] at h
    cases h1 : ev W run a e with
    | ok x e2 =>
      rw [h1] at h
      simp only [Out.bind_ok] at h
      cases h2 : evs W run r e2 with
      | ok xs e3 =>
        rw [h2] at h
        simp only [Out.bind_ok, consR] at h
        cases h
        simp [Es.len, evs_len (es := r) p h2]
      | ex _ _ _ => rw [h2] at h; cases h
      | bad => rw [h2] at h; cases h
    | ex _ _ _ => rw [h1] at h; cases h
    | bad => rw [h1] at h; cases h
/-- a method's call of the plain form -/
theorem mth_eval {o : Expr} {m : Str} {apos pos : Pos} {args : List Expr} {kws : List Keyword} {env : Env} (hb : noCall o = true) (hf : methodCallForm (args.length + kws.length) (backTo pos (starEach args env)) (backToKw pos (keywordEach kws env)) = true) (hl : (apos.endLine == pos.line) = true) :
    eval (.Call (.Attribute o m apos) args kws pos) env = (do
      let ov ← eval o env
      standAt apos.atName
      let (f, first) ← holding [ov] (getMethod ov m (do return (← importBound o env).getD true))
      callWith pos f first (backTo pos (starEach args env)) (backToKw pos (keywordEach kws env))) := by
  show (do
    let ov ← attributeBase o m env (eval o env)
    standAt apos.atName
    methodCall o m apos pos env ov (args.length + kws.length) (backTo pos (starEach args env)) (backToKw pos (keywordEach kws env))) = _
  rw [attr_base hb]
  congr 1
  funext ov
  congr 1
  funext _
  unfold methodCall
  rw [hf]
  unfold calleeOf methodCallPos
  simp only [if_true, hl, Bool.not_true, Bool.or_true, pure_bind]
/-- how a call of such a form binds -/
structure ShOk (K : PySem.W.Frag) (cn : Nat → Addr) (fd : FuncData) (ps : List Str) (dfl : List (Option D)) (n : Nat) (ks : List Str) (pm : List (Option Nat)) : Prop where
  nd : (pm.filterMap id).Nodup
  ln : dfl.length = ps.length
  to : ∃ (dvs : List V) (ds : List Value), Vals dvs ds ∧ DflOk K cn dfl dvs ∧ ∀ (s : Shared) (us ws : List Value), K.In s.heap → us.length = n → ws.length = ks.length → BindsTo s fd ⟨us, ks.zip ws⟩ (ps.zip (arr (us ++ ws) pm ds))
section
variable {X : Cx} {C : Ct} {pos p apos : Pos} {a b c : Expr} {a' b' c' : E} {es : List Expr} {kws : List Keyword} {es' ks' r' : Es} {x m : Str} {nm : Option Str}
theorem c_cons {K : PySem.W.Frag} {σ : L2.St} {H : Hp} {Q : List V → Hp → Prop} (h : C.ta K (.cons a' r') σ H Q) : tCons (C.te K a') (C.ta K r') σ H Q := by
  refine (tI.two (k := C.k K) (k2 := C.ks K) (m2 := fun _ => evs C.wd C.run r') (f := consR) h).imp fun v H1 ⟨O, e, r, e1, O1, A, c⟩ => ⟨O1, e1, A.R, c.imp fun vs H2 ⟨rs, e2, O2, B, c2⟩ => ?_⟩
  have k1 : RvOk K C.cn O2 H2 σ e2 v r := RvOk.step A.R B.s B.m A.ok
  refine c2 (v :: vs) O2 H2 B.R (.cons k1 (fun a n ea j u hu q hq nq eu => ?_) B.ok) (A.s.trans B.s fun x z => .inl (A.m x z)) (fun a z => A.m a (B.m a z)) fun j u q hu hq => ?_
  · subst ea eu
    obtain ⟨a2, ea, o, nm, d, c⟩ := RvOk.news A.ok n
    cases ea
    rcases B.new j _ q hu hq nq a rfl with z | z
    · exact nm z
    · obtain ⟨ob, hob⟩ := c.there
      rw [hob] at z
      cases z
  · cases j with
    | zero =>
      simp at hu hq
      subst hu hq
      exact A.new
    | succ j => exact (B.new j u q (by simpa using hu) (by simpa using hq)).sh (fun x z => A.m x z) A.s.back
theorem PK.imp {kws : List Keyword} {t t' : TA} (h : PK X kws t) (i : ∀ σ H Q, t' σ H Q → t σ H Q) : PK X kws t' := ⟨fun p pins s σ H Q I q => h.run p pins s σ H Q I (i σ H Q q)⟩
theorem k_nil : PK X [] (C.ta X.K .nil) := PK.imp pk_nil fun σ H Q ⟨O, e, R, h⟩ => h [] O H R .nil .refl (fun _ z => z) fun j u q a => by simp at a
theorem k_cons (ha : PE X a (C.te X.K a')) (hr : PK X kws (C.ta X.K r')) : PK X (⟨nm, a, p⟩ :: kws) (C.ta X.K (.cons a' r')) := PK.imp (pk_cons ha hr) fun _ _ _ h => c_cons h
theorem RsOk.app {K : PySem.W.Frag} {cn : Nat → Addr} {O : Addr → Prop} {H : Hp} {σ : L2.St} {e : Fm} : ∀ {vs us : List V} {rs qs : List Rv}, RsOk K cn O H σ e vs rs → RsOk K cn O H σ e us qs →
    (∀ (i j : Nat) (q p : Rv) (a : Addr), rs[i]? = some q → isNew q = true → vs[i]? = some (.ref a) → qs[j]? = some p → isNew p = true → us[j]? ≠ some (.ref a)) → RsOk K cn O H σ e (vs ++ us) (rs ++ qs)
  | _, _, _, _, .nil, s, _ => s
  | _, us, _, qs, .cons (v := v) (r := r) (vs := vs) (rs := rs) h ap t, s, n => by
    refine .cons h (fun a nr ea j u hu q hq nq eu => ?_) (RsOk.app t s fun i j q p a h1 h2 h3 h4 h5 => n (i + 1) j q p a (by simpa using h1) h2 (by simpa using h3) h4 h5)
    subst ea eu
    have lt0 := t.length
    replace hu : (vs ++ us)[j]? = some (V.ref a) := hu
    replace hq : (rs ++ qs)[j]? = some q := hq
    by_cases lt : j < vs.length
    · rw [List.getElem?_append_left lt] at hu
      rw [List.getElem?_append_left (by rw [← t.length]; exact lt)] at hq
      exact ap a nr rfl j _ hu q hq nq rfl
    · rw [List.getElem?_append_right (by omega)] at hu
      rw [List.getElem?_append_right (by rw [← t.length]; omega), ← t.length] at hq
      exact n 0 _ r q a rfl nr rfl hq nq hu
/-- both lists of a call's arguments -/
abbrev Ct.as2 (C : Ct) (es ks : Es) : Fm → Out (List Rv) := fun e => (evs C.wd C.run es e).bind fun rs e1 => (evs C.wd C.run ks e1).bind (appR rs)
theorem c_as2 {K : PySem.W.Frag} {σ : L2.St} {H : Hp} {Q : List V → Hp → Prop} (p1 : es'.plain = true) (p2 : ks'.plain = true) (h : tI K C (C.ks K) (C.as2 es' ks') σ H Q) :
    C.ta K es' σ H fun vs H1 => C.ta K ks' σ H1 fun us H2 => vs.length = es'.len ∧ us.length = ks'.len ∧ Q (vs ++ us) H2 := by
  obtain ⟨O, e, R, h⟩ := h
  refine ⟨O, e, R, ?_⟩
  unfold Ct.as2 at h
  cases h1 : evs C.wd C.run es' e with
  | bad => rw [h1] at h; exact h
  | ex c fs e1 => rw [h1] at h; exact h
  | ok rs e1 =>
    rw [h1] at h
    simp only [Out.bind_ok] at h
    intro vs O1 H1 R1 k1 s1 m1 n1
    refine ⟨O1, e1, R1, ?_⟩
    cases h2 : evs C.wd C.run ks' e1 with
    | bad => rw [h2] at h; exact h
    | ex c fs e2 => rw [h2] at h; exact Cn.shift (k := C.ks K) (Q := fun _ _ => True) (show Cn K C.cn C.L (C.ks K) (C.xw K σ) O H (Mine e σ) σ (.ex c fs e2) (fun _ _ => True) from h) s1 m1
    | ok qs e2 =>
      rw [h2] at h
      simp only [Out.bind_ok, appR] at h
      intro us O2 H2 R2 k2 s2 m2 n2
      have k1' : RsOk K C.cn O2 H2 σ e2 vs rs := RsOk.step R1 s2 m2 k1
      have l1 : vs.length = es'.len := (RsOk.length k1).trans (evs_len p1 h1)
      refine ⟨l1, (RsOk.length k2).trans (evs_len p2 h2), ?_⟩
      refine h (vs ++ us) O2 H2 R2 (RsOk.app k1' k2 fun i j q p a a1 a2 a3 a4 a5 a6 => ?_) (s1.trans s2 fun x z => .inl (m1 x z)) (fun a z => m1 a (m2 a z)) fun j u q hu hq => ?_
      · obtain ⟨b, eb, _, nm, d, c⟩ := RsOk.news k1 a3 a1 a2
        cases eb
        rcases n2 j _ p a6 a4 a5 a rfl with z | z
        · exact nm z
        · obtain ⟨ob, hob⟩ := c.there
          rw [hob] at z
          cases z
      · have lr : vs.length = rs.length := RsOk.length k1
        by_cases lt : j < vs.length
        · rw [List.getElem?_append_left lt] at hu
          rw [List.getElem?_append_left (by rw [← lr]; exact lt)] at hq
          exact n1 j u q hu hq
        · rw [List.getElem?_append_right (by omega)] at hu
          rw [List.getElem?_append_right (by rw [← lr]; omega), ← lr] at hq
          exact (n2 _ u q hu hq).sh (fun x z => m1 x z) s1.back
/-- a call of what is known, the arguments of both kinds -/
theorem with_as {f : Value} {first : List Value} {ks : List Str} {pins : List (Addr × Obj)} {s : Shared} {σ : L2.St} {H : Hp} {Q : List V → List V → Hp → Prop} {R : Value → Shared → Prop} (hk : PySem.W.keepIn X.K f = true) (ha : PA X es (C.ta X.K es')) (hkw : PK X kws (C.ta X.K ks')) (hs : es.all noStar = true)
    (hn : kwNm kws = some ks) (I : Inv X pins σ H s) (h : C.ta X.K es' σ H fun vs H1 => C.ta X.K ks' σ H1 fun us H2 => Q vs us H2) (he : es = [] → es' = .nil)
    (run : ∀ us ws s2 vs zs H2, Inv X pins σ H2 s2 → Vals vs us → Vals zs ws → Q vs zs H2 → wpAny (model X.prog X.w) X.A (call f (first ++ us) (ks.zip ws)) R X.xe s2) :
    wpAny (model X.prog X.w) X.A (callWith pos f first (backTo pos (starEach es X.env)) (backToKw pos (keywordEach kws X.env))) R X.xe s := by
  obtain ⟨h1, h2, h3⟩ := kw_all (pos := pos) (env := X.env) hn
  cases es with
  | nil =>
    refine PySem.W.callWith_KW0 (h₀ := X.base) (K := X.K) I.ok.mod.kin hk h1 ?_ (by rw [h3]; rfl)
    rw [h2]
    have hh : C.ta X.K ks' σ H fun us H2 => Q [] us H2 := by
      obtain ⟨O, e, R0, q⟩ := h
      rw [he rfl] at q
      exact q [] O H R0 .nil .refl (fun _ z => z) fun j u q a => by simp at a
    exact thn (hkw.run pos pins s σ H _ I hh) fun ws s2 ⟨zs, H2, I2, r2, q2⟩ => ⟨I2.kIn, run [] ws s2 [] zs H2 I2 .nil r2 q2⟩
  | cons a es =>
    have hs1 : noStar a = true ∧ es.all noStar = true := by rw [List.all_cons, Bool.and_eq_true] at hs; exact hs
    refine PySem.W.callWith_KW (h₀ := X.base) (K := X.K) I.ok.mod.kin hk h1 ?_ ?_ (star_cons hs1.1)
    · rw [h2]
      exact thn (ha.run pos pins s σ H _ I h) fun us s1 ⟨vs, H1, I1, r1, q1⟩ => thn (hkw.run pos pins s1 σ H1 _ I1 q1) fun ws s2 ⟨zs, H2, I2, r2, q2⟩ => ⟨I2.kIn, run us ws s2 vs zs H2 I2 r1 r2 q2⟩
    · rw [plain_back hs, h3]; rfl
/-- f(e, .., k = e, ..) -/
theorem s_cal {f k : Nat} {fa : Addr} {fd : FuncData} {ps ks : List Str} {pm : List (Option Nat)} (F : FnG X.prog X.w X.K X.mg X.base k fa fd ps (spF X.K C.cn C.xd C.run ps.length f)) (hgd : X.A.guards = some []) (hr : Room k X.A) (tk : Takes X C.W) (hg : Gl X x) (hm : X.mg x = some (.ref fa))
    (hk : PySem.W.keepIn X.K (.ref fa) = true) (hd : (x == ("__debug__" : Str)) = false) (sh : ShOk X.K C.cn fd ps (dfls (C.wd.npar f) (C.wd.dfl f)) es.length ks pm) (ha : PA X es (C.ta X.K es')) (hkw : PK X kws (C.ta X.K ks')) (hs : es.all noStar = true) (hn : kwNm kws = some ks)
    (p1 : es'.plain = true) (p2 : ks'.plain = true) (l1 : es'.len = es.length) (l2 : ks'.len = kws.length) : PE X (.Call (.Name x p) es kws pos) (C.te X.K (.cal f es' ks' pm)) := by
  refine ⟨fun pins s σ H Q I h => ?_⟩
  obtain ⟨dvs, ds, rd, hd2, hb⟩ := sh.to
  have h2 := c_as2 p1 p2 ((tI.bind (k := C.ks X.K) (m := C.as2 es' ks') (f := fun rs => callR C.run C.wd f rs pm) h))
  refine wpAny_Call_Name_kw (ld_glob I hg hm ?_ hd)
  refine with_as (first := []) hk ha hkw hs hn I h2 (fun z => by subst z; cases es' <;> first | rfl | (simp [Es.len] at l1)) fun us ws s2 vs zs H2 I2 r1 r2 ⟨n1, n2, O, e, rs, e1, O1, A, c⟩ => ?_
  have r3 : Vals (arr (vs ++ zs) pm dvs) (arr (us ++ ws) pm ds) := arr_rel (r1.append r2) rd
  refine run_g (args := ⟨us, ks.zip ws⟩) F hgd hr (hb s2 us ws I2.kIn ?_ ?_) tk I2 r3 ?_
  · rw [← r1.length, n1, l1]
  · rw [← r2.length, n2, l2, kw_len hn]
  · exact call_sp (fun _ _ _ _ _ _ z y => z _ _ y) hd2 sh.nd (by rw [sh.ln]) A.R A.s A.m A.ok A.new c
end
end
end PV
/-! ## rules: methods, makers, properties -/
namespace PV
open PySem L2 PyProof.Rows
noncomputable section
section
variable {K : PySem.W.Frag} {C : Ct} {O O0 O1 : Addr → Prop} {H H0 H1 : Hp} {M : Addr → Prop} {e e1 : Fm} {σ : L2.St} {v : V} {r r' : Rv}
/-- the next answer behind a first -/
theorem Mid.next {α β γ δ α' β' : Type} {k : Kd α β} {k2 : Kd γ δ} {kf : Kd α' β'} {v : β} {r : α} {m2 : Fm → Out γ} {f : γ → Fm → Out α'} {Q : β' → Hp → Prop} (A : Mid K C k σ O e H v H1 r e1 O1)
    (c : Cn K C.cn C.L kf (C.xw K σ) O H (Mine e σ) σ ((m2 e1).bind f) Q) : PV.tI K C k2 m2 σ H1 fun u H2 => ∃ q e2 O2, Mid K C k2 σ O1 e1 H1 u H2 q e2 O2 ∧ Cn K C.cn C.L kf (C.xw K σ) O H (Mine e σ) σ (f q e2) Q := by
  refine ⟨O1, e1, A.R, ?_⟩
  cases w : m2 e1 with
  | ok q e2 =>
    rw [w] at c
    exact fun u O2 H2 R2 b s2 m2 n2 => ⟨q, e2, O2, ⟨A.R, R2, s2, m2, b, n2⟩, c⟩
  | ex x fs e2 =>
    rw [w] at c
    exact Cn.shift (k := k2) (Q := fun _ _ => True) (show Cn K C.cn C.L k2 (C.xw K σ) O H (Mine e σ) σ (.ex x fs e2) (fun _ _ => True) from c) A.s A.m
  | bad => rw [w] at c; exact c
/-- one answer ahead of others -/
theorem Mid.push {vs : List V} {rs : List Rv} {H2 : Hp} {e2 : Fm} {O2 : Addr → Prop} (A : Mid K C (C.k K) σ O e H v H1 r e1 O1) (B : Mid K C (C.ks K) σ O1 e1 H1 vs H2 rs e2 O2) (h1 : RvOk K C.cn O2 H2 σ e2 v r') (h2 : isNew r' = true → isNew r = true) :
    RsOk K C.cn O2 H2 σ e2 (v :: vs) (r' :: rs) ∧ RsNew H (Mine e σ) (v :: vs) (r' :: rs) ∧ Step O H O2 H2 (Mine e σ) ∧ ∀ a, Mine e2 σ a → Mine e σ a := by
  refine ⟨.cons h1 (fun a n ea j u hu q hq nq eu => ?_) B.ok, fun j u q hu hq => ?_, A.s.trans B.s fun x z => .inl (A.m x z), fun a z => A.m a (B.m a z)⟩
  · subst ea eu
    obtain ⟨a2, ea, o, nm, d, c⟩ := RvOk.news A.ok (h2 n)
    cases ea
    rcases B.new j _ q hu hq nq a rfl with z | z
    · exact nm z
    · obtain ⟨ob, hob⟩ := c.there
      rw [hob] at z
      cases z
  · cases j with
    | zero =>
      simp at hu hq
      subst hu hq
      exact fun n => A.new (h2 n)
    | succ j => exact (B.new j u q (by simpa using hu) (by simpa using hq)).sh (fun x z => A.m x z) A.s.back
theorem self_ok (h : RvOk K C.cn O H σ e v r) : RvOk K C.cn O H σ e v (selfR r) := by
  cases r <;> exact h
theorem self_new (h : isNew (selfR r) = true) : isNew r = true := by
  cases r <;> first | exact h | cases h
theorem DenF.noKey {f : Str} : ∀ {vs : List (Str × V)} {ds : List (Str × D)}, DenF K C.cn O H vs ds → ds.lookup f = none → vs.lookup f = none
  | _, _, .nil, _ => rfl
  | _, _, .cons (f := g) h r, q => by
    simp only [List.lookup] at q ⊢
    split at q
    · cases q
    · exact DenF.noKey r q
theorem arr_congr {x y : V} {vs : List V} : ∀ {os : List (Option Nat)} {ds : List V}, 0 ∉ os.filterMap id → arr (x :: vs) os ds = arr (y :: vs) os ds
  | [], _, _ => by simp [arr]
  | none :: os, [], _ => rfl
  | some k :: os, [], _ => rfl
  | none :: os, d :: ds, h => by simp only [arr]; rw [arr_congr (x := x) (y := y) (by simpa using h)]
  | some k :: os, d :: ds, h => by
    simp only [List.filterMap_cons, id, List.mem_cons, not_or] at h
    simp only [arr]
    rw [arr_congr (x := x) (y := y) h.2]
    cases k with
    | zero => exact absurd rfl h.1
    | succ k => simp
theorem AsOk.ext {O' : Addr → Prop} {H' : Hp} {vs : List V} {as : List Sl} (x : Ext O H O' H') (h : AsOk K C.cn O H vs as) (k : ∀ a, O a → ∀ o, H a = some o → O' a ∧ H' a = some o) : AsOk K C.cn O' H' vs as := by
  induction h with
  | nil => exact .nil
  | val d _ ih => exact .val (d.ext x) ih
  | dead _ ih => exact .dead ih
  | own o c n _ ih =>
    obtain ⟨ob, hob⟩ := c.there
    exact .own (k _ o ob hob).1 (c.ext x fun u q => (k _ o u q).2) n ih
/-- the state with a new thing: its maker's start -/
theorem make_sp {g n c : Nat} {dfl : List (Option D)} {dvs : List V} {rs : List Rv} {vs : List V} {pm : List (Option Nat)} {Q : VK} {run : Nat → List Sl → Res} {x dx : Addr} (hd : DflOk K C.cn dfl dvs) (np : (pm.filterMap id).Nodup) (hn : dfl.length = n)
    (R : Rel K C.cn C.L O e σ H) (s : Step O0 H0 O H M) (m : ∀ a, Mine e σ a → M a) (t : RsOk K C.cn O H σ e vs rs) (nw : RsNew H0 M vs rs) (hx : H x = none) (hdx : H dx = none) (ne : dx ≠ x)
    (cc : Cn K C.cn C.L (C.k K) (C.xw K σ) O0 H0 M σ (match argsOf (.val .non :: rs) e dfl pm with
      | some (as, ls) => if ls.Nodup ∧ pm.head? = some (some 0) then (match run g (makA c as) with
        | .ok .non false (o :: outs) => .ok (.fresh o) (putBack e ls outs)
        | .ex k fs (_ :: outs) => .ex k fs (putBack e ls outs)
        | _ => .bad) else .bad
      | _ => .bad) Q) :
    spF K C.cn C.xd run n g (arr (.ref x :: vs) pm dvs) (upd (upd H dx (.own x)) x (.ins (C.cn c) dx [])) (fun v H2 => v = .non ∧ Q (.ref x) H2) (fun cls d H' => C.W cls d σ H') := by
  cases ha : argsOf (.val .non :: rs) e dfl pm with
  | none => rw [ha] at cc; exact cc.elim
  | some p =>
    obtain ⟨as, ls⟩ := p
    rw [ha] at cc
    dsimp only at cc
    split at cc
    · rename_i nd
      obtain ⟨nd, hh⟩ := nd
      obtain ⟨O2, R2, s2, t2, n2, x2⟩ := fz_all R s t nw
      have t3 : RsOk K C.cn O2 H σ e (.non :: vs) ((Rv.val .non :: rs).map fzR) := .cons (show Den K C.cn O2 H .non .non from .non) (fun a z => nomatch z) t2
      have n3 : RsNew H0 M (.non :: vs) ((Rv.val .non :: rs).map fzR) := fun j u q hu hq => by
        cases j with
        | zero => simp [fzR] at hq; subst hq; exact fun z => nomatch z
        | succ j => exact n2 j u q (by simpa using hu) (by simpa using hq)
      have ha2 : argsOf ((Rv.val .non :: rs).map fzR) e dfl pm = some (as, ls) := by rw [argsOf_fz]; exact ha
      obtain ⟨ok, wh, hl⟩ := args_ok R2 t3 nf_map hd ha2 nd np
      obtain ⟨os, rfl⟩ : ∃ os, pm = some 0 :: os := by
        cases pm with
        | nil => cases hh
        | cons o os => exact ⟨os, by rw [show o = some 0 by simpa using hh]⟩
      obtain ⟨dv, ds, v0, dvs', rfl, rfl⟩ : ∃ dv ds v0 dvs', dfl = dv :: ds ∧ dvs = v0 :: dvs' := by
        cases hd with
        | nil => cases ha2
        | none h => exact ⟨_, _, _, _, rfl, rfl⟩
        | some h0 h => exact ⟨_, _, _, _, rfl, rfl⟩
      have n0 : 0 ∉ os.filterMap id := by
        simp only [List.filterMap_cons, id] at np
        exact (List.nodup_cons.mp np).1
      have eA : arr (V.non :: vs) (some 0 :: os) (v0 :: dvs') = .non :: arr (.non :: vs) os dvs' := rfl
      have eB : arr (V.ref x :: vs) (some 0 :: os) (v0 :: dvs') = .ref x :: arr (.non :: vs) os dvs' := by
        rw [← arr_congr (x := .ref x) (y := .non) (vs := vs) (ds := dvs') n0]
        rfl
      rw [eB]
      rw [eA] at ok
      generalize hT : arr (V.non :: vs) os dvs' = T at ok
      cases ok with
      | dead ok' =>
        exfalso
        simp only [argsOf, argOf, List.map_cons, fzR, List.getElem?_cons_zero] at ha2
        split at ha2
        · rename_i h1 h2
          cases h1
          cases ha2
        · cases ha2
      | val hden ok' =>
        rename_i d0 as'
        have nA : ∀ b, ArgM (V.non :: T) (Sl.val d0 :: as') b → ArgM T as' b := fun b ⟨i, l, d, q, w⟩ => by
          cases i with
          | zero => simp at q
          | succ i => exact ⟨i, l, d, by simpa using q, by simpa using w⟩
        have upk : ∀ b o, H b = some o → upd (upd H dx (.own x)) x (.ins (C.cn c) dx []) b = some o := fun b o h => by
          rw [upd_ne (ne_of_none h hx), upd_ne (ne_of_none h hdx)]
          exact h
        have x3 : Ext O2 H (fun b => O2 b ∨ b = x) (upd (upd H dx (.own x)) x (.ins (C.cn c) dx [])) := ⟨fun b o h _ => ⟨o, upk b o h, .rfl'⟩, fun b o h n z => z.elim n (ne_of_none h hx)⟩
        have ok3 := ok'.ext x3 fun a oa o h => ⟨.inl oa, upk a o h⟩
        have onx : ∀ b, O2 b → b ≠ x := fun b ob e => R2.dom b ob (by rw [e]; exact hx)
        have s3 : ∀ {M' : Addr → Prop}, Step O2 H (fun b => O2 b ∨ b = x) (upd (upd H dx (.own x)) x (.ins (C.cn c) dx [])) M' := ⟨fun b o h _ => ⟨o, upk b o h, .rfl', fun _ => rfl⟩, fun b o h _ => ⟨fun z => z.elim id fun e => absurd e (ne_of_none h hx), .inl⟩⟩
        have dom3 : ∀ a, (O2 a ∨ a = x) → upd (upd H dx (.own x)) x (.ins (C.cn c) dx []) a ≠ none := fun a z => by
          by_cases q : a = x
          · subst q; rw [upd_same]; exact fun z => nomatch z
          · rw [upd_ne q]
            by_cases q2 : a = dx
            · subst q2; rw [upd_same]; exact fun z => nomatch z
            · rw [upd_ne q2]; exact R2.dom a (z.elim id fun w => absurd w q)
        have disj : ∀ (j : Nat) (l' : Option Nat) (d' : D), as'[j]? = some (.own l' d') → T[j]? ≠ some (.ref x) := fun j l' d' q w => by
          obtain ⟨a, ha', oa, _⟩ := ok'.getOwn q
          rw [w] at ha'
          cases ha'
          exact onx x oa rfl
        have am3 : ∀ b, ArgM (.ref x :: T) (makA c (Sl.val d0 :: as')) b → ArgM (V.non :: T) (Sl.val d0 :: as') b ∨ H b = none := fun b ⟨i, l, d, q, w⟩ => by
          cases i with
          | zero => simp at w; subst w; exact .inr hx
          | succ i => exact .inl ⟨i + 1, l, d, by simpa [makA] using q, by simpa using w⟩
        have len3 : (V.ref x :: T).length = n := by
          rw [← hn, hd.length, ← arr_len (α := V) (as := V.non :: vs) hl, eA, hT]
          rfl
        refine ⟨fun b => O2 b ∨ b = x, makA c (Sl.val d0 :: as'), .own (.inr rfl) (.obj upd_same .nil) disj ok3, dom3, len3, ?_⟩
        have back : ∀ {O' : Addr → Prop} {H' : Hp} {o : D} {outs : List D}, Step (fun b => O2 b ∨ b = x) (upd (upd H dx (.own x)) x (.ins (C.cn c) dx [])) O' H' (ArgM (.ref x :: T) (makA c (Sl.val d0 :: as'))) → (∀ a, O' a → H' a ≠ none) →
            OutsOk K C.cn O' H' (.ref x :: T) (makA c (Sl.val d0 :: as')) (o :: outs) → (O' x ∧ Cont K C.cn O' H' x o) ∧ Rel K C.cn C.L O' (putBack e ls outs) σ H' ∧ Step O0 H0 O' H' M := fun s' dom oo => by
          cases oo with
          | lent ox cx oo' =>
            refine ⟨⟨ox, cx⟩, ?_⟩
            refine call_rel (dvs := v0 :: dvs') R2 s2 t3 n3 m hd.length ha2 nd ?_ wh ?_ dom ?_
            · rw [eA, hT]; exact .val hden ok'
            · rw [eA, hT]; exact s3.trans s' am3
            · rw [eA, hT]; exact .val oo'
        cases hr : run g (makA c (Sl.val d0 :: as')) with
        | bad => rw [hr] at cc; exact cc.elim
        | ok r fr outs =>
          rw [hr] at cc
          intro v O' H' s' dom oo ret
          split at cc
          · rename_i o outs hq
            cases hq
            obtain ⟨⟨ox, cx⟩, R', S'⟩ := back s' dom oo
            have ev : v = .non := by cases (show Den K C.cn O' H' v .non from ret); rfl
            refine ⟨ev, cc (.ref x) O' H' R' ⟨x, rfl, ox, cx, fun z => ?_⟩ S' (fun a z => m a (put_mine z)) fun _ b eb => ?_⟩
            · exact onx x (R2.mine (put_mine z)) rfl
            · cases eb; exact s2.back x hx
          · rename_i hq; cases hq
          · exact cc.elim
        | ex k fs outs =>
          rw [hr] at cc
          intro O' H' cls d s' dom oo xo
          split at cc
          · rename_i hq; cases hq
          · rename_i hq
            cases hq
            obtain ⟨⟨ox, cx⟩, R', S'⟩ := back s' dom oo
            exact cc O' H' R' S' (fun a z => m a (put_mine z)) cls d xo
          · exact cc.elim
    · exact cc.elim
end
section
variable {X : Cx} {C : Ct} {pos p apos : Pos} {a b c : Expr} {a' b' c' : E} {es : List Expr} {kws : List Keyword} {es' ks' r' : Es} {x m f : Str}
/-- a method that is called at such a place -/
structure MthOk (X : Cx) (C : Ct) (k n : Nat) (ks : List Str) (pm : List (Option Nat)) (m : Str) (c g : Nat) : Prop where
  cls : Cls X.K (C.cn c)
  ex : ∃ fa fd ps, Meth X.K (C.cn c) m fa ∧ FnG X.prog X.w X.K X.mg X.base k fa fd ps (spF X.K C.cn C.xd C.run ps.length g) ∧ ShOk X.K C.cn fd ps (dfls (C.wd.npar g) (C.wd.dfl g)) (n + 1) ks pm
/-- o.m(e, .., k = e, ..) -/
theorem s_mth {k : Nat} {ks : List Str} {pm : List (Option Nat)} (hM : ∀ c g, C.wd.mth c m = some g → MthOk X C k es.length ks pm m c g) (hgd : X.A.guards = some []) (hr : Room k X.A) (tk : Takes X C.W) (ho : PE X a (C.te X.K a')) (hb : noCall a = true)
    (ha : PA X es (C.ta X.K es')) (hkw : PK X kws (C.ta X.K ks')) (hs : es.all noStar = true) (hn : kwNm kws = some ks) (hf : es.length + kws.length < 29) (hl : (apos.endLine == pos.line) = true)
    (p1 : es'.plain = true) (p2 : ks'.plain = true) (l1 : es'.len = es.length) (l2 : ks'.len = kws.length) : PE X (.Call (.Attribute a m apos) es kws pos) (C.te X.K (.mth a' m es' ks' pm)) := by
  refine ⟨fun pins s σ H Q I h => ?_⟩
  have h2 := tI.bind (k := C.k X.K) (m := C.ev a') (f := fun x e1 => match mthG C.wd m x e1 with
    | some g => (C.as2 es' ks' e1).bind fun rs => callR C.run C.wd g (selfR x :: rs) pm
    | none => .bad) h
  have hform : methodCallForm (es.length + kws.length) (backTo pos (starEach es X.env)) (backToKw pos (keywordEach kws X.env)) = true := by
    obtain ⟨h1, h2, h3⟩ := kw_all (pos := pos) (env := X.env) hn
    unfold methodCallForm
    rw [plain_all hs, h1]
    simp only [Bool.true_and, decide_eq_true_eq]
    split <;> omega
  refine PySem.W.methodCall_KW (pl := do return (← importBound a X.env).getD true) (thn (ho.run pins s σ H _ I h2) fun u s1 ⟨x, H1, I1, rx, O, e, r, e1, O1, A, c⟩ => ?_) (mth_eval hb hform hl)
  cases hg : mthG C.wd m r e1 with
  | none => rw [hg] at c; exact c.elim
  | some g =>
    rw [hg] at c
    unfold mthG at hg
    split at hg
    · rename_i cc fs q
      split at hg
      · cases hg
      · rename_i nk
        obtain ⟨cl, fa, fd, ps, hm, F, sh⟩ := hM cc g hg
        obtain ⟨dvs, ds, rd, hd2, hb2⟩ := sh.to
        obtain ⟨p, dx, vs, rfl, hp, df⟩ := (RvOk.rd A.R A.ok q).obj
        cases rx
        have nk' : vs.lookup m = none := DenF.noKey (C := C) df (by
          cases q2 : fs.lookup m with
          | none => rfl
          | some z => rw [q2] at nk; exact absurd rfl nk)
        refine getmeth_ok I1 hp cl hm nk' ?_
        refine with_as (first := [.ref p]) hm.kp ha hkw hs hn I1 (c_as2 p1 p2 (A.next (k2 := C.ks X.K) (m2 := C.as2 es' ks') c)) (fun z => by subst z; cases es' <;> first | rfl | (simp [Es.len] at l1)) fun us ws s2 vs2 zs H2 I2 r1 r2 ⟨n1, n2, rs, e2, O2, B, c2⟩ => ?_
        obtain ⟨k3, n3, s3, m3⟩ := A.push B (self_ok (RvOk.step A.R B.s B.m A.ok)) self_new
        have r3 : Vals (arr (.ref p :: (vs2 ++ zs)) pm dvs) (arr (.ref p :: (us ++ ws)) pm ds) := arr_rel (show Vals (.ref p :: (vs2 ++ zs)) (.ref p :: (us ++ ws)) from .cons rfl (r1.append r2)) rd
        refine run_g (args := ⟨.ref p :: us, ks.zip ws⟩) F hgd hr (hb2 s2 (.ref p :: us) ws I2.kIn ?_ ?_) tk I2 r3 ?_
        · rw [List.length_cons, ← r1.length, n1, l1]
        · rw [← r2.length, n2, l2, kw_len hn]
        · exact call_sp (fun _ _ _ _ _ _ z y => z _ _ y) hd2 sh.nd (by rw [sh.ln]) B.R s3 m3 k3 n3 c2
    · cases hg
/-- C(e, .., k = e, ..) -/
theorem s_mak {cc g k : Nat} {fa : Addr} {fd : FuncData} {ps ks : List Str} {pm : List (Option Nat)} (hi : C.wd.ini cc = some g) (Mk0 : Mk X.K (C.cn cc) fa) (F : FnG X.prog X.w X.K X.mg X.base k fa fd ps (spF X.K C.cn C.xd C.run ps.length g)) (hgd : X.A.guards = some []) (hr : Room (k + 1) X.A) (tk : Takes X C.W) (hg : Gl X x)
    (hm : X.mg x = some (.ref (C.cn cc))) (hd : (x == ("__debug__" : Str)) = false) (sh : ShOk X.K C.cn fd ps (dfls (C.wd.npar g) (C.wd.dfl g)) (es.length + 1) ks pm) (ha : PA X es (C.ta X.K es')) (hkw : PK X kws (C.ta X.K ks')) (hs : es.all noStar = true) (hn : kwNm kws = some ks)
    (p1 : es'.plain = true) (p2 : ks'.plain = true) (l1 : es'.len = es.length) (l2 : ks'.len = kws.length) : PE X (.Call (.Name x p) es kws pos) (C.te X.K (.mak cc es' ks' pm)) := by
  refine ⟨fun pins s σ H Q I h => ?_⟩
  obtain ⟨dvs, ds, rd, hd2, hb⟩ := sh.to
  have h0 : PV.tI X.K C (C.k X.K) (fun e => (C.as2 es' ks' e).bind (makR C.wd C.run cc g pm)) σ H Q := h.eq fun e => by simp only [Ct.ev, ev, hi]
  have h2 := c_as2 p1 p2 (tI.bind (k := C.ks X.K) (m := C.as2 es' ks') (f := makR C.wd C.run cc g pm) h0)
  refine wpAny_Call_Name_kw (ld_glob I hg hm ?_ hd)
  refine with_as (first := []) Mk0.kp ha hkw hs hn I h2 (fun z => by subst z; cases es' <;> first | rfl | (simp [Es.len] at l1)) fun us ws s2 vs zs H2 I2 r1 r2 ⟨n1, n2, O, e, rs, e1, O1, A, c⟩ => ?_
  refine run_makeG (bs := fun x => arr (.ref x :: (us ++ ws)) pm ds) (vs := fun x => arr (.ref x :: (vs ++ zs)) pm dvs) Mk0 F hgd hr (fun x s1 hK => hb s1 (.ref x :: us) ws hK ?_ ?_) tk I2 (fun x => arr_rel (show Vals (.ref x :: (vs ++ zs)) (.ref x :: (us ++ ws)) from .cons rfl (r1.append r2)) rd) fun x dx hx hdx ne => ?_
  · rw [List.length_cons, ← r1.length, n1, l1]
  · rw [← r2.length, n2, l2, kw_len hn]
  · exact make_sp hd2 sh.nd (by rw [sh.ln]) A.R A.s A.m A.ok A.new hx hdx ne c
/-- a property that is read at such a place -/
structure PrpOk (X : Cx) (C : Ct) (k : Nat) (f : Str) (c g : Nat) : Prop where
  cls : Cls X.K (C.cn c)
  ex : ∃ pa fa fd ps, PropOf X.K (C.cn c) f pa fa ∧ FnG X.prog X.w X.K X.mg X.base k fa fd ps (spF X.K C.cn C.xd C.run ps.length g) ∧ ShOk X.K C.cn fd ps (dfls (C.wd.npar g) (C.wd.dfl g)) 1 [] [some 0]
theorem Cn.sure {K : PySem.W.Frag} {cn : Nat → Addr} {L : Nat → Addr} {α β : Type} {k : Kd α β} {W : XW} {O : Addr → Prop} {H : Hp} {M : Addr → Prop} {σ : L2.St} {o : Out α} {Q : β → Hp → Prop} (h : Cn K cn L k W O H M σ o.sure Q) : Cn K cn L k (fun _ _ _ _ => False) O H M σ o Q := by
  cases o with
  | ok r e => exact h
  | ex c fs e => exact h.elim
  | bad => exact h
/-- a property's getter runs -/
theorem getprop_g {pins : List (Addr × Obj)} {σ : L2.St} {H : Hp} {s : Shared} {Q : VK} {b : Bool} {E' : Value → Shared → Prop} {k : Nat} {q dx cl pa fa : Addr} {fs : List (Str × V)} {fd : FuncData} {ps : List Str} {sp : Sp} {us : List Value} {vs : List V} (I : Inv X pins σ H s)
    (ea : H q = some (.ins cl dx fs)) (c : Cls X.K cl) (hp : PropOf X.K cl f pa fa) (F : FnG X.prog X.w X.K X.mg X.base k fa fd ps sp) (hgd : X.A.guards = some []) (hr : Room (k + 1) X.A) (hb : BindsTo { s with toks := s.toks + 1 } fd ⟨[.ref q], []⟩ (ps.zip us)) (rv : Vals vs us)
    (h : sp vs H Q fun _ _ _ => False) : wpAny (model X.prog X.w) X.A (getAttr (.ref q) f b) (EP X pins σ Q) E' s := by
  obtain ⟨mA, OO, _, _, _, _⟩ := ins_get I.hok ea
  obtain ⟨od, J, _⟩ := OO.look
  obtain ⟨rest, hrec⟩ := hp.rec_
  have I1 := I.tok (s.toks + 1)
  have hc : (PySem.W.clsIn X.K cl).isSome = true := by
    obtain ⟨cd, hc, _⟩ := PySem.W.any_some c.hd
    rw [hc]
    rfl
  have gt := PySem.W.plainGet_of (c.get f)
  refine PySem.W.get_bind I.kIn J gt.1 (PySem.W.findObj_data hc hp.at_ hp.get hp.tak) gt.2 (wpAny_call (PySem.W.prop_get (s := { s with toks := s.toks + 1 }) I.kIn hrec ?_))
  refine codeAny_mono (F.run X.A.in1 X.stack _ H _ us vs Q _ hgd hr.in1 I1.env0.in1 hb rv h) fun z s' y => ?_
  cases z with
  | error er =>
    obtain ⟨_, _, _, _, _, _, _, _, _, _, _, _, z⟩ := y
    exact z.elim
  | ok fl =>
    cases fl with
    | ret u =>
      obtain ⟨v, H', I3, r3, q3⟩ := I1.after y
      show wpAny _ _ (handedOut u) _ _ _
      rw [PySem.W.handedOut_of (handed_of r3)]
      exact wpAny_pure ⟨v, H', I3, r3, q3⟩
    | _ => exact y.elim
/-- o.f, a property -/
theorem s_prp {k : Nat} (hP : ∀ c g, C.wd.prp c f = some g → PrpOk X C k f c g) (hgd : X.A.guards = some []) (hr : Room (k + 1) X.A) (ho : PE X a (C.te X.K a')) (hb : noCall a = true) : PE X (.Attribute a f pos) (C.te X.K (.prp a' f)) := by
  refine ⟨fun pins s σ H Q I h => ?_⟩
  have h2 := tI.bind (k := C.k X.K) (m := C.ev a') (f := prpR C.wd C.run f) h
  refine attr_of (attr_base hb) (thn (ho.run pins s σ H _ I h2) fun u s1 ⟨x, H1, I1, rx, O, e, r, e1, O1, A, c⟩ => ?_)
  unfold prpR at c
  cases hq : ((r.rd e1).bind obj1).bind fun c => C.wd.prp c f with
  | none => rw [hq] at c; exact c.elim
  | some g =>
    rw [hq] at c
    cases q : r.rd e1 with
    | none => rw [q] at hq; cases hq
    | some d =>
      rw [q] at hq
      cases d with
      | obj cc fs =>
        obtain ⟨cl, pa, fa, fd, ps, hp, F, sh⟩ := hP cc g hq
        obtain ⟨dvs, ds, rd, hd2, hb2⟩ := sh.to
        obtain ⟨p, dx, vs, rfl, hpo, df⟩ := (RvOk.rd A.R A.ok q).obj
        cases rx
        have k1 : RsOk X.K C.cn O1 H1 σ e1 [.ref p] [selfR r] := .cons (self_ok A.ok) (fun a n ea j u hu => by simp at hu) .nil
        have n1 : RsNew H (Mine e σ) [.ref p] [selfR r] := fun j u q hu hq => by
          cases j with
          | zero => simp at hu hq; subst hu hq; exact fun z => A.new (self_new z)
          | succ j => simp at hu
        have sp : spF X.K C.cn C.xd C.run ps.length g (arr [.ref p] [some 0] dvs) H1 Q fun _ _ _ => False := call_sp (fun _ _ _ _ _ _ z _ => z) hd2 sh.nd (by rw [sh.ln]) A.R A.s A.m k1 n1 (Cn.sure c)
        have r3 : Vals (arr [V.ref p] [some 0] dvs) (arr [Value.ref p] [some 0] ds) := arr_rel (show Vals [V.ref p] [.ref p] from .cons rfl .nil) rd
        exact getprop_g I1 hpo cl hp F hgd hr (hb2 _ [.ref p] [] I1.kIn rfl rfl) r3 sp
      | _ => cases hq
end
end
end PV
/-! ## rules: statements -/
namespace PV
open PySem L2 PyProof.Rows
noncomputable section
section
variable {K : PySem.W.Frag} {cn : Nat → Addr} {L : Nat → Addr} {O O' O0 O1 : Addr → Prop} {H H' H0 H1 : Hp} {M : Addr → Prop} {e e1 : Fm} {σ : L2.St} {v : V} {d : D}
theorem set_some {i j : Nat} {w : Option V} {z : V} (h : σ[i]? = some (some z)) : (j = i ∧ True) ∨ (σ.set j w)[i]? = some (some z) := by
  by_cases q : j = i
  · exact .inl ⟨q, trivial⟩
  · exact .inr (by rw [List.getElem?_set_ne q]; exact h)
/-- a slot takes a value that stays -/
theorem Rel.setVal (R : Rel K cn L O e σ H) (i : Nat) (dn : Den K cn O H v d) : Rel K cn L O (e.set i (.val d)) (σ.set i (some v)) H := by
  have lt : ∀ {s : Sl}, (e.set i (.val d))[i]? = some s → (σ.set i (some v))[i]? = some (some v) := fun h => by
    have : i < e.length := by have := (List.getElem?_eq_some_iff.mp h).1; simpa using this
    rw [List.getElem?_set_self]
    rw [← R.len]; exact this
  refine ⟨by simpa using R.len, R.dom, fun j y q => ?_, fun j l y q => ?_, fun j k y q => ?_, fun j k l l' y y' a q q' => ?_⟩
  · rcases get_set q with ⟨ej, z⟩ | ⟨n, z⟩
    · subst ej; cases z; exact ⟨v, lt q, dn⟩
    · obtain ⟨w, hw, dw⟩ := R.val j y z
      exact ⟨w, by rw [List.getElem?_set_ne (Ne.symm n)]; exact hw, dw⟩
  · rcases get_set q with ⟨_, z⟩ | ⟨n, z⟩
    · cases z
    · rw [List.getElem?_set_ne (Ne.symm n)]; exact R.own j l y z
  · rcases get_set q with ⟨_, z⟩ | ⟨n, z⟩
    · cases z
    · rw [List.getElem?_set_ne (Ne.symm n)]; exact R.lent j k y z
  · rcases get_set q with ⟨_, z⟩ | ⟨n, z⟩
    · cases z
    · rcases get_set q' with ⟨_, z'⟩ | ⟨n', z'⟩
      · cases z'
      · rw [List.getElem?_set_ne (Ne.symm n), List.getElem?_set_ne (Ne.symm n')]
        exact R.inj j k l l' y y' a z z'
theorem Mine.setVal {i : Nat} {a : Addr} {w : Option V} (h : Mine (e.set i (.val d)) (σ.set i w) a) : Mine e σ a := by
  obtain ⟨j, l, y, q, z⟩ := h
  rcases get_set q with ⟨_, z'⟩ | ⟨n, z'⟩
  · cases z'
  · rw [List.getElem?_set_ne (Ne.symm n)] at z
    exact ⟨j, l, y, z', z⟩
/-- a slot takes a new thing -/
theorem Rel.setOwn {a : Addr} (R : Rel K cn L O e σ H) (i : Nat) (oa : O a) (c : Cont K cn O H a d) (nm : ¬ Mine e σ a) : Rel K cn L O (e.set i (.own none d)) (σ.set i (some (.ref a))) H := by
  have lt : ∀ {s : Sl}, (e.set i (.own none d))[i]? = some s → (σ.set i (some (.ref a)))[i]? = some (some (.ref a)) := fun h => by
    have : i < e.length := by have := (List.getElem?_eq_some_iff.mp h).1; simpa using this
    rw [List.getElem?_set_self]
    rw [← R.len]; exact this
  refine ⟨by simpa using R.len, R.dom, fun j y q => ?_, fun j l y q => ?_, fun j k y q => ?_, fun j k l l' y y' b q q' w w' => ?_⟩
  · rcases get_set q with ⟨ej, z⟩ | ⟨n, z⟩
    · cases z
    · obtain ⟨w, hw, dw⟩ := R.val j y z
      exact ⟨w, by rw [List.getElem?_set_ne (Ne.symm n)]; exact hw, dw⟩
  · rcases get_set q with ⟨ej, z⟩ | ⟨n, z⟩
    · subst ej; cases z; exact ⟨a, lt q, oa, c⟩
    · rw [List.getElem?_set_ne (Ne.symm n)]; exact R.own j l y z
  · rcases get_set q with ⟨_, z⟩ | ⟨n, z⟩
    · cases z
    · rw [List.getElem?_set_ne (Ne.symm n)]; exact R.lent j k y z
  · rcases get_set q with ⟨ej, z⟩ | ⟨n, z⟩
    · rcases get_set q' with ⟨ek, z'⟩ | ⟨n', z'⟩
      · rw [ej, ek]
      · subst ej
        rw [lt q] at w
        cases w
        rw [List.getElem?_set_ne (Ne.symm n')] at w'
        exact absurd ⟨k, l', y', z', w'⟩ nm
    · rcases get_set q' with ⟨ek, z'⟩ | ⟨n', z'⟩
      · subst ek
        rw [lt q'] at w'
        cases w'
        rw [List.getElem?_set_ne (Ne.symm n)] at w
        exact absurd ⟨j, l, y, z, w⟩ nm
      · rw [List.getElem?_set_ne (Ne.symm n)] at w
        rw [List.getElem?_set_ne (Ne.symm n')] at w'
        exact R.inj j k l l' y y' b z z' w w'
theorem Mine.setOwn {i : Nat} {a b : Addr} (h : Mine (e.set i (.own none d)) (σ.set i (some (.ref a))) b) : Mine e σ b ∨ b = a := by
  obtain ⟨j, l, y, q, z⟩ := h
  rcases get_set q with ⟨ej, z'⟩ | ⟨n, z'⟩
  · subst ej
    rw [List.getElem?_set] at z
    split at z
    · split at z
      · cases z; exact .inr rfl
      · cases z
    · exact absurd rfl ‹_›
  · rw [List.getElem?_set_ne (Ne.symm n)] at z
    exact .inl ⟨j, l, y, z', z⟩
/-! ### what is wanted behind a statement -/
/-- an answer that is handed back -/
def GiveOk (K : PySem.W.Frag) (cn : Nat → Addr) (O : Addr → Prop) (H : Hp) (σ : L2.St) (e : Fm) (H0 : Hp) (M : Addr → Prop) (v : V) (fr : Bool) (d : D) : Prop :=
  if fr = true then ∃ a, v = .ref a ∧ O a ∧ Cont K cn O H a d ∧ ¬ Mine e σ a ∧ (M a ∨ H0 a = none) else Den K cn O H v d
variable (K cn L)
def Cs (X : L2.St → XW) (O : Addr → Prop) (H : Hp) (M : Addr → Prop) (o : Out Fl) (D : Ends) : Prop := match o with
  | .ok f e' => ∀ σ' O' H', Rel K cn L O' e' σ' H' → Step O H O' H' M → (∀ a, Mine e' σ' a → M a ∨ H a = none) → (match f with
    | .next => D.nx σ' H'
    | .brk => D.bk σ' H'
    | .cnt => D.ct σ' H'
    | .ret fr d => ∀ v, GiveOk K cn O' H' σ' e' H M v fr d → D.rt v H')
  | .ex c fs e' => ∀ σ' O' H', Rel K cn L O' e' σ' H' → Step O H O' H' M → (∀ a, Mine e' σ' a → M a ∨ H a = none) → X σ' O' H' c fs
  | .bad => False
variable {K cn L}
/-- the same, seen from a later state -/
theorem Cs.shift {X : L2.St → XW} {o : Out Fl} {D : Ends} {M' : Addr → Prop} (h : Cs K cn L X O H M o D) (s : Step O H O' H' M) (m : ∀ a, M' a → M a ∨ H a = none) : Cs K cn L X O' H' M' o D := by
  have up : ∀ {a}, M' a ∨ H' a = none → M a ∨ H a = none := fun z => z.elim (m _) (s.back _)
  cases o with
  | ok f e2 =>
    intro σ2 O2 H2 R s2 m2
    have r := h σ2 O2 H2 R (s.trans s2 m) fun a z => up (m2 a z)
    cases f with
    | ret fr d =>
      intro v g
      refine r v ?_
      cases fr with
      | true =>
        obtain ⟨a, ea, oa, c, nm, n⟩ := g
        exact ⟨a, ea, oa, c, nm, up n⟩
      | false => exact g
    | _ => exact r
  | ex c fs e2 => exact fun σ2 O2 H2 R s2 m2 => h σ2 O2 H2 R (s.trans s2 m) fun a z => up (m2 a z)
  | bad => exact h
end
/-- a statement's reading -/
def tS (K : PySem.W.Frag) (C : Ct) (m : Fm → Out Fl) : TS := fun D σ H => ∃ O e, Rel K C.cn C.L O e σ H ∧ Cs K C.cn C.L (C.xw K) O H (Mine e σ) (m e) D
abbrev Ct.ts (K : PySem.W.Frag) (C : Ct) (s : S) : TS := tS K C (PV.ex C.wd C.run s)
abbrev Ct.tss (K : PySem.W.Frag) (C : Ct) (ss : Ss) : TS := tS K C (PV.exs C.wd C.run ss)
section
variable {K : PySem.W.Frag} {C : Ct} {α β : Type} {k : Kd α β} {O O1 : Addr → Prop} {H H1 : Hp} {e e1 : Fm} {σ : L2.St}
/-- an answer from a state, then the rest of a statement -/
theorem Cs.bind {m : Out α} {f : α → Fm → Out Fl} {D : Ends} (R : Rel K C.cn C.L O e σ H) (h : Cs K C.cn C.L (C.xw K) O H (Mine e σ) (m.bind f) D) :
    Cn K C.cn C.L k (C.xw K σ) O H (Mine e σ) σ m fun v H1 => ∃ r e1 O1, Mid K C k σ O e H v H1 r e1 O1 ∧ Cs K C.cn C.L (C.xw K) O H (Mine e σ) (f r e1) D := by
  cases w : m with
  | ok r e1 =>
    rw [w] at h
    exact fun v O1 H1 R1 a s m n => ⟨r, e1, O1, ⟨R, R1, s, m, a, n⟩, h⟩
  | ex c fs e1 =>
    rw [w] at h
    exact fun O' H' R s m => h σ O' H' R s fun a z => .inl (m a z)
  | bad => rw [w] at h; exact h
/-- an answer, then the rest of a statement -/
theorem tS.bind {m : Fm → Out α} {f : α → Fm → Out Fl} {m' : Fm → Out Fl} {D : Ends} (h : tS K C m' D σ H) (eq : ∀ e, m' e = (m e).bind f) :
    PV.tI K C k m σ H fun v H1 => ∃ O e r e1 O1, Mid K C k σ O e H v H1 r e1 O1 ∧ Cs K C.cn C.L (C.xw K) O H (Mine e σ) (f r e1) D := by
  obtain ⟨O, e, R, h⟩ := h
  refine ⟨O, e, R, ?_⟩
  rw [eq] at h
  cases w : m e with
  | ok r e1 =>
    rw [w] at h
    exact fun v O1 H1 R1 a s m n => ⟨O, e, r, e1, O1, ⟨R, R1, s, m, a, n⟩, h⟩
  | ex c fs e1 =>
    rw [w] at h
    exact fun O' H' R s m => h σ O' H' R s fun a z => .inl (m a z)
  | bad => rw [w] at h; exact h
theorem Mid.shS {β : Type} {k : Kd α β} {v : β} {r : α} {o : Out Fl} {D : Ends} (A : Mid K C k σ O e H v H1 r e1 O1) (c : Cs K C.cn C.L (C.xw K) O H (Mine e σ) o D) : Cs K C.cn C.L (C.xw K) O1 H1 (Mine e1 σ) o D := c.shift A.s fun a z => .inl (A.m a z)
/-- a kept answer, then the rest -/
theorem tS.fz {m : Fm → Out Rv} {f : D → Fm → Out Fl} {m' : Fm → Out Fl} {D : Ends} (h : tS K C m' D σ H) (eq : ∀ e, m' e = (m e).kept.bind f) :
    PV.tI K C (C.k K) m σ H fun v H1 => ∃ d e1 O1, Rel K C.cn C.L O1 e1 σ H1 ∧ Den K C.cn O1 H1 v d ∧ Cs K C.cn C.L (C.xw K) O1 H1 (Mine e1 σ) (f d e1) D := by
  refine (tS.bind (k := C.k K) (f := fun r e1 => (keptR r e1).bind f) h fun e => by rw [eq]; exact Out.bind_assoc _ _ _).imp fun v H1 ⟨O, e, r, e1, O1, A, c⟩ => ?_
  unfold keptR at c
  cases q : r.fz with
  | none => rw [q] at c; exact c.elim
  | some d =>
    rw [q] at c
    obtain ⟨O2, R2, s2, dn, _⟩ := fz_ok A.R A.s A.ok A.new q
    exact ⟨d, e1, O2, R2, dn, c.shift s2 fun a z => .inl (A.m a z)⟩
/-- a list of kept answers, then the rest -/
theorem tS.keep {m : Fm → Out (List Rv)} {f : List Rv → Fm → Out Fl} {m' : Fm → Out Fl} {D : Ends} (h : tS K C m' D σ H) (eq : ∀ e, m' e = (m e).bind f) :
    PV.tI K C (C.ks K) m σ H fun vs H1 => ∃ rs e1, (∃ O1, Rel K C.cn C.L O1 e1 σ H1 ∧ RsOk K C.cn O1 H1 σ e1 vs rs ∧ Cs K C.cn C.L (C.xw K) O1 H1 (Mine e1 σ) (f rs e1) D) ∧
      ∀ ds, PV.keep rs = some ds → ∃ O1, Rel K C.cn C.L O1 e1 σ H1 ∧ DenL K C.cn O1 H1 vs ds ∧ Cs K C.cn C.L (C.xw K) O1 H1 (Mine e1 σ) (f rs e1) D :=
  (tS.bind (k := C.ks K) h eq).imp fun vs H1 ⟨O, e, rs, e1, O1, A, c⟩ => ⟨rs, e1, ⟨O1, A.R, A.ok, A.shS c⟩, fun ds q => by
    obtain ⟨O2, R2, s2, dl, _⟩ := keep_ok A.R A.s A.ok A.new q
    exact ⟨O2, R2, dl, c.shift s2 fun a z => .inl (A.m a z)⟩⟩
/-- a test, then the rest -/
theorem tS.tst {a' : E} {f : Bool → Fm → Out Fl} {m' : Fm → Out Fl} {D : Ends} (h : tS K C m' D σ H) (eq : ∀ e, m' e = ((C.ev a' e).tst).bind f) : C.tt K a' σ H fun b H1 => tS K C (f b) D σ H1 := by
  refine (tS.bind (k := kB) (f := f) h eq).imp fun b H1 ⟨O, e, r, e1, O1, A, c⟩ => ?_
  cases (show b = r from A.ok)
  exact ⟨O1, e1, A.R, A.shS c⟩
end
section
variable {X : Cx} {C : Ct} {pos p p2 : Pos} {a b c : Expr} {a' b' c' : E} {es : List Expr} {es' : Es} {x : Str} {i j : Nat} {st : Stmt} {sts : List Stmt} {s' : S} {ss' us' : Ss}
theorem PS.imp {t t' : TS} (h : PS X st t) (i : ∀ D σ H, t' D σ H → t D σ H) : PS X st t' := ⟨fun pins s σ H D I q => h.run pins s σ H D I (i D σ H q)⟩
theorem PSs.imp {t t' : TS} (h : PSs X sts t) (i : ∀ D σ H, t' D σ H → t D σ H) : PSs X sts t' := ⟨fun pins s σ H D I q => h.run pins s σ H D I (i D σ H q)⟩
/-- at once -/
theorem Cs.now {K : PySem.W.Frag} {O : Addr → Prop} {H : Hp} {e : Fm} {σ : L2.St} {XX : L2.St → XW} {D : Ends} (R : Rel K C.cn C.L O e σ H) (c : Cs K C.cn C.L XX O H (Mine e σ) (.ok .next e) D) : D.nx σ H := c σ O H R .refl fun a z => .inl z
theorem n_nil : PSs X [] (C.tss X.K .nil) := PSs.imp pss_nil fun D σ H ⟨O, e, R, c⟩ => Cs.now R c
theorem n_cons (h1 : PS X st (C.ts X.K s')) (h2 : PSs X sts (C.tss X.K ss')) : PSs X (st :: sts) (C.tss X.K (.cons s' ss')) := by
  refine PSs.imp (pss_cons h1 h2) fun D σ H ⟨O, e, R, c⟩ => ⟨O, e, R, ?_⟩
  simp only [exs] at c
  cases w : PV.ex C.wd C.run s' e with
  | bad => rw [w] at c; exact c
  | ex k fs e1 => rw [w] at c; exact c
  | ok f e1 =>
    rw [w] at c
    cases f with
    | next =>
      intro σ1 O1 H1 R1 s1 m1
      exact ⟨O1, e1, R1, Cs.shift c s1 m1⟩
    | _ => exact c
theorem n_pas : PS X (.Pass pos) (C.ts X.K .pas) := PS.imp ps_pass fun D σ H ⟨O, e, R, c⟩ => Cs.now R c
theorem n_brk : PS X (.Break pos) (C.ts X.K .brk) := PS.imp ps_break fun D σ H ⟨O, e, R, c⟩ => c σ O H R .refl fun a z => .inl z
theorem n_cnt : PS X (.Continue pos) (C.ts X.K .cnt) := PS.imp ps_continue fun D σ H ⟨O, e, R, c⟩ => c σ O H R .refl fun a z => .inl z
theorem n_nev : PS X st (C.ts X.K .nev) := PS.imp ps_never fun D σ H ⟨O, e, R, c⟩ => c
theorem n_retN : PS X (.Return none pos) (C.ts X.K .retN) := PS.imp ps_retN fun D σ H ⟨O, e, R, c⟩ => c σ O H R .refl (fun a z => .inl z) .non (show Den _ _ _ _ _ _ from .non)
theorem n_ret (ha : PE X a (C.te X.K a')) : PS X (.Return (some a) pos) (C.ts X.K (.ret a')) := by
  refine PS.imp (ps_ret ha) fun D σ H h => ?_
  refine (tS.bind (k := C.k X.K) (m := C.ev a') (f := fun r e1 => match r with
    | .val d => .ok (.ret false d) e1
    | .fresh d => .ok (.ret true d) e1
    | _ => .bad) h fun _ => rfl).imp fun v H1 ⟨O, e, r, e1, O1, A, c⟩ => ?_
  cases r with
  | val d => exact c σ O1 H1 A.R A.s (fun a z => .inl (A.m a z)) v A.ok
  | fresh d =>
    obtain ⟨p, rfl, op, cp, nm⟩ := A.ok
    exact c σ O1 H1 A.R A.s (fun a z => .inl (A.m a z)) _ ⟨p, rfl, op, cp, nm, A.new rfl p rfl⟩
  | _ => exact c.elim
theorem n_exp (ha : PE X a (C.te X.K a')) (hs : swapsWith a none pos.line X.env = pure false) : PS X (.Expr a pos) (C.ts X.K (.exp a')) := by
  refine PS.imp (ps_expr ha hs) fun D σ H h => ?_
  exact (tS.bind (k := C.k X.K) (m := C.ev a') (f := fun _ e1 => .ok .next e1) h fun _ => rfl).imp fun v H1 ⟨O, e, r, e1, O1, A, c⟩ => c σ O1 H1 A.R A.s fun a z => .inl (A.m a z)
theorem n_ife (hc : PT X c (C.tt X.K c')) (ha : PSs X sts (C.tss X.K ss')) {sts2 : List Stmt} (hb : PSs X sts2 (C.tss X.K us')) : PS X (.If c sts sts2 pos) (C.ts X.K (.ife c' ss' us')) := by
  refine PS.imp (ps_if hc ha hb) fun D σ H h => ?_
  refine (tS.tst (a' := c') (f := fun t e1 => if t = true then PV.exs C.wd C.run ss' e1 else PV.exs C.wd C.run us' e1) h fun _ => rfl).imp fun b H1 q => ?_
  cases b with
  | true => exact q
  | false => exact q
/-- one slot is set -/
theorem asg_ok {K : PySem.W.Frag} {O O1 : Addr → Prop} {H H1 : Hp} {M : Addr → Prop} {e1 : Fm} {σ : L2.St} {i : Nat} {o : Bool} {r : Rv} {v : V} {XX : L2.St → XW} {D : Ends} {f : Fl → Fm → Out Fl} (R : Rel K C.cn C.L O1 e1 σ H1) (s : Step O H O1 H1 M) (m : ∀ a, Mine e1 σ a → M a ∨ H a = none) (k : RvOk K C.cn O1 H1 σ e1 v r)
    (n : RvNew H M v r) (c : Cs K C.cn C.L XX O H M ((asgR i o r e1).bind f) D) : ∃ O2 e2, Rel K C.cn C.L O2 e2 (σ.set i (some v)) H1 ∧ Step O H O2 H1 M ∧ (∀ a, Mine e2 (σ.set i (some v)) a → M a ∨ H a = none) ∧ Ext O1 H1 O2 H1 ∧ (∀ a, O1 a → (isNew r = true → v ≠ .ref a) → O2 a) ∧ (∀ a, Mine e2 (σ.set i (some v)) a → Mine e1 σ a ∨ (isNew r = true ∧ v = .ref a)) ∧ asgR i o r e1 = .ok .next e2 ∧ Cs K C.cn C.L XX O H M (f .next e2) D := by
  unfold asgR at c ⊢
  cases o with
  | false =>
    cases r with
    | val d => exact ⟨O1, _, R.setVal i k, s, fun a z => m a z.setVal, Ext.rfl', fun _ z _ => z, fun a z => .inl z.setVal, rfl, c⟩
    | fresh d =>
      obtain ⟨a, rfl, oa, ca, nm⟩ := k
      refine ⟨_, _, (R.freeze nm).setVal i ((ca.ext Ext.freeze fun _ q => q).den fun z => z.2 rfl), Step.freeze (n rfl a rfl) s, fun b z => m b z.setVal, Ext.freeze, fun b ob ne => ⟨ob, fun q => ne rfl (by rw [q])⟩, fun b z => .inl z.setVal, rfl, c⟩
    | _ => exact c.elim
  | true =>
    cases r with
    | fresh d =>
      obtain ⟨a, rfl, oa, ca, nm⟩ := k
      refine ⟨O1, _, R.setOwn i oa ca nm, s, fun b z => ?_, Ext.rfl', fun _ z _ => z, fun b z => z.setOwn.imp id fun q => ⟨rfl, by rw [q]⟩, rfl, c⟩
      rcases z.setOwn with z | z
      · exact m b z
      · rw [z]; exact n rfl a rfl
    | val d => exact ⟨O1, _, R.setVal i k, s, fun a z => m a z.setVal, Ext.rfl', fun _ z _ => z, fun a z => .inl z.setVal, rfl, c⟩
    | _ => exact c.elim
theorem n_asg {o : Bool} (hN : X.N.Nodup) (hi : X.N[i]? = some x) (hx : Loc X.env.scope x) (ha : PE X a (C.te X.K a')) (hs : swapsWith a (some (.Name x p)) pos.line X.env = pure false) (hf : X.fn x = true ∨ X.env.scope.names.lookup x = some .local) : PS X (.Assign [.Name x p] a pos) (C.ts X.K (.asg i o a')) := by
  refine PS.imp (ps_set hN hi hx ha hs hf) fun D σ H h => ?_
  refine (tS.bind (k := C.k X.K) (m := C.ev a') (f := asgR i o) h fun _ => rfl).imp fun v H1 ⟨O, e, r, e1, O1, A, c⟩ => ?_
  have c' : Cs X.K C.cn C.L (C.xw X.K) O H (Mine e σ) ((asgR i o r e1).bind fun f e2 => .ok f e2) D := by
    cases w : asgR i o r e1 <;> rw [w] at c <;> exact c
  obtain ⟨O2, e2, R2, s2, m2, _, _, _, _, c2⟩ := asg_ok A.R A.s (fun a z => .inl (A.m a z)) A.ok A.new c'
  exact c2 _ O2 H1 R2 s2 m2
end
end
end PV
/-! ## rules: stores into things, unpackings -/
namespace PV
open PySem L2 PyProof.Rows
noncomputable section
section
variable {K : PySem.W.Frag} {cn : Nat → Addr} {L : Nat → Addr} {O : Addr → Prop} {H : Hp} {e : Fm} {σ : L2.St} {v : V} {d : D}
theorem map_dK {k : Key} : ∀ {kvs : List (Key × V)} {ds : List (D × D)}, Den K cn O H v d → DenK K cn O H kvs ds → DenK K cn O H (kvs.map fun kv => if kv.1 = k then (kv.1, v) else kv) (ds.map fun p => if eqv p.1 (kD k) = true then (p.1, d) else p)
  | _, _, _, .nil => .nil
  | _, _, dn, .cons (k := j) h r => by
    simp only [List.map_cons, eqv_kD, decide_eq_true_eq]
    by_cases q : j = k
    · rw [if_pos q, if_pos q]; exact .cons dn (map_dK dn r)
    · rw [if_neg q, if_neg q]; exact .cons h (map_dK dn r)
theorem app_dK {k : Key} : ∀ {kvs : List (Key × V)} {ds : List (D × D)}, Den K cn O H v d → DenK K cn O H kvs ds → DenK K cn O H (kvs ++ [(k, v)]) (ds ++ [(kD k, d)])
  | _, _, dn, .nil => .cons dn .nil
  | _, _, dn, .cons h r => .cons h (app_dK dn r)
theorem put_dK {k : Key} {kvs : List (Key × V)} {ds : List (D × D)} (dn : Den K cn O H v d) (h : DenK K cn O H kvs ds) : DenK K cn O H (putK kvs k v) (dput ds (kD k) d) := by
  unfold putK dput
  rw [any_dK k h, ← valV_any k kvs]
  split
  · exact map_dK dn h
  · exact app_dK dn h
theorem map_dT {k : List Key} : ∀ {kvs : List (List Key × V)} {ds : List (D × D)}, Den K cn O H v d → DenT K cn O H kvs ds → DenT K cn O H (kvs.map fun kv => if kv.1 = k then (kv.1, v) else kv) (ds.map fun p => if eqv p.1 (.tup (k.map kD)) = true then (p.1, d) else p)
  | _, _, _, .nil => .nil
  | _, _, dn, .cons (k := j) h r => by
    have ee : eqv (.tup (j.map kD)) (.tup (k.map kD)) = decide (j = k) := by simp only [eqv, eqv_kDs]
    simp only [List.map_cons, ee, decide_eq_true_eq]
    by_cases q : j = k
    · rw [if_pos q, if_pos q]; exact .cons dn (map_dT dn r)
    · rw [if_neg q, if_neg q]; exact .cons h (map_dT dn r)
theorem app_dT {k : List Key} : ∀ {kvs : List (List Key × V)} {ds : List (D × D)}, Den K cn O H v d → DenT K cn O H kvs ds → DenT K cn O H (kvs ++ [(k, v)]) (ds ++ [(.tup (k.map kD), d)])
  | _, _, dn, .nil => .cons dn .nil
  | _, _, dn, .cons h r => .cons h (app_dT dn r)
theorem put_dT {k : List Key} {kvs : List (List Key × V)} {ds : List (D × D)} (dn : Den K cn O H v d) (h : DenT K cn O H kvs ds) : DenT K cn O H (putK kvs k v) (dput ds (.tup (k.map kD)) d) := by
  unfold putK dput
  rw [any_dT k h, ← valV_any k kvs]
  split
  · exact map_dT dn h
  · exact app_dT dn h
theorem DenL.set : ∀ {vs : List V} {ds : List D} (i : Nat), DenL K cn O H vs ds → Den K cn O H v d → DenL K cn O H (vs.set i v) (ds.set i d)
  | _, _, _, .nil, _ => .nil
  | _, _, 0, .cons _ r, dn => .cons dn r
  | _, _, i + 1, .cons h r, dn => .cons h (DenL.set i r dn)
theorem key_tup {y : V} {xs : List D} (hk : Den K cn O H y (.tup xs)) (ok : keyOk true (.tup xs) = true) : ∃ (b : Addr) (ks : List Key), y = .ref b ∧ xs = ks.map kD ∧ H b = some (.tup (ks.map kV)) := by
  unfold keyOk at ok
  rw [if_pos rfl] at ok
  simp only [Bool.and_eq_true] at ok
  obtain ⟨ks, rfl⟩ := atoms_key ok.2
  cases hk with
  | tup hb rb =>
    have eu := den_keys rb
    subst eu
    refine ⟨_, ks, rfl, rfl, ?_⟩
    rcases hb with ⟨_, z⟩ | ⟨z, _⟩
    · exact z
    · have : ks = [] := by simpa using z
      subst this
      simp at ok
theorem put_den {t : Bool} {kvs : List (D × D)} {k y : D} {p : Addr} {ky : V} (c : Cont K cn O H p (.dct t kvs)) (op : O p) (hk : Den K cn O H ky k) (hv : Den K cn O H v y) (hl : kvs.length < sizeLine) (ok : keyOk t k = true) :
    ∃ o, DPut H p ky v (upd H p o) ∧ Cont K cn O (upd H p o) p (.dct t (dput kvs k y)) := by
  cases c with
  | dK hp r =>
    unfold keyOk at ok
    rw [if_neg (by decide)] at ok
    obtain ⟨j, rfl⟩ := atom_key ok
    obtain rfl := den_key hk
    exact ⟨_, DPut.k hp (by rw [r.length]; exact hl), .dK upd_same ((put_dK hv r).ext (Ext.write op))⟩
  | dT hp r =>
    cases k with
    | tup xs =>
      obtain ⟨b, ks, rfl, rfl, hb⟩ := key_tup hk ok
      exact ⟨_, DPut.t hp hb (by rw [r.length]; exact hl), .dT upd_same ((put_dT hv r).ext (Ext.write op))⟩
    | _ => simp [keyOk] at ok
/-- o[i] = v, o a list or a dict -/
def rSto : TSet := fun o i v H Q => rSetL o i v H Q ∨ rSetD o i v H Q
theorem set_sto {X : Cx} (hu : X.A.units + 1 < cLine) : PSet X rSto := by
  intro pins s σ H o i v ov iv u Q I ro ri rv h
  rcases h with h | h
  · exact set_list pins s σ H o i v ov iv u Q I ro ri rv h
  · exact set_dict hu pins s σ H o i v ov iv u Q I ro ri rv h
theorem sto_ok {j : Nat} {l : Option Nat} {x k y z : D} {ky : V} {p : Addr} {Q : Hp → Prop} (R : Rel K cn L O e σ H) (he : e[j]? = some (.own l x)) (hs : σ[j]? = some (some (.ref p))) (hk : Den K cn O H ky k) (hv : Den K cn O H v y) (q : stoD x k y = some z)
    (h : ∀ H', Rel K cn L O (e.set j (.own l z)) σ H' → Step O H O H' (Mine e σ) → (∀ a, Mine (e.set j (.own l z)) σ a → Mine e σ a) → Q H') : rSto (.ref p) ky v H Q := by
  obtain ⟨b, hb, ob, c⟩ := R.own j l x he
  rw [hs] at hb
  cases hb
  unfold stoD at q
  split at q
  · rename_i xs i
    simp only [Option.map_eq_some_iff] at q
    obtain ⟨n, hn, rfl⟩ := q
    cases hk
    cases c with
    | lst hp r =>
      refine .inl ⟨p, _, i, n, rfl, rfl, hp, by rw [r.length]; exact hn, ?_⟩
      obtain ⟨R', s', m'⟩ := R.write he hs (o := .lst (List.set _ n v)) (d' := .lst (xs.set n y)) (.lst upd_same ((DenL.set n r hv).ext (Ext.write ob)))
      exact h _ R' s' m'
  · rename_i t kvs k'
    split at q
    · rename_i ok
      cases q
      obtain ⟨o, g, cc⟩ := put_den c ob hk hv ok.1 ok.2
      obtain ⟨R', s', m'⟩ := R.write he hs cc
      exact .inr ⟨p, _, rfl, g, h _ R' s' m'⟩
    · cases q
  · cases q
end
section
variable {X : Cx} {C : Ct} {pos p p2 : Pos} {a b c : Expr} {a' b' c' i' : E} {es : List Expr} {es' : Es} {x y : Str} {i j : Nat} {st : Stmt} {sts : List Stmt} {s' : S} {ss' us' : Ss}
/-- the slot j's thing, by its name -/
theorem nm_ref (hN : X.N[j]? = some x) (hv : Vis X.env.scope x) (hd : (x == ("__debug__" : Str)) = false) (hcd : (x == ("__classdict__" : Str)) = false) : PE X (.Name x p) (tVar j) := pe_var hN hv hd hcd
/-- a place of a thing is stored into -/
theorem c_sub {K : PySem.W.Frag} {O1 : Addr → Prop} {e1 : Fm} {σ : L2.St} {H1 : Hp} {v : V} {d : D} {f : Fl → Fm → Out Fl} {D : Ends} (R1 : Rel K C.cn C.L O1 e1 σ H1) (dn : Den K C.cn O1 H1 v d) (c : Cs K C.cn C.L (C.xw K) O1 H1 (Mine e1 σ) ((subR C.wd C.run j i' d e1).bind f) D) :
    gSub (tVar j) (C.te K i') rSto v σ H1 fun σ' H' => ∃ O' e', Rel K C.cn C.L O' e' σ' H' ∧ Cs K C.cn C.L (C.xw K) O' H' (Mine e' σ') (f .next e') D ∧ Ext O1 H1 O' H' := by
  unfold subR at c
  cases ho : ownAt j e1 with
  | false => rw [ho] at c; exact c.elim
  | true =>
    rw [ho, if_pos rfl] at c
    unfold ownAt at ho
    split at ho
    · rename_i l x hx
      obtain ⟨p, hp, op, _⟩ := R1.own j l x hx
      refine ⟨_, hp, ?_⟩
      refine ⟨O1, e1, R1, (Cs.bind (k := C.k K) (m := C.ev i' e1) (f := fun r e2 => ((keptR r e2).bind fun k e3 => stoR j k d e3).bind f) (D := D) R1 ?_).imp fun ky H2 ⟨r, e2, O2, A, c2⟩ => ?_⟩
      · simp only [Out.kept, Out.bind_assoc] at c ⊢; exact c
      · unfold keptR at c2
        cases q : r.fz with
        | none => rw [q] at c2; exact c2.elim
        | some k =>
          rw [q] at c2
          obtain ⟨O3, R3, s3, dk, x3⟩ := fz_ok A.R A.s A.ok A.new q
          have x2 : Ext O1 H1 O3 H2 := (A.s.ext fun a z => R1.mine z).trans x3
          simp only [Out.of_some, Out.bind_ok] at c2
          unfold stoR at c2
          split at c2
          · rename_i l2 x2' hx2
            split at c2
            · rename_i y hy
              have hs : σ[j]? = some (some (.ref p)) := hp
              refine sto_ok R3 hx2 hs dk (dn.ext x2) hy fun H3 R4 s4 m4 => ⟨O3, _, R4, ?_, x2.trans (s4.ext fun a z => R3.mine z)⟩
              exact Cs.shift c2 (s3.trans s4 fun a z => .inl (A.m a z)) fun a z => .inl (A.m a (m4 a z))
            · exact c2.elim
          · exact c2.elim
    · cases ho
theorem n_sto (hu : X.A.units + 1 < cLine) (hN : X.N[j]? = some x) (hv : Vis X.env.scope x) (hd : (x == ("__debug__" : Str)) = false) (hcd : (x == ("__classdict__" : Str)) = false) (ha : PE X a (C.te X.K a')) (hi : PE X b (C.te X.K i'))
    (hs : swapsWithSole [.Subscript (.Name x p) b p2] a pos.line X.env = pure false) (hw : swappedStores [.Subscript (.Name x p) b p2] a X.env = pure none) (hsl : ∀ v, assign (.Subscript (.Name x p) b p2) X.env v = (do
      let ov ← holding [v] (eval (.Name x p) X.env)
      let iv ← holding [v, ov] (eval b X.env)
      standAt p2
      holding [v, ov, iv] (setItem ov iv v)
      release [v, ov, iv] [])) : PS X (.Assign [.Subscript (.Name x p) b p2] a pos) (C.ts X.K (.sto j i' a')) := by
  refine PS.imp (ps_asg ha (pg_sub (nm_ref hN hv hd hcd) hi (set_sto hu) hsl) hs hw rfl) fun D σ H h => ?_
  refine (tS.fz (m := C.ev a') (f := subR C.wd C.run j i') h fun _ => rfl).imp fun v H1 ⟨d, e1, O1, R1, dn, c1⟩ => ?_
  have c1' : Cs X.K C.cn C.L (C.xw X.K) O1 H1 (Mine e1 σ) ((subR C.wd C.run j i' d e1).bind fun f e2 => .ok f e2) D := by
    cases w : subR C.wd C.run j i' d e1 <;> rw [w] at c1 <;> exact c1
  have g := c_sub R1 dn c1'
  obtain ⟨o, ho, g⟩ := g
  exact ⟨o, ho, PV.tI.imp g fun ky H2 z => by
    rcases z with ⟨p, xs, k, n, e1, e2, hp, hn, O', e', R', c', _⟩ | ⟨p, H', e1, g', O', e', R', c', _⟩
    · exact .inl ⟨p, xs, k, n, e1, e2, hp, hn, Cs.now R' c'⟩
    · exact .inr ⟨p, H', e1, g', Cs.now R' c'⟩⟩
end
end
end PV
/-! ## rules: several targets, fields -/
namespace PV
open PySem L2 PyProof.Rows
noncomputable section
section
variable {K : PySem.W.Frag} {C : Ct} {O O1 O2 : Addr → Prop} {H H1 : Hp} {M : Addr → Prop} {e1 e2 : Fm} {σ σ2 : L2.St} {v : V} {D : Ends}
def setAll (σ : L2.St) : List (Nat × Bool) → List V → L2.St
  | (i, _) :: ts, v :: vs => setAll (σ.set i (some v)) ts vs
  | _, _ => σ
theorem RvOk.move {u : V} {q : Rv} (h : RvOk K C.cn O1 H1 σ e1 u q) (fz : q.fz.isSome = true) (x : Ext O1 H1 O2 H1) {b : Bool} (keep : ∀ a, O1 a → (b = true → v ≠ .ref a) → O2 a) (mine : ∀ a, Mine e2 σ2 a → Mine e1 σ a ∨ (b = true ∧ v = .ref a)) (ne : isNew q = true → b = true → u ≠ v) : RvOk K C.cn O2 H1 σ2 e2 u q := by
  cases q with
  | val d => exact Den.ext x h
  | fresh d =>
    obtain ⟨a, rfl, oa, ca, nm⟩ := h
    exact ⟨a, rfl, keep a oa fun hb z => ne rfl hb z.symm, ca.ext x fun _ z => z, fun z => (mine a z).elim nm fun w => ne rfl w.1 w.2.symm⟩
  | _ => cases fz
theorem par_ok : ∀ {ts : List (Nat × Bool)} {rs : List Rv} {vs : List V} {O1 : Addr → Prop} {e1 : Fm} {σ : L2.St}, Rel K C.cn C.L O1 e1 σ H1 → Step O H O1 H1 M → (∀ a, Mine e1 σ a → M a ∨ H a = none) → RsOk K C.cn O1 H1 σ e1 vs rs → RsNew H M vs rs →
    (rs.all fun r => r.fz.isSome) = true → Cs K C.cn C.L (C.xw K) O H M (parR ts rs e1) D → ts.length = rs.length ∧ D.nx (setAll σ ts vs) H1
  | [], [], _, _, _, _, R, s, m, .nil, _, _, c => ⟨rfl, c _ _ _ R s m⟩
  | (i, o) :: ts, r :: rs, _, O1, e1, σ, R, s, m, .cons (v := v) (vs := vs) h ap t, n, fz, c => by
    rw [List.all_cons, Bool.and_eq_true] at fz
    obtain ⟨O2, e2, R2, s2, m2, x2, k2, mi, _, c2⟩ := asg_ok (f := fun _ e1 => parR ts rs e1) R s m h (n 0 v r rfl rfl) c
    have t2 : RsOk K C.cn O2 H1 (σ.set i (some v)) e2 vs rs := by
      refine RsOk.of t.length (fun j u q hu hq => ?_) fun i' j q p a h1 h2 n1 n2 h3 h4 => t.inj h1 h2 n1 n2 h3 h4
      obtain ⟨u', hu', k⟩ := t.get hq
      rw [hu] at hu'
      cases hu'
      refine k.move (v := v) (List.all_eq_true.mp fz.2 q (List.mem_of_getElem? hq)) x2 k2 mi fun nq nr e => ?_
      obtain ⟨b, hb, _⟩ := k.news nq
      subst e
      exact ap b nr hb j u hu q hq nq hb
    obtain ⟨l, q⟩ := par_ok (ts := ts) R2 s2 m2 t2 (fun j u w hu hw => n (j + 1) u w (by simpa using hu) (by simpa using hw)) fz.2 c2
    exact ⟨by simp [l], q⟩
  | [], _ :: _, _, _, _, _, _, _, _, _, _, _, c => c.elim
  | _ :: _, [], _, _, _, _, _, _, _, _, _, _, c => c.elim
end
section
variable {X : Cx} {C : Ct} {pos p p2 p3 pt pt2 : Pos} {a b c : Expr} {a' b' c' i' : E} {es : List Expr} {es' : Es} {x y z : Str} {i j l kt k2 : Nat} {o1 o2 o3 : Bool}
theorem n_par2 (hc : X.calm = true) (hN : X.N.Nodup) (hi : X.N[i]? = some x) (hj : X.N[j]? = some y) (hij : i ≠ j) (hx : X.env.scope.names.lookup x = some .local) (hy : X.env.scope.names.lookup y = some .local) (ha : PA X [a, b] (C.ta X.K es'))
    (hw : swappedStores [.Tuple [.Name x p, .Name y p2] kt pt] (.Tuple [a, b] k2 pt2) X.env = pure (some [x, y])) : PS X (.Assign [.Tuple [.Name x p, .Name y p2] kt pt] (.Tuple [a, b] k2 pt2) pos) (C.ts X.K (.par [(i, o1), (j, o2)] es')) := by
  refine PS.imp (ps_par hc hN hi hj hij hx hy ha hw) fun D σ H h => ?_
  refine (tS.bind (k := C.ks X.K) (m := evs C.wd C.run es') (f := fun rs e1 => if (rs.all fun r => r.fz.isSome) = true then parR [(i, o1), (j, o2)] rs e1 else .bad) h fun _ => rfl).imp fun vs H1 ⟨O, e, rs, e1, O1, A, c⟩ => ?_
  split at c
  · rename_i fz
    obtain ⟨l, q⟩ := par_ok A.R A.s (fun a z => .inl (A.m a z)) A.ok A.new fz c
    have lv := RsOk.length A.ok
    rw [← l] at lv
    match vs, lv, q with
    | [v, w], _, q => exact ⟨v, w, rfl, q⟩
  · exact c.elim
theorem n_par3 (hc : X.calm = true) (hN : X.N.Nodup) (hi : X.N[i]? = some x) (hj : X.N[j]? = some y) (hl : X.N[l]? = some z) (hij : i ≠ j) (hil : i ≠ l) (hjl : j ≠ l) (hx : X.env.scope.names.lookup x = some .local) (hy : X.env.scope.names.lookup y = some .local) (hz : X.env.scope.names.lookup z = some .local) (ha : PA X [a, b, c] (C.ta X.K es'))
    (hw : swappedStores [.Tuple [.Name x p, .Name y p2, .Name z p3] kt pt] (.Tuple [a, b, c] k2 pt2) X.env = pure (some [x, y, z])) : PS X (.Assign [.Tuple [.Name x p, .Name y p2, .Name z p3] kt pt] (.Tuple [a, b, c] k2 pt2) pos) (C.ts X.K (.par [(i, o1), (j, o2), (l, o3)] es')) := by
  refine PS.imp (ps_par3 hc hN hi hj hl hij hil hjl hx hy hz ha hw) fun D σ H h => ?_
  refine (tS.bind (k := C.ks X.K) (m := evs C.wd C.run es') (f := fun rs e1 => if (rs.all fun r => r.fz.isSome) = true then parR [(i, o1), (j, o2), (l, o3)] rs e1 else .bad) h fun _ => rfl).imp fun vs H1 ⟨O, e, rs, e1, O1, A, c⟩ => ?_
  split at c
  · rename_i fz
    obtain ⟨l, q⟩ := par_ok A.R A.s (fun a z => .inl (A.m a z)) A.ok A.new fz c
    have lv := RsOk.length A.ok
    rw [← l] at lv
    match vs, lv, q with
    | [u, v, w], _, q => exact ⟨u, v, w, rfl, q⟩
  · exact c.elim
/-! ### a tuple taken apart -/
def gU (K : PySem.W.Frag) (C : Ct) (ts : List Tu) : TGs := fun vs σ H Q => ∃ O e ds D, Rel K C.cn C.L O e σ H ∧ DenL K C.cn O H vs ds ∧ Cs K C.cn C.L (C.xw K) O H (Mine e σ) (unpL C.wd C.run ts ds e) D ∧ ∀ σ' H', D.nx σ' H' → Q σ' H'
theorem PGs.imp {t t' : TGs} (h : PGs X es t) (i : ∀ vs σ H Q, t' vs σ H Q → t vs σ H Q) : PGs X es t' := ⟨fun pins s σ H vs us Q I r q => h.run pins s σ H vs us Q I r (i vs σ H Q q)⟩
theorem u_nil : PGs X [] (gU X.K C []) := PGs.imp pgs_nil fun vs σ H Q ⟨O, e, ds, D, R, dl, c, q⟩ => by
  cases dl with
  | nil => exact ⟨rfl, q _ _ (Cs.now R c)⟩
  | cons _ _ => exact c.elim
variable {ts : List Expr} {ts' : List Tu}
theorem asg_cons {t : Expr} {ts : List Expr} {env : Env} (h : noStar t = true) : assignEach (t :: ts) env = (false, assign t env) :: assignEach ts env := by
  cases t <;> first | rfl | cases h
theorem asg_len {env : Env} : ∀ {ts : List Expr}, ts.all noStar = true → (assignEach ts env).length = ts.length ∧ (assignEach ts env).findIdx? (·.1) = none
  | [], _ => ⟨rfl, rfl⟩
  | t :: ts, h => by
    rw [List.all_cons, Bool.and_eq_true] at h
    obtain ⟨h1, h2⟩ := asg_len (env := env) h.2
    rw [asg_cons h.1]
    refine ⟨by simp [h1], ?_⟩
    rw [List.findIdx?_cons, h2]
    rfl
theorem u_nam (hN : X.N.Nodup) (hi : X.N[i]? = some x) (hx : Loc X.env.scope x) (hf : X.fn x = true ∨ X.env.scope.names.lookup x = some .local) (hr : PGs X ts (gU X.K C ts')) : PGs X (.Name x p :: ts) (gU X.K C (.nam i :: ts')) := by
  refine PGs.imp (pgs_cons (pg_name hN hi hx hf) hr rfl) fun vs σ H Q ⟨O, e, ds, D, R, dl, c, q⟩ => ?_
  cases dl with
  | nil => exact c.elim
  | cons h t => exact ⟨_, _, rfl, O, _, _, D, R.setVal i h, t, Cs.shift c .refl fun a z => .inl z.setVal, q⟩
theorem u_sub (hu : X.A.units + 1 < cLine) (hN : X.N[j]? = some x) (hv : Vis X.env.scope x) (hd : (x == ("__debug__" : Str)) = false) (hcd : (x == ("__classdict__" : Str)) = false) (hi : PE X b (C.te X.K i')) (hsl : ∀ v, assign (.Subscript (.Name x p) b p2) X.env v = (do
      let ov ← holding [v] (eval (.Name x p) X.env)
      let iv ← holding [v, ov] (eval b X.env)
      standAt p2
      holding [v, ov, iv] (setItem ov iv v)
      release [v, ov, iv] [])) (hr : PGs X ts (gU X.K C ts')) : PGs X (.Subscript (.Name x p) b p2 :: ts) (gU X.K C (.sub j i' :: ts')) := by
  refine PGs.imp (pgs_cons (pg_sub (nm_ref hN hv hd hcd) hi (set_sto hu) hsl) hr rfl) fun vs σ H Q ⟨O, e, ds, D, R, dl, c, q⟩ => ?_
  cases dl with
  | nil => exact c.elim
  | cons h t =>
    refine ⟨_, _, rfl, ?_⟩
    obtain ⟨o, ho, g⟩ := c_sub (f := fun _ e2 => unpL C.wd C.run ts' _ e2) R h c
    exact ⟨o, ho, PV.tI.imp g fun ky H2 z => by
      rcases z with ⟨p, xs, k, n, e1, e2, hp, hn, O', e', R', c', x'⟩ | ⟨p, H', e1, g', O', e', R', c', x'⟩
      · exact .inl ⟨p, xs, k, n, e1, e2, hp, hn, O', e', _, D, R', t.ext x', c', q⟩
      · exact .inr ⟨p, H', e1, g', O', e', _, D, R', t.ext x', c', q⟩⟩
theorem n_unp (hc : X.calm = true) (ha : PE X a (C.te X.K a')) (hg : PGs X ts (gU X.K C ts')) (hst : ts.all noStar = true) (hln : ts.length = ts'.length) (hs : swapsWithSole [.Tuple ts kt pt] a pos.line X.env = pure false) (hw : swappedStores [.Tuple ts kt pt] a X.env = pure none) :
    PS X (.Assign [.Tuple ts kt pt] a pos) (C.ts X.K (.unp ts' a')) := by
  obtain ⟨hl1, hl2⟩ := asg_len (env := X.env) hst
  refine PS.imp (ps_asg ha (pg_tup (n := ts.length) hc hg hl1 hl2) hs hw rfl) fun D σ H h => ?_
  refine (tS.bind (k := C.k X.K) (m := C.ev a') (f := fun r e1 => match r with
    | .val (.tup ds) => if ds.length = ts'.length then unpL C.wd C.run ts' ds e1 else .bad
    | _ => .bad) h fun _ => rfl).imp fun v H1 ⟨O, e, r, e1, O1, A, c⟩ => ?_
  split at c
  · rename_i ds
    split at c
    · rename_i hl
      have hd : Den X.K C.cn O1 H1 v (.tup ds) := A.ok
      cases hd with
      | tup ht dl => exact ⟨_, _, rfl, ht.sq, by rw [dl.length, hl, hln], O1, e1, ds, D, A.R, dl, A.shS c, fun _ _ z => z⟩
    · exact c.elim
  · exact c.elim
/-! ### a field is stored -/
theorem DenF.put {K : PySem.W.Frag} {cn : Nat → Addr} {O : Addr → Prop} {H : Hp} {f : Str} {v : V} {d : D} : ∀ {vs : List (Str × V)} {ds : List (Str × D)}, DenF K cn O H vs ds → Den K cn O H v d → DenF K cn O H (L2.putF f v vs) (PV.putF f d ds)
  | _, _, .nil, dn => .cons dn .nil
  | _, _, .cons (f := g) h r, dn => by
    simp only [L2.putF, PV.putF]
    split
    · exact .cons dn r
    · exact .cons h (DenF.put r dn)
theorem DenF.length {K : PySem.W.Frag} {cn : Nat → Addr} {O : Addr → Prop} {H : Hp} : ∀ {vs : List (Str × V)} {ds : List (Str × D)}, DenF K cn O H vs ds → vs.length = ds.length
  | _, _, .nil => rfl
  | _, _, .cons _ r => by simp [DenF.length r]
theorem n_att {f : Str} (fl : Flds X.K C.cn C.wd) (hN : X.N[j]? = some x) (hv : Vis X.env.scope x) (hd : (x == ("__debug__" : Str)) = false) (hcd : (x == ("__classdict__" : Str)) = false) (ha : PE X a (C.te X.K a')) (hs : swapsWith a (some (.Attribute (.Name x p) f p2)) pos.line X.env = pure false) :
    PS X (.Assign [.Attribute (.Name x p) f p2] a pos) (C.ts X.K (.att j f a')) := by
  refine PS.imp (ps_fld (nm_ref hN hv hd hcd) ha hs) fun D σ H h => ?_
  refine (tS.fz (m := C.ev a') (f := fun v e1 => match e1[j]? with
    | some (.own l (.obj c fs)) => if fs.length < 999 ∧ C.wd.fl c f = true then .ok .next (e1.set j (.own l (.obj c (putF f v fs)))) else .bad
    | _ => .bad) h fun _ => rfl).imp fun v H1 ⟨d, e1, O1, R1, dn, c1⟩ => ?_
  split at c1
  · rename_i l c fs he
    split at c1
    · rename_i ok
      obtain ⟨q, hq, oq, cq⟩ := R1.own j l _ he
      refine ⟨_, hq, ?_⟩
      cases cq with
      | obj hp df =>
        obtain ⟨R', s', m'⟩ := R1.write he hq (o := .ins (C.cn c) _ (L2.putF f v _)) (d' := .obj c (putF f d fs)) (.obj upd_same ((df.put dn).ext (Ext.write oq)))
        exact ⟨q, _, _, _, rfl, hp, fl.cl c f ok.2, fl.no c f ok.2, by rw [df.length]; omega, c1 σ O1 _ R' s' fun a z => .inl (m' a z)⟩
    · exact c1.elim
  · exact c1.elim
end
end
end PV
/-! ## enumerate over a tuple -/
namespace PV
open PySem L2 PyProof.Rows
theorem meets_enumT (l : Addr) (items : Array Value) :
    Meets (Builtin.«enumerate.__new__» ⟨[.type "enumerate", .ref l], []⟩) (fun _ R s => s.heap.IsTuple l items ∧
      R (.ok (.ret (.ref (s.heap.push { cls := .type "tuple_iterator", data := .fields #[.ref l, .int 0 0] }).objs.size)))
        { s with heap := (s.heap.push { cls := .type "tuple_iterator", data := .fields #[.ref l, .int 0 0] }).push { cls := .type "enumerate", data := .fields #[.none, .bool false, .ref s.heap.objs.size, rawInt 0, .none, .none] } }) :=
  .of_wp fun prog w A R s h => by
    obtain ⟨hp, g, d, tk, os⟩ := s
    obtain ⟨hl, h⟩ := h
    have hsub := sub_enumerate
    wp_walk using wpAny_pyIter_tuple hl
    refine wpAny_stack_any fun st => wpAny_pure ?_
    split
    · rename_i c _ _ _ _ _
      cases (c == Value.type "enumerate")
      · wp_walk using wpAny_pyIter_tuple hl
        exact ⟨_, rfl, h⟩
      · wp_walk using wpAny_pyIter_tuple hl
        exact ⟨_, rfl, h⟩
    · wp_walk using wpAny_pyIter_tuple hl
      exact ⟨_, rfl, h⟩
section
variable {prog : Program} {w : World} {A : Around} {E : Value → Shared → Prop} {s : Shared}
theorem call_enumT {l : Addr} {items : Array Value} {Q : Value → Shared → Prop} (hL : s.heap.IsTuple l items)
    (h : ∀ h', IsEnum h' (s.heap.objs.size + 1) s.heap.objs.size 0 .none → h'.IsTupleIter s.heap.objs.size l 0 → h'.objs.size = s.heap.objs.size + 2 →
      (∀ b o, s.heap.get? b = some o → h'.get? b = some o) → Q (.ref (s.heap.objs.size + 1)) { s with heap := h' }) :
    wpAny (model prog w) A (call (.type "enumerate") [.ref l]) Q E s := by
  refine callType_new F.called_enumerate (by decide) (F.typeCall_enumerate_1 _) (F.newCall_enumerate_1 _) (fun obj => F.args_object_init_2 obj _) F.entry_enumerate_new (meets_enumT l items) ⟨hL, ?_⟩
  have hz : (s.heap.push { cls := .type "tuple_iterator", data := .fields #[.ref l, .int 0 0] }).objs.size = s.heap.objs.size + 1 := Heap.size_push ..
  show _ ∧ _
  rw [hz]
  have he := Heap.get?_push_size (s.heap.push { cls := .type "tuple_iterator", data := .fields #[.ref l, .int 0 0] }) (o := { cls := .type "enumerate", data := .fields #[.none, .bool false, .ref s.heap.objs.size, rawInt 0, .none, .none] }) rfl
  rw [hz] at he
  exact ⟨⟨_, he, rfl⟩, h _ he ⟨_, Heap.get?_push_of_some _ (Heap.get?_push_size _ rfl), rfl, rfl⟩ (by rw [Heap.size_push, hz]) fun b o x => Heap.get?_push_of_some _ (Heap.get?_push_of_some _ x)⟩
end
/-- the tuple at a, each item in a new pair -/
def Itet (K : PySem.W.Frag) (a : Addr) : It :=
  ⟨fun i H => ∃ (xs : List V) (x : V), SqT K H a xs ∧ xs[i]? = some x, fun i H v H' => ∃ T x, v = .ref T ∧ H T = none ∧ H' = upd H T (.tup [.int (i : Nat), x]) ∧ ∀ xs, SqT K H a xs → xs[i]? = some x, fun i H => ∃ xs : List V, SqT K H a xs ∧ i = xs.length⟩
theorem turn_enumT {P : Program} {w : World} {K : PySem.W.Frag} {elts : List Expr} {kk : Nat} {tpos : Pos} (a e it : Addr) :
    Turn P w K (.Tuple elts kk tpos) (Itet K a) [e, it] e (fun i h => (∃ old, IsEnum h e it ((i : Nat) : Int) old) ∧ h.IsTupleIter it a i ∧ e ≠ it ∧ a ≠ e ∧ a ≠ it) where
  mem := by simp
  obj := fun i h st b hb => by
    obtain ⟨⟨old, he⟩, ⟨o, ho, hc, hd⟩, _⟩ := st
    rcases (show b = e ∨ b = it by simpa using hb) with z | z
    · rw [z]; exact ⟨_, he, fun v q => nomatch q⟩
    · rw [z]; exact ⟨o, ho, fun v q => by rw [hd] at q; cases q⟩
  keep := fun i h h' st k => let ⟨⟨old, he⟩, hi, hne⟩ := st; ⟨⟨old, k e (by simp) _ he⟩, hi.at fun o q => k it (by simp) o q, hne⟩
  item := by
    intro X hP hw hK hc i pins s σ H E I hf st hg
    subst hP hw hK
    obtain ⟨⟨old, he⟩, hit, hne, hae, hai⟩ := st
    obtain ⟨xs, x, hq, hx⟩ := hg
    obtain ⟨its, rv, p, hz⟩ := I.tuple hq
    obtain ⟨u, hu, ru⟩ := rv.get hx
    have hel : e < s.heap.objs.size := Heap.lt_size he
    have hil : it < s.heap.objs.size := by obtain ⟨_, q, _⟩ := hit; exact Heap.lt_size q
    have hlt : i < its.toArray.size := by have := (List.getElem?_eq_some_iff.mp hu).1; simpa using this
    refine wpAny_pyNext_enum_itemD (Draws.tuple (show X.A.in1.handled = none from I.ok.hd hc) it a hai its.toArray) he ⟨hit, p⟩ hlt hne (by simp [hne, Ne.symm hae]) fun y h' tk hy ho hst hT hsz hk => ?_
    have ey : y = u := by simpa [hu] using hy.symm
    subst ey
    refine ⟨_, rfl, wpAny_letOwnedTupleGo_enum (s := { s with heap := h', toks := tk + 1 }) ho fun h'' he' sb => ?_⟩
    have hT2 : h''.get? s.heap.objs.size = some { cls := .type "tuple", data := .seq #[.int i tk, y] } := (sb.2 _ (Nat.ne_of_gt hel)).trans hT
    have new : ObjOk X.prog X.w (upd H s.heap.objs.size (.tup [.int (i : Nat), x])) h'' s.heap.objs.size (.tup [.int (i : Nat), x]) :=
      ⟨by show 2 ≤ sizeLine; decide, [.int i tk, y], .cons ⟨_, rfl⟩ (.cons ru .nil), ⟨_, hT2, rfl, _, rfl⟩⟩
    have I1 : Inv X pins σ (upd H s.heap.objs.size (.tup [.int (i : Nat), x])) { s with heap := h'', toks := tk + 1 } :=
      I.turnedNew (ch := [e, it]) (fun b ob hb q => (sb.2 b (fun z => hb (by simp [z]))).trans (hk b ob (fun z => hb (by simp [z])) (fun z => hb (by simp [z])) q)) hf (Nat.le_refl _) new
    refine ⟨.ref s.heap.objs.size, _, I1, rfl, ⟨_, x, rfl, I.hok.fresh (Nat.le_refl _), rfl, fun ys hy => by rw [I.tuple_inj hy hq]; exact hx⟩, ⟨⟨y, ?_⟩, hst.1.at fun o q => (sb.2 it (Ne.symm hne)).trans q, hne, hae, hai⟩, fun b hb => ?_⟩
    · have e1 : ((i + 1 : Nat) : Int) = (i : Int) + 1 := by omega
      rw [e1]; exact he'
    · have hb' : b < s.heap.objs.size := by
        rcases (show b = e ∨ b = it by simpa using hb) with z | z
        · rw [z]; exact hel
        · rw [z]; exact hil
      rw [upd_ne (Nat.ne_of_lt hb')]
      exact (hf b hb).1
  done := by
    intro X hP hw hK hc i pins s σ H E I hf st hg
    subst hP hw hK
    obtain ⟨⟨old, he⟩, hit, hne, hae, hai⟩ := st
    obtain ⟨xs, hq, hx⟩ := hg
    obtain ⟨its, rv, p, hz⟩ := I.tuple hq
    obtain ⟨f0, f1, f2, f3, f4, f5⟩ := hf it (by simp)
    have hl : i = its.toArray.size := by rw [hx, rv.length, List.size_toArray]
    subst hl
    exact wpAny_pyNext_enum_endD (Draws.tuple (show X.A.in1.handled = none from I.ok.hd hc) it a hai its.toArray) he ⟨hit, p⟩ fun h' eb => ⟨rfl, I.turned (t' := s.toks) (fun b o hb q => eb b o hb q) f0 f1 f3 f4 f5⟩
  self := fun A i s Q E st h => let ⟨⟨_, he⟩, _⟩ := st; wpAny_pyIter_enum he h
theorem walk_enumT {K : PySem.W.Frag} {a : Addr} {xs : List V} : Walk (Itet K a) xs.length (fun H => SqT K H a xs) (YPair (fun i => some (.int (i : Nat))) (fun i => xs[i]?)) where
  goes := fun i H hi h => ⟨xs, xs[i], h, List.getElem?_eq_getElem hi⟩
  stops := fun H h => ⟨xs, h, rfl⟩
  yields := fun i H x H' hi h ⟨T, y, e, n, q, z⟩ => ⟨T, .int (i : Nat), y, e, n, q, rfl, z xs h⟩
/-- enumerate's walk, over a list or a tuple -/
def iEnum2 (K : PySem.W.Frag) (ta : TA) : TI := fun σ H R => ta σ H fun vs H1 => ∃ a xs, vs = [.ref a] ∧ ((SqL K H1 a xs ∧ R (Ite K a) H1) ∨ (SqT K H1 a xs ∧ R (Itet K a) H1))
theorem pi_enum2 {X : Cx} {e : Expr} {ta : TA} {p pos tpos : Pos} {elts : List Expr} {kk : Nat} (hg : Gl X "enumerate") (hm : X.mg "enumerate" = none) (ha : PA X [e] ta) (hs : starEach [e] X.env = [(false, eval e X.env)]) :
    PI X (.Tuple elts kk tpos) (.Call (.Name "enumerate" p) [e] [] pos) (iEnum2 X.K ta) := by
  refine ⟨fun pins s σ H R I h => ?_⟩
  refine Call_ (ld_blt I hg hm boot_enumerate (PyProof.Rows.callWith_type1 (thn (ha.run pos pins s σ H _ I h) fun us s1 ⟨vs, H1, I1, r1, q1⟩ => ?_) hs rfl))
  obtain ⟨a, xs, ex, hq⟩ := q1
  subst ex
  cases r1 with
  | cons r rr =>
    cases rr
    cases r
    have fin : ∀ {b : Addr}, (b = s1.heap.objs.size + 1 ∨ b = s1.heap.objs.size) → s1.heap.objs.size ≤ b := fun z => by
      rcases z with z | z
      · rw [z]; exact Nat.le_add_right _ _
      · rw [z]; exact Nat.le_refl _
    rcases hq with ⟨hq, q⟩ | ⟨hq, q⟩
    · obtain ⟨its, rv, p', hz⟩ := I1.list hq
      refine call_enumerate_list p'.isList fun h' he hit hsz hk => wpAny_pyIter_enum he ?_
      have I2 : Inv X pins σ H1 { s1 with heap := h' } := I1.kept (t' := s1.toks) hk
      refine ⟨s1.heap.objs.size + 1, [s1.heap.objs.size + 1, s1.heap.objs.size], _, _, H1, rfl, I2, turn_enum a (s1.heap.objs.size + 1) s1.heap.objs.size, ⟨⟨.none, he⟩, hit, Nat.succ_ne_self _⟩, fun b hb => ?_, q⟩
      have hle := fin (show b = _ ∨ b = _ by simpa using hb)
      exact I1.fpOk hle (I1.hok.fresh hle)
    · obtain ⟨its, rv, p', hz⟩ := I1.tuple hq
      have hlt : a < s1.heap.objs.size := by obtain ⟨o, ho, _⟩ := p'; exact Heap.lt_size ho
      refine call_enumT p' fun h' he hit hsz hk => wpAny_pyIter_enum he ?_
      have I2 : Inv X pins σ H1 { s1 with heap := h' } := I1.kept (t' := s1.toks) hk
      refine ⟨s1.heap.objs.size + 1, [s1.heap.objs.size + 1, s1.heap.objs.size], _, _, H1, rfl, I2, turn_enumT a (s1.heap.objs.size + 1) s1.heap.objs.size, ⟨⟨.none, he⟩, hit, Nat.succ_ne_self _, Nat.ne_of_lt (Nat.lt_succ_of_lt hlt), Nat.ne_of_lt hlt⟩, fun b hb => ?_, q⟩
      have hle := fin (show b = _ ∨ b = _ by simpa using hb)
      exact I1.fpOk hle (I1.hok.fresh hle)
/-- a dict is locked, if it is not -/
theorem locked {X : Cx} {pins : List (Addr × Obj)} {σ : L2.St} {H : Hp} {s : Shared} {a : Addr} {kvs : List (Key × V)} {R : Obj → Hp → Prop} (I : Inv X pins σ H s) (q : (∃ o, H a = some (.frz o (.dK kvs)) ∧ R o H) ∨ (H a = some (.dK kvs) ∧ ∀ o, R o (upd H a (.frz o (.dK kvs))))) :
    ∃ H2 o, Inv X pins σ H2 s ∧ H2 a = some (.frz o (.dK kvs)) ∧ R o H2 := by
  rcases q with ⟨o, h, q⟩ | ⟨h, q⟩
  · exact ⟨H, o, I, h, q⟩
  · obtain ⟨o, I2⟩ := I.lock h trivial
    exact ⟨_, o, I2, upd_same, q o⟩
/-- a walk over a list, a tuple, a text -/
def iAny (K : PySem.W.Frag) (te : TE) : TI := fun σ H R => te σ H fun x H1 => (∃ a xs, x = .ref a ∧ SqL K H1 a xs ∧ R (Itl K a) H1) ∨ (∃ a xs, x = .ref a ∧ SqT K H1 a xs ∧ R (Itt K a) H1) ∨ (∃ z, x = .str z ∧ R (Its z) H1) ∨ ∃ a kvs, x = .ref a ∧ ((∃ o, H1 a = some (.frz o (.dK kvs)) ∧ R (Itk a o kvs) H1) ∨ (H1 a = some (.dK kvs) ∧ ∀ o, R (Itk a o kvs) (upd H1 a (.frz o (.dK kvs)))))
theorem pi_any {X : Cx} {tg e : Expr} {te : TE} (he : PE X e te) : PI X tg e (iAny X.K te) := by
  refine ⟨fun pins s σ H R I h => ?_⟩
  refine thn (he.run pins s σ H _ I h) fun v s1 ⟨x, H1, I1, r1, q1⟩ => ?_
  have one : ∀ (b : Addr), b ∈ [s1.heap.objs.size] → FpOk X pins H1 b := fun b hb => by
    have e : b = s1.heap.objs.size := by simpa using hb
    subst e
    exact I1.fpOk (Nat.le_refl _) (I1.hok.fresh (Nat.le_refl _))
  rcases q1 with ⟨a, xs, e, hq, q⟩ | ⟨a, xs, e, hq, q⟩ | ⟨z, e, q⟩ | ⟨a, kvs, e, q⟩
  · subst e
    cases r1
    obtain ⟨its, rv, p, hz⟩ := I1.list hq
    refine wpAny_pyIter_list p.isList ⟨s1.heap.objs.size, [s1.heap.objs.size], _, _, H1, rfl, I1.kept (t' := s1.toks) fun b o e => Heap.get?_push_of_some _ e, turn_list a _, ⟨_, Heap.get?_push_size _ rfl, rfl, rfl⟩, one, q⟩
  · subst e
    cases r1
    obtain ⟨its, rv, p, hz⟩ := I1.tuple hq
    refine wpAny_pyIter_tuple (show s1.heap.IsTuple a its.toArray from p) ⟨s1.heap.objs.size, [s1.heap.objs.size], _, _, H1, rfl, I1.kept (t' := s1.toks) fun b o e => Heap.get?_push_of_some _ e, turn_tuple a _, ⟨_, Heap.get?_push_size _ rfl, rfl, rfl⟩, one, q⟩
  · subst e
    obtain ⟨t, rfl⟩ := r1
    cases ha : z.cps.all (· < 128)
    · exact wpAny_pyIter_wide ha (pi_one (tk := s1.toks) I1 _ (turn_str _ z t "str_iterator" (.inr rfl)) ⟨_, Heap.get?_push_size _ rfl, rfl, rfl⟩ q)
    · exact wpAny_pyIter_ascii ha (pi_one (tk := s1.toks) I1 _ (turn_str _ z t "str_ascii_iterator" (.inl rfl)) ⟨_, Heap.get?_push_size _ rfl, rfl, rfl⟩ q)
  · subst e
    cases r1
    obtain ⟨H2, o, I2, h2, q⟩ := locked I1 q
    obtain ⟨hs, hgd, hx, es, ep, vs, hdt, hsz, kv, hm⟩ := I2.frzK h2
    refine iter_keys hs hgd hx hdt (pi_one (tk := s1.toks) I2 _ (turn_keys _ hdt) ⟨_, Heap.get?_push_size _ rfl, rfl, ?_⟩ q)
    rw [hsz] <;> rfl
end PV
/-! ## rules: sources, loops -/
namespace PV
open PySem L2 PyProof.Rows
noncomputable section
section
variable {K : PySem.W.Frag} {cn : Nat → Addr} {L : Nat → Addr} {O O' O1 : Addr → Prop} {H H' H1 : Hp} {e e1 : Fm} {σ : L2.St}
/-- a walk that gives these, whatever goes on beside it -/
structure SrcOk (K : PySem.W.Frag) (cn : Nat → Addr) (J : It) (ds : List D) (O : Addr → Prop) (H : Hp) : Prop where
  go : ∀ (i : Nat) (O' : Addr → Prop) (H' : Hp), Ext O H O' H' → i < ds.length → J.go i H'
  stop : ∀ (O' : Addr → Prop) (H' : Hp), Ext O H O' H' → J.stop ds.length H'
  yld : ∀ (i : Nat) (O' : Addr → Prop) (H' : Hp) (x : V) (H2 : Hp), Ext O H O' H' → (∀ a, O' a → H' a ≠ none) → i < ds.length → J.yld i H' x H2 →
    ∃ d, ds[i]? = some d ∧ Den K cn O' H2 x d ∧ (H2 = H' ∨ ∃ T vs, H' T = none ∧ H2 = upd H' T (.tup vs))
theorem SrcOk.walk {J : It} {ds : List D} (s : SrcOk K cn J ds O H) : Walk J ds.length (fun H' => ∃ O', Ext O H O' H' ∧ ∀ a, O' a → H' a ≠ none) (fun i H' x H2 => ∀ O', Ext O H O' H' → (∀ a, O' a → H' a ≠ none) → ∃ d, ds[i]? = some d ∧ Den K cn O' H2 x d ∧ (H2 = H' ∨ ∃ T vs, H' T = none ∧ H2 = upd H' T (.tup vs))) where
  goes := fun i H' hi ⟨O', x, _⟩ => s.go i O' H' x hi
  stops := fun H' ⟨O', x, _⟩ => s.stop O' H' x
  yields := fun i H' x H2 hi _ y O' ex dm => s.yld i O' H' x H2 ex dm hi y
/-- the walked dict is locked, if it was not -/
inductive Lk (O : Addr → Prop) (H : Hp) : Hp → Prop where
  | no : Lk O H H
  | yes {a : Addr} {o : Obj} {kvs : List (Key × V)} : ¬ O a → H a = some (.dK kvs) → Lk O H (upd H a (.frz o (.dK kvs)))
theorem Lk.step {M : Addr → Prop} (l : Lk O H H') : Step O H O H' M := by
  cases l with
  | no => exact .refl
  | yes n h =>
    rename_i a o kvs
    refine ⟨fun b u hu _ => ?_, fun _ _ _ _ => Iff.rfl⟩
    by_cases e : b = a
    · subst e
      rw [h] at hu
      cases hu
      exact ⟨_, upd_same, .inr ⟨kvs, o, rfl, rfl⟩, fun z => absurd z n⟩
    · exact ⟨u, by rw [upd_ne e]; exact hu, .rfl', fun _ => rfl⟩
theorem Lk.ext (l : Lk O H H') : Ext O H O H' := ⟨fun a o h n => let ⟨o', h', s, _⟩ := l.step (M := fun _ => False).keep a o h id; ⟨o', h', s⟩, fun _ _ _ n => n⟩
theorem Lk.rel (l : Lk O H H') (R : Rel K cn L O e σ H) : Rel K cn L O e σ H' := by
  have x := l.ext
  refine ⟨R.len, fun b z => ?_, fun i d h => ?_, fun i l' d h => ?_, R.lent, R.inj⟩
  · cases q : H b with
    | none => exact absurd q (R.dom b z)
    | some u => rw [(l.step (M := fun _ => False)).hold z q id]; exact fun w => nomatch w
  · obtain ⟨v, hv, dn⟩ := R.val i d h
    exact ⟨v, hv, dn.ext x⟩
  · obtain ⟨a, ha, oa, c⟩ := R.own i l' d h
    exact ⟨a, ha, oa, c.ext x fun u q => (l.step (M := fun _ => False)).hold oa q id⟩
/-- where the walk starts -/
def srcJ (K : PySem.W.Frag) (sk : SrcK) (vs : List V) (H : Hp) (R : It → Hp → Prop) : Prop := match sk with
  | .plain => ∃ x, vs = [x] ∧ ((∃ a xs, x = .ref a ∧ SqL K H a xs ∧ R (Itl K a) H) ∨ (∃ a xs, x = .ref a ∧ SqT K H a xs ∧ R (Itt K a) H) ∨ (∃ z, x = .str z ∧ R (Its z) H) ∨ ∃ a kvs, x = .ref a ∧ ((∃ o, H a = some (.frz o (.dK kvs)) ∧ R (Itk a o kvs) H) ∨ (H a = some (.dK kvs) ∧ ∀ o, R (Itk a o kvs) (upd H a (.frz o (.dK kvs))))))
  | .range1 => ∃ j, vs = [.int j] ∧ -(2 ^ 62) ≤ j ∧ j < 2 ^ 62 ∧ R (Itr 0 j.toNat) H
  | .range2 => ∃ i j, vs = [.int i, .int j] ∧ (-(2 ^ 62) ≤ i ∧ i < 2 ^ 62 ∧ -(2 ^ 62) ≤ j ∧ j < 2 ^ 62) ∧ R (Itr i (j - i).toNat) H
  | .enum => ∃ a xs, vs = [.ref a] ∧ ((SqL K H a xs ∧ R (Ite K a) H) ∨ (SqT K H a xs ∧ R (Itet K a) H))
  | .items => ∃ a kvs, vs = [.ref a] ∧ ((∃ o, H a = some (.frz o (.dK kvs)) ∧ R (Iti a o kvs) H) ∨ (H a = some (.dK kvs) ∧ ∀ o, R (Iti a o kvs) (upd H a (.frz o (.dK kvs)))))
  | _ => False
theorem Den.seq {v : V} {d : D} {ds : List D} (h : Den K cn O H v d) (q : seqD d = some ds) (ns : ∀ z, d ≠ .str z) (nd : ∀ t kvs, d ≠ .dct t kvs) :
    ∃ a xs, v = .ref a ∧ DenL K cn O H xs ds ∧ ((∀ O' H', Ext O H O' H' → SqL K H' a xs) ∨ ∀ O' H', Ext O H O' H' → SqT K H' a xs) := by
  cases h with
  | tup ht dl => cases q; exact ⟨_, _, rfl, dl, .inr fun O' H' x => (TupAt.sq (O := O') (ht.imp (fun h => ⟨x.own _ _ h.2 h.1, x.at h.2 h.1 rfl⟩) id))⟩
  | lst n ht dl => cases q; exact ⟨_, _, rfl, dl, .inl fun O' H' x => SqL.of (x.at ht n rfl)⟩
  | fro ht dl => cases q; exact ⟨_, _, rfl, dl, .inl fun O' H' x => (FroAt.sq (O := O') (ht.imp (fun h => Rd.ext x h.1 h.2 rfl) id))⟩
  | str z => exact absurd rfl (ns z)
  | dK _ _ _ => exact absurd rfl (nd _ _)
  | _ => cases q
theorem src_list {a : Addr} {xs : List V} {ds : List D} (dl : DenL K cn O H xs ds) (h : ∀ O' H', Ext O H O' H' → SqL K H' a xs) : SrcOk K cn (Itl K a) ds O H where
  go := fun i O' H' x hi => walk_list.goes i H' (by rw [dl.length]; exact hi) (h O' H' x)
  stop := fun O' H' x => by rw [← dl.length]; exact walk_list.stops H' (h O' H' x)
  yld := fun i O' H' y H2 x dm hi w => by
    obtain ⟨rfl, z⟩ := walk_list.yields i H' y H2 (by rw [dl.length]; exact hi) (h O' H' x) w
    obtain ⟨v, hv, dv⟩ := dl.get (List.getElem?_eq_getElem hi)
    rw [z] at hv
    cases hv
    exact ⟨_, List.getElem?_eq_getElem hi, dv.ext x, .inl rfl⟩
theorem src_tup {a : Addr} {xs : List V} {ds : List D} (dl : DenL K cn O H xs ds) (h : ∀ O' H', Ext O H O' H' → SqT K H' a xs) : SrcOk K cn (Itt K a) ds O H where
  go := fun i O' H' x hi => walk_tup.goes i H' (by rw [dl.length]; exact hi) (h O' H' x)
  stop := fun O' H' x => by rw [← dl.length]; exact walk_tup.stops H' (h O' H' x)
  yld := fun i O' H' y H2 x dm hi w => by
    obtain ⟨rfl, z⟩ := walk_tup.yields i H' y H2 (by rw [dl.length]; exact hi) (h O' H' x) w
    obtain ⟨v, hv, dv⟩ := dl.get (List.getElem?_eq_getElem hi)
    rw [z] at hv
    cases hv
    exact ⟨_, List.getElem?_eq_getElem hi, dv.ext x, .inl rfl⟩
theorem src_str {z : Str} : SrcOk K cn (Its z) (z.cps.toList.map fun c => .str ⟨#[c]⟩) O H := by
  have hl : (z.cps.toList.map fun c => D.str ⟨#[c]⟩).length = z.cps.size := by simp
  refine ⟨fun i O' H' x hi => walk_str.goes i H' (by rw [hl] at hi; exact hi) trivial, fun O' H' x => by rw [hl]; exact walk_str.stops H' trivial, fun i O' H' y H2 x dm hi w => ?_⟩
  obtain ⟨rfl, c, hc, rfl⟩ := walk_str.yields i H' y H2 (by rw [hl] at hi; exact hi) trivial w
  refine ⟨.str ⟨#[c]⟩, ?_, .str _, .inl rfl⟩
  rw [List.getElem?_map, Array.getElem?_toList, hc]
  rfl
theorem src_rng {lo : Int} {n : Nat} {f : Nat → Int} (hf : ∀ i : Nat, f i = lo + i) : SrcOk K cn (Itr lo n) ((List.range n).map fun i => .int (f i)) O H := by
  have hl : ((List.range n).map fun i => D.int (f i)).length = n := by simp
  refine ⟨fun i O' H' x hi => walk_range.goes i H' (by rw [hl] at hi; exact hi) trivial, fun O' H' x => by rw [hl]; exact walk_range.stops H' trivial, fun i O' H' y H2 x dm hi w => ?_⟩
  obtain ⟨rfl, rfl⟩ := walk_range.yields i H' y H2 (by rw [hl] at hi; exact hi) trivial w
  refine ⟨.int (lo + i), ?_, .int _, .inl rfl⟩
  rw [List.getElem?_map, List.getElem?_range (by rw [hl] at hi; exact hi), ← hf]
  rfl
theorem pair_den {T : Addr} {i : Nat} {x : V} {d : D} (n : H T = none) (dm : ∀ a, O a → H a ≠ none) (dx : Den K cn O H x d) : Den K cn O (upd H T (.tup [.int (i : Nat), x])) (.ref T) (.tup [.int (i : Nat), d]) :=
  .tup (.inl ⟨fun z => dm T z n, upd_same⟩) ((DenL.cons (.int _) (.cons dx .nil)).ext (Ext.newVal n))
theorem src_enumL {a : Addr} {xs : List V} {ds : List D} (dl : DenL K cn O H xs ds) (h : ∀ O' H', Ext O H O' H' → SqL K H' a xs) : SrcOk K cn (Ite K a) (ds.mapIdx fun i x => .tup [.int i, x]) O H := by
  have hl : (ds.mapIdx fun i x => D.tup [.int (i : Nat), x]).length = xs.length := by simp [dl.length]
  refine ⟨fun i O' H' x hi => walk_enum.goes i H' (by rw [hl] at hi; exact hi) (h O' H' x), fun O' H' x => by rw [hl]; exact walk_enum.stops H' (h O' H' x), fun i O' H' y H2 x dm hi w => ?_⟩
  obtain ⟨T, p, q, rfl, n, rfl, hp, hq⟩ := walk_enum.yields i H' y H2 (by rw [hl] at hi; exact hi) (h O' H' x) w
  cases hp
  have hi' : i < ds.length := by rw [hl, dl.length] at hi; exact hi
  obtain ⟨v, hv, dv⟩ := dl.get (List.getElem?_eq_getElem hi')
  replace hq : xs[i]? = some q := hq
  rw [hq] at hv
  cases hv
  exact ⟨.tup [.int (i : Nat), ds[i]], by rw [List.getElem?_mapIdx, List.getElem?_eq_getElem hi']; rfl, pair_den n dm (dv.ext x), .inr ⟨T, _, n, rfl⟩⟩
theorem src_enumT {a : Addr} {xs : List V} {ds : List D} (dl : DenL K cn O H xs ds) (h : ∀ O' H', Ext O H O' H' → SqT K H' a xs) : SrcOk K cn (Itet K a) (ds.mapIdx fun i x => .tup [.int i, x]) O H := by
  have hl : (ds.mapIdx fun i x => D.tup [.int (i : Nat), x]).length = xs.length := by simp [dl.length]
  refine ⟨fun i O' H' x hi => walk_enumT.goes i H' (by rw [hl] at hi; exact hi) (h O' H' x), fun O' H' x => by rw [hl]; exact walk_enumT.stops H' (h O' H' x), fun i O' H' y H2 x dm hi w => ?_⟩
  obtain ⟨T, p, q, rfl, n, rfl, hp, hq⟩ := walk_enumT.yields i H' y H2 (by rw [hl] at hi; exact hi) (h O' H' x) w
  cases hp
  have hi' : i < ds.length := by rw [hl, dl.length] at hi; exact hi
  obtain ⟨v, hv, dv⟩ := dl.get (List.getElem?_eq_getElem hi')
  replace hq : xs[i]? = some q := hq
  rw [hq] at hv
  cases hv
  exact ⟨.tup [.int (i : Nat), ds[i]], by rw [List.getElem?_mapIdx, List.getElem?_eq_getElem hi']; rfl, pair_den n dm (dv.ext x), .inr ⟨T, _, n, rfl⟩⟩
theorem DenK.at {kvs : List (Key × V)} {ds : List (D × D)} : DenK K cn O H kvs ds → ∀ {i : Nat} {k : Key} {v : V}, kvs[i]? = some (k, v) → ∃ d, ds[i]? = some (kD k, d) ∧ Den K cn O H v d
  | .nil, i, k, v, h => by simp at h
  | .cons hd t, 0, k, v, h => by
    simp only [List.getElem?_cons_zero, Option.some.injEq, Prod.mk.injEq] at h
    obtain ⟨rfl, rfl⟩ := h
    exact ⟨_, rfl, hd⟩
  | .cons hd t, i + 1, k, v, h => by
    simp only [List.getElem?_cons_succ] at h
    obtain ⟨d, h1, h2⟩ := DenK.at t h
    exact ⟨d, by simpa using h1, h2⟩
theorem src_keys {a : Addr} {o : Obj} {kvs : List (Key × V)} {ds : List (D × D)} (dk : DenK K cn O H kvs ds) (n : ¬ O a) (h : H a = some (.frz o (.dK kvs))) : SrcOk K cn (Itk a o kvs) (ds.map (·.1)) O H := by
  have hl : (ds.map (·.1)).length = kvs.length := by simp [dk.length]
  refine ⟨fun i O' H' x hi => walk_keys.goes i H' (by rw [hl] at hi; exact hi) (x.at h n rfl), fun O' H' x => by rw [hl]; exact walk_keys.stops H' (x.at h n rfl), fun i O' H' y H2 x dm hi w => ?_⟩
  obtain ⟨rfl, k, v, hk, rfl⟩ := walk_keys.yields i H' y H2 (by rw [hl] at hi; exact hi) (x.at h n rfl) w
  obtain ⟨d, hd, _⟩ := dk.at hk
  exact ⟨kD k, by rw [List.getElem?_map, hd]; rfl, key_den k, .inl rfl⟩
theorem src_items {a : Addr} {o : Obj} {kvs : List (Key × V)} {ds : List (D × D)} (dk : DenK K cn O H kvs ds) (n : ¬ O a) (h : H a = some (.frz o (.dK kvs))) : SrcOk K cn (Iti a o kvs) (ds.map fun p => .tup [p.1, p.2]) O H := by
  have hl : (ds.map fun p => D.tup [p.1, p.2]).length = kvs.length := by simp [dk.length]
  refine ⟨fun i O' H' x hi => walk_items.goes i H' (by rw [hl] at hi; exact hi) (x.at h n rfl), fun O' H' x => by rw [hl]; exact walk_items.stops H' (x.at h n rfl), fun i O' H' y H2 x dm hi w => ?_⟩
  obtain ⟨T, p, q, rfl, nT, rfl, hp, hq⟩ := walk_items.yields i H' y H2 (by rw [hl] at hi; exact hi) (x.at h n rfl) w
  dsimp only at hp hq
  cases hk : kvs[i]? with
  | none => rw [hk] at hp; cases hp
  | some kv =>
    obtain ⟨k, v⟩ := kv
    rw [hk] at hp hq
    cases hp
    cases hq
    obtain ⟨d, hd, dv⟩ := dk.at hk
    refine ⟨.tup [kD k, d], by rw [List.getElem?_map, hd]; rfl, ?_, .inr ⟨T, _, nT, rfl⟩⟩
    exact .tup (.inl ⟨fun z => dm T z nT, upd_same⟩) ((DenL.cons (key_den k) (.cons (dv.ext x) .nil)).ext (Ext.newVal nT))
/-- from what is walked to the walk -/
theorem src_ok {sk : SrcK} {vs : List V} {ds0 ds : List D} {R : It → Hp → Prop} (dl : DenL K cn O H vs ds0) (q : srcD sk ds0 = some ds) (h : ∀ J H', Lk O H H' → SrcOk K cn J ds O H' → R J H') : srcJ K sk vs H R := by
  unfold srcD at q
  split at q
  · rename_i d
    cases dl with
    | cons h1 t =>
      cases t
      refine ⟨_, rfl, ?_⟩
      by_cases hz : ∃ z, d = .str z
      · obtain ⟨z, rfl⟩ := hz
        cases q
        cases h1
        exact .inr (.inr (.inl ⟨z, rfl, h _ _ .no src_str⟩))
      · by_cases hd : ∃ t kvs, d = .dct t kvs
        · obtain ⟨t, kvs, rfl⟩ := hd
          cases t with
          | true => cases q
          | false =>
            cases q
            cases h1 with
            | dK n ha dk =>
              rename_i a kvs'
              refine .inr (.inr (.inr ⟨a, kvs', rfl, ?_⟩))
              rcases ha with ha | ⟨o, ha⟩
              · exact .inr ⟨ha, fun o => h _ _ (.yes n ha) (src_keys (dk.ext (Lk.ext (.yes n ha))) n upd_same)⟩
              · exact .inl ⟨o, ha, h _ _ .no (src_keys dk n ha)⟩
        obtain ⟨a, xs, rfl, dl, w⟩ := h1.seq q (fun z e => hz ⟨z, e⟩) fun t kvs e => hd ⟨t, kvs, e⟩
        rcases w with w | w
        · exact .inl ⟨a, xs, rfl, w O H Ext.rfl', h _ _ .no (src_list dl w)⟩
        · exact .inr (.inl ⟨a, xs, rfl, w O H Ext.rfl', h _ _ .no (src_tup dl w)⟩)
  · rename_i n
    split at q
    · rename_i hb
      cases q
      cases dl with
      | cons h1 t =>
        cases h1
        cases t
        exact ⟨n, rfl, hb.1, hb.2, h _ _ .no (src_rng fun i => by omega)⟩
    · cases q
  · rename_i a b
    split at q
    · rename_i hb
      cases q
      cases dl with
      | cons h1 t =>
        cases h1
        cases t with
        | cons h2 t =>
          cases h2
          cases t
          exact ⟨a, b, rfl, hb, h _ _ .no (src_rng fun i => rfl)⟩
    · cases q
  · rename_i d
    cases dl with
    | cons h1 t =>
      cases t
      split at q
      · rename_i xs
        cases q
        obtain ⟨a, ys, rfl, dl, w⟩ := h1.seq (ds := xs) rfl (fun z e => nomatch e) fun t kvs e => nomatch e
        rcases w with w | w
        · exact ⟨a, ys, rfl, .inl ⟨w O H Ext.rfl', h _ _ .no (src_enumL dl w)⟩⟩
        · exact ⟨a, ys, rfl, .inr ⟨w O H Ext.rfl', h _ _ .no (src_enumT dl w)⟩⟩
      · rename_i xs
        cases q
        obtain ⟨a, ys, rfl, dl, w⟩ := h1.seq (ds := xs) rfl (fun z e => nomatch e) fun t kvs e => nomatch e
        rcases w with w | w
        · exact ⟨a, ys, rfl, .inl ⟨w O H Ext.rfl', h _ _ .no (src_enumL dl w)⟩⟩
        · exact ⟨a, ys, rfl, .inr ⟨w O H Ext.rfl', h _ _ .no (src_enumT dl w)⟩⟩
      · cases q
  · rename_i kvs
    cases q
    cases dl with
    | cons h1 t =>
      cases t
      cases h1 with
      | dK n ha dk =>
        rename_i a kvs'
        refine ⟨a, kvs', rfl, ?_⟩
        rcases ha with ha | ⟨o, ha⟩
        · exact .inr ⟨ha, fun o => h _ _ (.yes n ha) (src_items (dk.ext (Lk.ext (.yes n ha))) n upd_same)⟩
        · exact .inl ⟨o, ha, h _ _ .no (src_items dk n ha)⟩
  · cases q
end
/-- targets -/
def gNs : List Nat → TGs
  | [] => gNil
  | i :: is => gCons (gName i) (gNs is)
def gT (K : PySem.W.Frag) : Tg → TG
  | .one i => gName i
  | .many is => gTup K is.length (gNs is)
section
variable {K : PySem.W.Frag} {C : Ct} {O : Addr → Prop} {H : Hp} {e e' : Fm} {σ : L2.St} {x : V} {d : D} {Q : L2.St → Hp → Prop}
theorem gNs_ok2 : ∀ {is : List Nat} {vs : List V} {ds : List D} {e : Fm} {σ : L2.St}, Rel K C.cn C.L O e σ H → DenL K C.cn O H vs ds → ds.length = is.length →
    (∀ σ', Rel K C.cn C.L O ((is.zip ds).foldl (fun e p => e.set p.1 (.val p.2)) e) σ' H → (∀ a, Mine ((is.zip ds).foldl (fun e p => e.set p.1 (.val p.2)) e) σ' a → Mine e σ a) → (σ'.length = σ.length ∧ ∀ i, i ∉ is → σ'[i]? = σ[i]?) → Q σ' H) → gNs is vs σ H Q
  | [], _, _, e, σ, R, .nil, _, h => ⟨rfl, h σ R (fun a z => z) ⟨rfl, fun _ _ => rfl⟩⟩
  | i :: is, _, _, e, σ, R, .cons hd t, l, h => ⟨_, _, rfl, gNs_ok2 (is := is) (R.setVal i hd) t (by simpa using l) fun σ' R' m' s' => h σ' R' (fun a z => (m' a z).setVal) ⟨by rw [s'.1]; simp, fun j hj => by
      have h1 : j ≠ i := fun z => hj (by rw [z]; exact List.mem_cons_self)
      have h2 : j ∉ is := fun z => hj (List.mem_cons_of_mem _ z)
      rw [s'.2 j h2, List.getElem?_set_ne (Ne.symm h1)]⟩⟩
  | [], _, _, e, σ, R, .cons _ _, l, _ => by simp at l
  | _ :: _, _, _, e, σ, R, .nil, l, _ => by simp at l
theorem gT_ok2 {tg : Tg} (R : Rel K C.cn C.L O e σ H) (dx : Den K C.cn O H x d) (b : bindT tg d e = some e') (h : ∀ σ', Rel K C.cn C.L O e' σ' H → (∀ a, Mine e' σ' a → Mine e σ a) → (σ'.length = σ.length ∧ ∀ i, i ∉ tg.slots → σ'[i]? = σ[i]?) → Q σ' H) : gT K tg x σ H Q := by
  cases tg with
  | one i =>
    cases b
    exact h _ (R.setVal i dx) (fun a z => z.setVal) ⟨by simp, fun j hj => by rw [List.getElem?_set_ne (fun z => hj (by simp [Tg.slots, z]))]⟩
  | many is =>
    simp only [bindT] at b
    split at b
    · rename_i xs
      split at b
      · rename_i hl
        cases b
        cases dx with
        | tup ht dl => exact ⟨_, _, rfl, ht.sq, by rw [dl.length, hl], gNs_ok2 R dl hl h⟩
      · cases b
    · cases b
theorem gT_ok {tg : Tg} (R : Rel K C.cn C.L O e σ H) (dx : Den K C.cn O H x d) (b : bindT tg d e = some e') (h : ∀ σ', Rel K C.cn C.L O e' σ' H → (∀ a, Mine e' σ' a → Mine e σ a) → Q σ' H) : gT K tg x σ H Q := gT_ok2 R dx b fun σ' R' m' _ => h σ' R' m'
/-- what a turn is to reach -/
def turnD (P : L2.St → Hp → Prop) (D : Ends) : Ends := { D with nx := P, ct := P, bk := D.nx }
/-- what is still to be walked -/
def Left (K : PySem.W.Frag) (C : Ct) (O1 : Addr → Prop) (H1 : Hp) (tg : Tg) (body : Fm → Out Fl) (DD : Ends) (ds : List D) (σ' : L2.St) (H' : Hp) : Prop := ∃ O' e', Rel K C.cn C.L O' e' σ' H' ∧ Ext O1 H1 O' H' ∧ Cs K C.cn C.L (C.xw K) O' H' (Mine e' σ') (forL tg body ds e') DD
/-- one turn of a for -/
theorem for_turn {tg : Tg} {body : Fm → Out Fl} {ds : List D} {O1 : Addr → Prop} {H1 : Hp} {D : Ends} (R : Rel K C.cn C.L O e σ H) (x1 : Ext O1 H1 O H) (c : Cs K C.cn C.L (C.xw K) O H (Mine e σ) (forL tg body (d :: ds) e) D) :
    ∃ e1, bindT tg d e = some e1 ∧ Cs K C.cn C.L (C.xw K) O H (Mine e σ) (body e1) (turnD (Left K C O1 H1 tg body D ds) D) := by
  simp only [forL] at c
  cases hb : bindT tg d e with
  | none => rw [hb] at c; exact c.elim
  | some e1 =>
    rw [hb] at c
    dsimp only at c
    refine ⟨e1, rfl, ?_⟩
    cases w : body e1 with
    | bad => rw [w] at c; exact c
    | ex k fs e2 => rw [w] at c; exact c
    | ok f e2 =>
      rw [w] at c
      cases f with
      | next => exact fun σ2 O2 H2 R2 s2 m2 => ⟨O2, e2, R2, x1.trans (s2.ext fun a z => R.mine z), Cs.shift c s2 m2⟩
      | cnt => exact fun σ2 O2 H2 R2 s2 m2 => ⟨O2, e2, R2, x1.trans (s2.ext fun a z => R.mine z), Cs.shift c s2 m2⟩
      | brk => exact fun σ2 O2 H2 R2 s2 m2 => c σ2 O2 H2 R2 s2 m2
      | ret fr d => exact c
end
section
variable {X : Cx} {C : Ct} {pos p p2 : Pos} {a b c : Expr} {a' b' c' : E} {es : List Expr} {es' : Es} {x y : Str} {tg iter : Expr} {sts : List Stmt} {ss' : Ss} {tg' : Tg} {sk : SrcK}
/-- a walk's start by a source -/
def iS (K : PySem.W.Frag) (C : Ct) (sk : SrcK) (src : Es) : TI := fun σ H R => C.ta K src σ H fun vs H1 => srcJ K sk vs H1 R
theorem PI.imp {t t' : TI} (h : PI X tg iter t) (i : ∀ σ H Q, t' σ H Q → t σ H Q) : PI X tg iter t' := ⟨fun pins s σ H R I q => h.run pins s σ H R I (i σ H R q)⟩
theorem one_ta {K : PySem.W.Frag} {σ : L2.St} {H : Hp} {Q : List V → Hp → Prop} (h : C.ta K (.cons a' .nil) σ H Q) : C.te K a' σ H fun x H1 => Q [x] H1 := by
  refine PV.tI.imp (c_cons h) fun x H1 ⟨O, e, R, q⟩ => ?_
  exact q [] O H1 R .nil .refl (fun _ z => z) fun j u q a => by simp at a
theorem i_plain (ha : PE X a (C.te X.K a')) : PI X tg a (iS X.K C .plain (.cons a' .nil)) := PI.imp (pi_any ha) fun σ H R h => PV.tI.imp (one_ta h) fun x H1 ⟨y, e, z⟩ => by cases e; exact z
theorem i_rng1 (hg : Gl X "range") (hm : X.mg "range" = none) (ha : PA X [a] (C.ta X.K es')) (hs : noStar a = true) : PI X tg (.Call (.Name "range" p) [a] [] pos) (iS X.K C .range1 es') := PI.imp (pi_range1 hg hm ha (star_cons hs)) fun σ H R h => h
theorem i_rng2 (hg : Gl X "range") (hm : X.mg "range" = none) (ha : PA X [a, b] (C.ta X.K es')) (hs : noStar a = true) (hs2 : noStar b = true) : PI X tg (.Call (.Name "range" p) [a, b] [] pos) (iS X.K C .range2 es') :=
  PI.imp (pi_range2 hg hm ha (by rw [star_cons hs, star_cons hs2]; rfl) (star_cons hs2)) fun σ H R h => h
theorem i_enum {elts : List Expr} {kk : Nat} {tpos : Pos} (hg : Gl X "enumerate") (hm : X.mg "enumerate" = none) (ha : PA X [a] (C.ta X.K es')) (hs : noStar a = true) : PI X (.Tuple elts kk tpos) (.Call (.Name "enumerate" p) [a] [] pos) (iS X.K C .enum es') := PI.imp (pi_enum2 hg hm ha (star_cons hs)) fun σ H R h => h
theorem i_items {elts : List Expr} {kk : Nat} {tpos apos : Pos} (ha : PE X a (C.te X.K a')) (hb : noCall a = true) (hline : (apos.endLine == pos.line) = true) : PI X (.Tuple elts kk tpos) (.Call (.Attribute a "items" apos) [] [] pos) (iS X.K C .items (.cons a' .nil)) := by
  have he : PE X a (fun σ H Q => C.te X.K a' σ H fun x H1 => ∃ d kvs, x = .ref d ∧ ((∃ o, H1 d = some (.frz o (.dK kvs)) ∧ Q x H1) ∨ (H1 d = some (.dK kvs) ∧ ∀ o, Q x (upd H1 d (.frz o (.dK kvs)))))) := by
    refine ⟨fun pins s σ H Q I h => ?_⟩
    refine thn (ha.run pins s σ H _ I h) fun u s1 ⟨x, H1, I1, rx, d, kvs, ex, q⟩ => ?_
    obtain ⟨H2, o, I2, _, q⟩ := locked (R := fun _ H2 => Q x H2) I1 q
    exact ⟨x, H2, I2, rx, q⟩
  refine PI.imp (pi_items he (attr_base hb) hline) fun σ H R h => ?_
  refine PV.tI.imp (one_ta h) fun x H1 ⟨d, kvs, e, q⟩ => ?_
  cases e
  refine ⟨d, kvs, rfl, ?_⟩
  rcases q with ⟨o, hd, q⟩ | ⟨hd, q⟩
  · exact .inl ⟨o, hd, d, o, kvs, rfl, hd, q⟩
  · exact .inr ⟨hd, fun o => ⟨d, o, kvs, rfl, upd_same, q o⟩⟩
theorem n_for (hp : PassesOwn (model X.prog X.w) X.A X.env X.xe) (hc : X.calm = true) (hi : PI X tg iter (iS X.K C sk es')) (hg : PG X tg (gT X.K tg')) (hb : PSs X sts (C.tss X.K ss')) (hs : ∀ x, foldedSetIterable iter X.env x = pure x) :
    PS X (.For tg iter sts [] pos) (C.ts X.K (.for tg' sk es' ss')) := by
  refine PS.imp (ps_for hp hc hi hg hb hs) fun D σ H h => ?_
  refine (tS.keep (m := evs C.wd C.run es') (f := fun rs e1 => match (keep rs).bind (srcD sk) with
    | some ds => forL tg' (PV.exs C.wd C.run ss') ds e1
    | none => .bad) h fun _ => rfl).imp fun vs H1 ⟨rs, e1, ⟨O1, R1, k1, c1⟩, kp⟩ => ?_
  cases q : keep rs with
  | none => rw [q] at c1; exact c1.elim
  | some ds0 =>
    obtain ⟨O2, R2, dl, c2⟩ := kp ds0 q
    rw [q] at c2
    replace c2 : Cs X.K C.cn C.L (C.xw X.K) O2 H1 (Mine e1 σ) (match srcD sk ds0 with
      | some ds => forL tg' (PV.exs C.wd C.run ss') ds e1
      | none => .bad) D := c2
    cases q2 : srcD sk ds0 with
    | none => rw [q2] at c2; exact c2.elim
    | some ds =>
      rw [q2] at c2
      refine src_ok dl q2 fun J H1 lk sj => ?_
      replace R2 := lk.rel R2
      replace c2 := Cs.shift c2 (lk.step (M := Mine e1 σ)) fun a z => .inl z
      refine for_it sj.walk (fun i => Left X.K C O2 H1 tg' (PV.exs C.wd C.run ss') D (ds.drop i))
        ⟨O2, e1, R2, Ext.rfl', c2⟩ (fun i σ' H' _ ⟨O', e', R', x', _⟩ => ⟨O', x', R'.dom⟩) (fun i x σ' H' H'' hi ⟨O', e', R', x', c'⟩ y => ?_) fun σ' H' ⟨O', e', R', x', c'⟩ => ?_
      · obtain ⟨d, hd, dx, hw⟩ := y O' x' R'.dom
        have hdr : ds.drop i = d :: ds.drop (i + 1) := by
          rw [List.drop_eq_getElem_cons hi]
          congr 1
          rw [List.getElem?_eq_getElem hi] at hd
          cases hd
          rfl
        rw [hdr] at c'
        have key : ∀ H3, Rel X.K C.cn C.L O' e' σ' H3 → Ext O2 H1 O' H3 → Den X.K C.cn O' H3 x d → Cs X.K C.cn C.L (C.xw X.K) O' H3 (Mine e' σ') (forL tg' (PV.exs C.wd C.run ss') (d :: ds.drop (i + 1)) e') D →
            gT X.K tg' x σ' H3 fun σ2 H2 => C.tss X.K ss' (turnD (Left X.K C O2 H1 tg' (PV.exs C.wd C.run ss') D (ds.drop (i + 1))) D) σ2 H2 := fun H3 R3 x3 d3 c3 => by
          obtain ⟨e2, hb2, c4⟩ := for_turn R3 x3 c3
          exact gT_ok R3 d3 hb2 fun σ2 R4 m4 => ⟨O', e2, R4, Cs.shift c4 .refl fun a z => .inl (m4 a z)⟩
        rcases hw with rfl | ⟨T, vs, n, rfl⟩
        · exact key _ R' x' dx c'
        · exact key _ (R'.newVal n) (x'.trans (Ext.newVal n)) dx (Cs.shift c' (.newVal n) fun a z => .inl z)
      · rw [List.drop_length] at c'
        exact Cs.now R' c'
theorem n_whl (hp : PassesOwn (model X.prog X.w) X.A X.env X.xe) (hc : PT X c (C.tt X.K c')) (hb : PSs X sts (C.tss X.K ss')) : PS X (.While c sts [] pos) (C.ts X.K (.whl c' ss')) := by
  refine PS.imp (ps_while hp hc hb) fun D σ H ⟨O, e, R, c0⟩ => ?_
  refine ⟨fun m σ' H' => ∃ O' e', Rel X.K C.cn C.L O' e' σ' H' ∧ Cs X.K C.cn C.L (C.xw X.K) O' H' (Mine e' σ') (whlL (fun e => (C.ev c' e).tst) (PV.exs C.wd C.run ss') m e') D, ⟨most, O, e, R, c0⟩, fun m σ' H' ⟨O', e', R', c1⟩ => ?_⟩
  cases m with
  | zero => exact c1.elim
  | succ m =>
    refine ⟨O', e', R', ?_⟩
    have c2 : Cs X.K C.cn C.L (C.xw X.K) O' H' (Mine e' σ') (((C.ev c' e').tst).bind fun t e1 => if t = true then (match PV.exs C.wd C.run ss' e1 with
      | .ok .next e2 => whlL (fun e => (C.ev c' e).tst) (PV.exs C.wd C.run ss') m e2
      | .ok .cnt e2 => whlL (fun e => (C.ev c' e).tst) (PV.exs C.wd C.run ss') m e2
      | .ok .brk e2 => .ok .next e2
      | .ok (.ret fr d) e2 => .ok (.ret fr d) e2
      | .ex c fs e2 => .ex c fs e2
      | .bad => .bad) else .ok .next e1) D := by
      simp only [whlL] at c1
      cases w : (C.ev c' e').tst with
      | ok t e1 => rw [w] at c1; cases t <;> exact c1
      | ex k fs e1 => rw [w] at c1; exact c1
      | bad => rw [w] at c1; exact c1
    refine (Cs.bind (k := kB) R' c2).imp fun b H1 ⟨r, e1, O1, A, c3⟩ => ?_
    cases (show b = r from A.ok)
    cases b with
    | false =>
      rw [if_neg (by decide)] at c3 ⊢
      exact c3 σ' O1 H1 A.R A.s fun a z => .inl (A.m a z)
    | true =>
      rw [if_pos rfl] at c3 ⊢
      refine ⟨fun σ2 H2 => ∃ O' e', Rel X.K C.cn C.L O' e' σ2 H2 ∧ Cs X.K C.cn C.L (C.xw X.K) O' H2 (Mine e' σ2) (whlL (fun e => (C.ev c' e).tst) (PV.exs C.wd C.run ss') m e') D, fun σ2 H2 z => ⟨m, Nat.lt_succ_self m, z⟩, O1, e1, A.R, ?_⟩
      have c4 := A.shS c3
      cases w : PV.exs C.wd C.run ss' e1 with
      | bad => rw [w] at c4; exact c4
      | ex k fs e2 => rw [w] at c4; exact c4
      | ok f e2 =>
        rw [w] at c4
        cases f with
        | next => exact fun σ2 O2 H2 R2 s2 m2 => ⟨O2, e2, R2, Cs.shift c4 s2 m2⟩
        | cnt => exact fun σ2 O2 H2 R2 s2 m2 => ⟨O2, e2, R2, Cs.shift c4 s2 m2⟩
        | brk => exact fun σ2 O2 H2 R2 s2 m2 => c4 σ2 O2 H2 R2 s2 m2
        | ret fr d => exact c4
end
end
end PV
/-! ## rules: comprehensions -/
namespace PV
open PySem L2 PyProof.Rows
noncomputable section
section
variable {K : PySem.W.Frag} {cn : Nat → Addr} {L : Nat → Addr} {O O' O1 : Addr → Prop} {H H' H1 : Hp} {M : Addr → Prop} {e e1 : Fm} {σ σ2 : L2.St}
theorem wipeE_len : ∀ (own : List Nat), (wipeE e own).length = e.length
  | [] => rfl
  | i :: is => by simp [wipeE, wipeE_len is]
theorem wipeE_out {i : Nat} : ∀ {own : List Nat}, i ∉ own → (wipeE e own)[i]? = e[i]?
  | [], _ => rfl
  | j :: js, h => by
    simp only [wipeE]
    rw [List.getElem?_set_ne fun z => h (by rw [z]; exact List.mem_cons_self), wipeE_out fun z => h (List.mem_cons_of_mem _ z)]
theorem wipeE_in {i : Nat} {s : Sl} : ∀ {own : List Nat}, i ∈ own → (wipeE e own)[i]? = some s → s = .dead
  | [], h, _ => by simp at h
  | j :: js, h, q => by
    simp only [wipeE] at q
    rcases get_set q with ⟨_, z⟩ | ⟨n, z⟩
    · exact z
    · exact wipeE_in ((List.mem_cons.mp h).resolve_left n) z
theorem wipeE_some {i : Nat} {s : Sl} {own : List Nat} (h : (wipeE e own)[i]? = some s) (n : s ≠ .dead) : i ∉ own ∧ e[i]? = some s := by
  by_cases q : i ∈ own
  · exact absurd (wipeE_in q h) n
  · exact ⟨q, by rw [← wipeE_out q]; exact h⟩
theorem wipe_eq (hl : σ2.length = σ.length) : ∀ {vs : List Nat}, (∀ i, i ∉ vs → σ2[i]? = σ[i]?) → wipe σ2 vs = wipe σ vs := fun {vs} h => by
  have inn : ∀ {τ : L2.St} {vs : List Nat} {i : Nat}, i ∈ vs → i < τ.length → (wipe τ vs)[i]? = some none := fun {τ vs i} => by
    induction vs with
    | nil => intro q; simp at q
    | cons v vs ih =>
      intro q lt
      simp only [wipe]
      by_cases e : i = v
      · subst e
        rw [List.getElem?_set_self (by rw [wipe_length]; exact lt)]
      · rw [List.getElem?_set_ne (Ne.symm e)]
        exact ih ((List.mem_cons.mp q).resolve_left e) lt
  apply List.ext_getElem?
  intro i
  by_cases q : i ∈ vs
  · by_cases lt : i < σ.length
    · rw [inn q (by rw [hl]; exact lt), inn q lt]
    · rw [List.getElem?_eq_none (by rw [wipe_length, hl]; omega), List.getElem?_eq_none (by rw [wipe_length]; omega)]
  · rw [wipe_out q, wipe_out q]
    exact h i q
theorem Rel.wipe (R : Rel K cn L O e σ H) (own : List Nat) : Rel K cn L O (wipeE e own) (L2.wipe σ own) H := by
  refine ⟨by rw [wipeE_len, wipe_length]; exact R.len, R.dom, fun i d q => ?_, fun i l d q => ?_, fun i j d q => ?_, fun i j l l' d d' a q q' w w' => ?_⟩
  · obtain ⟨n, q⟩ := wipeE_some q fun z => nomatch z
    obtain ⟨v, hv, dn⟩ := R.val i d q
    exact ⟨v, by rw [wipe_out n]; exact hv, dn⟩
  · obtain ⟨n, q⟩ := wipeE_some q fun z => nomatch z
    rw [wipe_out n]
    exact R.own i l d q
  · obtain ⟨n, q⟩ := wipeE_some q fun z => nomatch z
    rw [wipe_out n]
    exact R.lent i j d q
  · obtain ⟨n, q⟩ := wipeE_some q fun z => nomatch z
    obtain ⟨n', q'⟩ := wipeE_some q' fun z => nomatch z
    rw [wipe_out n] at w
    rw [wipe_out n'] at w'
    exact R.inj i j l l' d d' a q q' w w'
theorem Mine.wipe {own : List Nat} {a : Addr} (h : Mine (wipeE e own) (L2.wipe σ own) a) : Mine e σ a := by
  obtain ⟨i, l, d, q, w⟩ := h
  obtain ⟨n, q⟩ := wipeE_some q fun z => nomatch z
  rw [wipe_out n] at w
  exact ⟨i, l, d, q, w⟩
theorem rest_len : ∀ (own : List Nat), (restore e1 e own).length = e.length
  | [] => rfl
  | i :: is => by
    simp only [restore]
    split
    · rw [List.length_set, rest_len is]
    · exact rest_len is
theorem rest_out {i : Nat} : ∀ {own : List Nat}, i ∉ own → (restore e1 e own)[i]? = e[i]?
  | [], _ => rfl
  | j :: js, h => by
    have h1 : i ∉ js := fun z => h (List.mem_cons_of_mem _ z)
    simp only [restore]
    split
    · rw [List.getElem?_set_ne fun z => h (by rw [z]; exact List.mem_cons_self), rest_out h1]
    · exact rest_out h1
theorem rest_in (hl : e1.length = e.length) {i : Nat} : ∀ {own : List Nat}, i ∈ own → (restore e1 e own)[i]? = e1[i]?
  | [], h => by simp at h
  | j :: js, h => by
    by_cases q : i = j
    · subst q
      simp only [restore]
      split
      · rename_i s hs
        have lt : i < e1.length := (List.getElem?_eq_some_iff.mp hs).1
        rw [List.getElem?_set_self (by rw [rest_len, ← hl]; exact lt), hs]
      · rename_i hs
        rw [hs, List.getElem?_eq_none_iff, rest_len, ← hl]
        exact List.getElem?_eq_none_iff.mp hs
    · have ih := rest_in hl ((List.mem_cons.mp h).resolve_left q)
      simp only [restore]
      split
      · rw [List.getElem?_set_ne (Ne.symm q), ih]
      · exact ih
theorem noOwn_at {own : List Nat} (h : noOwn e own = true) {i : Nat} (hi : i ∈ own) (l : Option Nat) (d : D) : e[i]? ≠ some (.own l d) := fun q => by
  have := List.all_eq_true.mp h i hi
  rw [q] at this
  cases this
/-- the block's names have gone, the hidden ones stand again -/
theorem Rel.back {own : List Nat} (R1 : Rel K cn L O1 e1 σ H1) (R : Rel K cn L O (wipeE e own) (L2.wipe σ own) H) (x : Ext O1 H1 O H) (no : noOwn e1 own = true) : Rel K cn L O (restore e1 e own) σ H ∧ ∀ a, Mine (restore e1 e own) σ a → Mine (wipeE e own) (L2.wipe σ own) a := by
  have hl : e1.length = e.length := by
    have := R.len
    rw [wipeE_len, wipe_length] at this
    rw [R1.len, this]
  have ou : ∀ {i : Nat} {l : Option Nat} {d : D}, (restore e1 e own)[i]? = some (.own l d) → i ∉ own ∧ (wipeE e own)[i]? = some (.own l d) := fun {i l d} q => by
    by_cases n : i ∈ own
    · rw [rest_in hl n] at q; exact absurd q (noOwn_at no n l d)
    · rw [rest_out n] at q; exact ⟨n, by rw [wipeE_out n]; exact q⟩
  refine ⟨⟨by rw [rest_len, ← hl]; exact R1.len, R.dom, fun i d q => ?_, fun i l d q => ?_, fun i j d q => ?_, fun i j l l' d d' a q q' w w' => ?_⟩, fun a ⟨i, l, d, q, w⟩ => ?_⟩
  · by_cases n : i ∈ own
    · rw [rest_in hl n] at q
      obtain ⟨v, hv, dn⟩ := R1.val i d q
      exact ⟨v, hv, dn.ext x⟩
    · rw [rest_out n] at q
      obtain ⟨v, hv, dn⟩ := R.val i d (by rw [wipeE_out n]; exact q)
      rw [wipe_out n] at hv
      exact ⟨v, hv, dn⟩
  · obtain ⟨n, q⟩ := ou q
    have := R.own i l d q
    rw [wipe_out n] at this
    exact this
  · obtain ⟨n, q⟩ := ou q
    have := R.lent i j d q
    rw [wipe_out n] at this
    exact this
  · obtain ⟨n, q⟩ := ou q
    obtain ⟨n', q'⟩ := ou q'
    exact R.inj i j l l' d d' a q q' (by rw [wipe_out n]; exact w) (by rw [wipe_out n']; exact w')
  · obtain ⟨n, q⟩ := ou q
    exact ⟨i, l, d, q, by rw [wipe_out n]; exact w⟩
/-- a thing that is no slot's is changed -/
theorem Rel.side {a : Addr} {o : HO} (R : Rel K cn L O e σ H) (oa : O a) (nm : ¬ Mine e σ a) : Rel K cn L O e σ (upd H a o) := by
  have x : Ext O H O (upd H a o) := Ext.write oa
  refine ⟨R.len, fun b z => ?_, fun j y q => ?_, fun j m y q => ?_, R.lent, R.inj⟩
  · by_cases q : b = a
    · subst q; rw [upd_same]; exact fun z => nomatch z
    · rw [upd_ne q]; exact R.dom b z
  · obtain ⟨v, hv, dn⟩ := R.val j y q
    exact ⟨v, hv, dn.ext x⟩
  · obtain ⟨b, hb, ob, cb⟩ := R.own j m y q
    exact ⟨b, hb, ob, cb.ext x fun u w => by rw [upd_ne fun z => nm (by rw [← z]; exact ⟨j, m, y, q, hb⟩)]; exact w⟩
theorem Step.side {a : Addr} {o : HO} (s : Step O H O' H' M) (n : H a = none) : Step O H O' (upd H' a o) M :=
  ⟨fun b u h m => by rw [upd_ne (ne_of_none h n)]; exact s.keep b u h m, s.own⟩
end
section
variable {K : PySem.W.Frag} {C : Ct} {tg : Tg} {sk : SrcK} {src : Es} {own : List Nat} {cond el kx vx : E}
/-- no exception is wished of a block -/
abbrev Ct.in (C : Ct) : Ct := { C with W := fun _ _ _ _ => False }
/-- a block's test -/
def tCond (K : PySem.W.Frag) (C : Ct) (cond : E) : TT := if cond.isNop = true then tYes else C.in.tt K cond
theorem kept_of {m : Out Rv} {x : D} {e : Fm} (h : m.kept = .ok x e) : ∃ r, m = .ok r e ∧ r.fz = some x := by
  cases m with
  | ok r e' =>
    simp only [Out.kept, Out.bind_ok, keptR] at h
    cases q : r.fz with
    | none => rw [q] at h; cases h
    | some y => rw [q] at h; cases h; exact ⟨r, rfl, q⟩
  | ex _ _ _ => cases h
  | bad => cases h
theorem cond_ok {e2 e3 : Fm} {b : Bool} {O : Addr → Prop} {σ2 : L2.St} {H : Hp} {Q : Bool → Hp → Prop} (R : Rel K C.cn C.L O e2 σ2 H) (w : condF cond.isNop (fun e => C.ev cond e) e2 = .ok b e3)
    (h : ∀ O5 H5, Rel K C.cn C.L O5 e3 σ2 H5 → Step O H O5 H5 (Mine e2 σ2) → (∀ a, Mine e3 σ2 a → Mine e2 σ2 a) → Q b H5) : tCond K C cond σ2 H Q := by
  unfold tCond
  unfold condF at w
  split at w
  · rename_i n
    rw [if_pos n]
    cases w
    exact h O H R .refl fun a z => z
  · rename_i n
    rw [if_neg n]
    refine ⟨O, e2, R, ?_⟩
    have w' : (C.in.ev cond e2).tst = .ok b e3 := w
    dsimp only
    rw [w']
    exact fun v O5 H5 R5 q s5 m5 _ => by
      cases (show v = b from q)
      exact h O5 H5 R5 s5 m5
/-- a block's value that is kept: D is a thing beside -/
theorem elt_ok {x : D} {e3 e4 : Fm} {O O1 : Addr → Prop} {σ2 : L2.St} {H H1 : Hp} {M : Addr → Prop} {Dl : Addr} {Q : VK} (R : Rel K C.cn C.L O e3 σ2 H) (s : Step O1 H1 O H M) (m : ∀ a, Mine e3 σ2 a → M a) (oD : O Dl) (nD : ¬ M Dl) (w : (C.ev el e3).kept = .ok x e4)
    (h : ∀ y O6 H6, Rel K C.cn C.L O6 e4 σ2 H6 → Step O1 H1 O6 H6 M → (∀ a, Mine e4 σ2 a → M a) → O6 Dl → Ext O H O6 H6 → H6 Dl = H Dl → Den K C.cn O6 H6 y x → Q y H6) : C.in.te K el σ2 H Q := by
  obtain ⟨r, hr, fz⟩ := kept_of w
  refine ⟨O, e3, R, ?_⟩
  rw [show C.in.ev el e3 = .ok r e4 from hr]
  intro y O5 H5 R5 k5 s5 m5 n5
  obtain ⟨ob, hob⟩ : ∃ ob, H Dl = some ob := by
    cases q : H Dl with
    | none => exact absurd q (R.dom Dl oD)
    | some ob => exact ⟨ob, rfl⟩
  have s6 : Step O1 H1 O5 H5 M := s.trans s5 fun x z => .inl (m x z)
  have n6 : RvNew H1 M y r := RvNew.sh m s.back n5
  obtain ⟨O6, R6, s7, dn, x6, kp⟩ := fz_ok2 R5 s6 k5 n6 fz
  have nm : ¬ Mine e3 σ2 Dl := fun z => nD (m Dl z)
  have hD5 : H5 Dl = some ob := s5.hold oD hob nm
  refine h y O6 H5 R6 s7 (fun a z => m a (m5 a z)) (kp Dl ((s5.own Dl ob hob nm).mpr oD) fun nr e => ?_) ((s5.ext fun a z => R.mine z).trans x6) (by rw [hD5, hob]) dn
  rcases n5 nr Dl e with z | z
  · exact nm z
  · rw [hob] at z; cases z
/-- a block between two turns: the list that grows is at Dl -/
def Btw (K : PySem.W.Frag) (C : Ct) (own : List Nat) (σ : L2.St) (O1 : Addr → Prop) (H1 : Hp) (M : Addr → Prop) (Dl : Addr) (Ob : Addr → Prop) (Hb : Hp) (G : List D → Fm → Prop) (H' : Hp) : Prop :=
  ∃ O' ei acc accD, Ext Ob Hb O' H' ∧ Rel K C.cn C.L O' (wipeE ei own) (L2.wipe σ own) H' ∧ Step O1 H1 O' H' M ∧ (∀ a, Mine (wipeE ei own) (L2.wipe σ own) a → M a) ∧ O' Dl ∧ H' Dl = some (.lst acc) ∧ DenL K C.cn O' H' acc accD ∧ G accD ei
/-- one turn -/
theorem lc_turn {σ : L2.St} {O1 O' Ob : Addr → Prop} {H1 H' H'' Hb : Hp} {M : Addr → Prop} {Dl : Addr} {d : D} {ds : List D} {x : V} {ei : Fm} {acc : List V} {accD : List D} {G : Out (List D) → Prop} (gb : ¬ G .bad) (sub : ∀ i ∈ tg.slots, i ∈ own) (nM : ¬ M Dl) (hD : H1 Dl = none) (x0 : Ext Ob Hb O' H')
    (R' : Rel K C.cn C.L O' (wipeE ei own) (L2.wipe σ own) H') (s' : Step O1 H1 O' H' M) (m' : ∀ a, Mine (wipeE ei own) (L2.wipe σ own) a → M a) (oD : O' Dl) (hH : H' Dl = some (.lst acc)) (da : DenL K C.cn O' H' acc accD)
    (c' : G (lcL own tg (condF cond.isNop fun e => C.ev cond e) (fun e => (C.ev el e).kept) (d :: ds) accD ei)) (dx : Den K C.cn O' H'' x d) (hw : H'' = H' ∨ ∃ T vs, H' T = none ∧ H'' = upd H' T (.tup vs)) :
    gT K tg x (L2.wipe σ own) H'' fun σ2 H2 => L2.wipe σ2 own = L2.wipe σ own ∧ tCond K C cond σ2 H2 fun b H3 => if b = true then C.in.te K el σ2 H3 fun y H4 => ∃ acc, H4 Dl = some (.lst acc) ∧ acc.length < sizeLine ∧
      Btw K C own σ O1 H1 M Dl Ob Hb (fun accD ei => G (lcL own tg (condF cond.isNop fun e => C.ev cond e) (fun e => (C.ev el e).kept) ds accD ei)) (upd H4 Dl (.lst (acc ++ [y])))
      else Btw K C own σ O1 H1 M Dl Ob Hb (fun accD ei => G (lcL own tg (condF cond.isNop fun e => C.ev cond e) (fun e => (C.ev el e).kept) ds accD ei)) H3 := by
  simp only [lcL] at c'
  cases hb : bindT tg d (wipeE ei own) with
  | none => rw [hb] at c'; exact (gb c').elim
  | some e2 =>
    rw [hb] at c'
    dsimp only at c'
    have key : ∀ H3, Ext Ob Hb O' H3 → Rel K C.cn C.L O' (wipeE ei own) (L2.wipe σ own) H3 → Step O1 H1 O' H3 M → H3 Dl = some (.lst acc) → DenL K C.cn O' H3 acc accD → Den K C.cn O' H3 x d → gT K tg x (L2.wipe σ own) H3 fun σ2 H2 => L2.wipe σ2 own = L2.wipe σ own ∧ tCond K C cond σ2 H2 fun b H3 => if b = true then C.in.te K el σ2 H3 fun y H4 => ∃ acc, H4 Dl = some (.lst acc) ∧ acc.length < sizeLine ∧
        Btw K C own σ O1 H1 M Dl Ob Hb (fun accD ei => G (lcL own tg (condF cond.isNop fun e => C.ev cond e) (fun e => (C.ev el e).kept) ds accD ei)) (upd H4 Dl (.lst (acc ++ [y])))
        else Btw K C own σ O1 H1 M Dl Ob Hb (fun accD ei => G (lcL own tg (condF cond.isNop fun e => C.ev cond e) (fun e => (C.ev el e).kept) ds accD ei)) H3 := fun H3 x3 R3 s3 h3 da3 d3 =>
      gT_ok2 R3 d3 hb fun σ2 R4 m4 sl => by
        have we : L2.wipe σ2 own = L2.wipe σ own := wipe_eq (by rw [sl.1, wipe_length]) fun j hj => by rw [sl.2 j fun z => hj (sub j z), wipe_out hj]
        refine ⟨we, ?_⟩
        cases wc : condF cond.isNop (fun e => C.ev cond e) e2 with
        | bad => rw [wc] at c'; exact (gb c').elim
        | ex _ _ _ => rw [wc] at c'; exact (gb c').elim
        | ok b e3 =>
          rw [wc] at c'
          refine cond_ok R4 wc fun O5 H5 R5 s5 m5 => ?_
          have m35 : ∀ a, Mine e3 σ2 a → M a := fun a z => m' a (m4 a (m5 a z))
          have s15 : Step O1 H1 O5 H5 M := s3.trans s5 fun a z => .inl (m' a (m4 a z))
          have nm2 : ¬ Mine e2 σ2 Dl := fun z => nM (m' Dl (m4 Dl z))
          have h5 : H5 Dl = some (.lst acc) := s5.hold oD h3 nm2
          have o5 : O5 Dl := (s5.own Dl _ h3 nm2).mpr oD
          have da5 : DenL K C.cn O5 H5 acc accD := da3.ext (s5.ext fun a z => R4.mine z)
          cases b with
          | false =>
            rw [if_neg (by decide)]
            exact ⟨O5, e3, acc, accD, x3.trans (s5.ext fun a z => R4.mine z), by rw [← we]; exact R5.wipe own, s15, fun a z => m35 a (by rw [← we] at z; exact Mine.wipe z), o5, h5, da5, c'⟩
          | true =>
            rw [if_pos rfl]
            dsimp only at c'
            cases wl : (C.ev el e3).kept with
            | bad => rw [wl] at c'; exact (gb c').elim
            | ex _ _ _ => rw [wl] at c'; exact (gb c').elim
            | ok z e4 =>
              rw [wl] at c'
              dsimp only at c'
              refine elt_ok R5 s15 m35 o5 nM wl fun y O6 H6 R6 s6 m6 o6 x6 h6 dy => ?_
              split at c'
              · rename_i hz
                have da6 := da5.ext x6
                refine ⟨acc, by rw [h6, h5], by rw [da6.length]; exact hz, ?_⟩
                exact ⟨O6, e4, acc ++ [y], accD ++ [z], ((x3.trans (s5.ext fun a z => R4.mine z)).trans x6).trans (Ext.write o6), by rw [← we]; exact (R6.side o6 fun z => nM (m6 Dl z)).wipe own, s6.side hD, fun a z => m6 a (by rw [← we] at z; exact Mine.wipe z), o6, upd_same, (da6.append (.cons dy .nil)).ext (Ext.write o6), c'⟩
              · exact (gb c').elim
    rcases hw with rfl | ⟨T, vs, n, rfl⟩
    · exact key _ x0 R' s' hH da dx
    · exact key _ (x0.trans (Ext.newVal n)) (R'.newVal n) (s'.trans (Step.newVal n) fun a z => .inl z) (by rw [upd_ne (ne_of_none hH n)]; exact hH) (da.ext (Ext.newVal n)) dx
theorem c_lc {σ : L2.St} {H : Hp} {Q : VK} (sub : ∀ i ∈ tg.slots, i ∈ own) (h : C.te K (.lc tg sk src own cond el) σ H Q) : tLc (iS K C sk src) (gT K tg) (tCond K C cond) (C.in.te K el) own σ H Q := by
  refine (keepE (f := fun rs e1 => match (keep rs).bind (srcD sk) with
    | some ds => if noOwn e1 own = true then (lcL own tg (condF cond.isNop fun e => C.ev cond e) (fun e => (C.ev el e).kept) ds [] e1).bind (fcR e1 own) else .bad
    | none => .bad) h fun _ => rfl).imp fun vs H1 ⟨rs, e1, ⟨_, _, _, c0⟩, kp⟩ => ?_
  cases q : keep rs with
  | none => rw [q] at c0; exact c0.elim
  | some ds0 =>
    obtain ⟨O1, R1, dl, c1⟩ := kp ds0 q
    rw [q] at c1
    replace c1 : Cn K C.cn C.L (C.k K) (C.xw K σ) O1 H1 (Mine e1 σ) σ (match srcD sk ds0 with
      | some ds => if noOwn e1 own = true then (lcL own tg (condF cond.isNop fun e => C.ev cond e) (fun e => (C.ev el e).kept) ds [] e1).bind (fcR e1 own) else .bad
      | none => .bad) Q := c1
    cases q2 : srcD sk ds0 with
    | none => rw [q2] at c1; exact c1.elim
    | some ds =>
      rw [q2] at c1
      dsimp only at c1
      split at c1
      · rename_i no
        refine src_ok dl q2 fun J H1 lk sj Dl hD => ?_
        replace R1 := lk.rel R1
        replace c1 := Cn.shift c1 (lk.step (M := Mine e1 σ)) fun a z => z
        have nM : ¬ Mine e1 σ Dl := fun z => R1.dom Dl (R1.mine z) hD
        refine lc_it sj.walk (fun i H' => ∃ O' ei acc accD, Rel K C.cn C.L O' (wipeE ei own) (L2.wipe σ own) H' ∧ Step O1 H1 O' H' (Mine e1 σ) ∧ (∀ a, Mine (wipeE ei own) (L2.wipe σ own) a → Mine e1 σ a) ∧ O' Dl ∧ H' Dl = some (.lst acc) ∧ DenL K C.cn O' H' acc accD ∧
          Cn K C.cn C.L (C.k K) (C.xw K σ) O1 H1 (Mine e1 σ) σ ((lcL own tg (condF cond.isNop fun e => C.ev cond e) (fun e => (C.ev el e).kept) (ds.drop i) accD ei).bind (fcR e1 own)) Q) ?_ ?_ ?_ ?_
        · exact ⟨_, e1, [], [], (R1.newOwn hD).wipe own, Step.newOwn hD, fun a z => Mine.wipe z, .inr rfl, upd_same, .nil, c1⟩
        · rintro i H' _ ⟨O', ei, acc, accD, R', s', m', oD, hH, da, c'⟩
          exact ⟨O', s'.ext fun a z => R1.mine z, R'.dom⟩
        · rintro i x H' H'' hi ⟨O', ei, acc, accD, R', s', m', oD, hH, da, c'⟩ y
          have x' : Ext O1 H1 O' H' := s'.ext fun a z => R1.mine z
          obtain ⟨d, hd, dx, hw⟩ := y O' x' R'.dom
          have hdr : ds.drop i = d :: ds.drop (i + 1) := by
            rw [List.drop_eq_getElem_cons hi]
            congr 1
            rw [List.getElem?_eq_getElem hi] at hd
            cases hd
            rfl
          rw [hdr] at c'
          simp only [lcL] at c'
          cases hb : bindT tg d (wipeE ei own) with
          | none => rw [hb] at c'; exact c'.elim
          | some e2 =>
            rw [hb] at c'
            dsimp only at c'
            have key : ∀ H3, Rel K C.cn C.L O' (wipeE ei own) (L2.wipe σ own) H3 → Step O1 H1 O' H3 (Mine e1 σ) → H3 Dl = some (.lst acc) → DenL K C.cn O' H3 acc accD → Den K C.cn O' H3 x d → _ := fun H3 R3 s3 h3 da3 d3 =>
              gT_ok2 (Q := fun σ2 H2 => L2.wipe σ2 own = L2.wipe σ own ∧ tCond K C cond σ2 H2 fun b H3 => if b = true then C.in.te K el σ2 H3 fun y H4 => ∃ acc, H4 Dl = some (.lst acc) ∧ acc.length < sizeLine ∧ (∃ O' ei acc' accD, Rel K C.cn C.L O' (wipeE ei own) (L2.wipe σ own) (upd H4 Dl (.lst (acc ++ [y]))) ∧ Step O1 H1 O' (upd H4 Dl (.lst (acc ++ [y]))) (Mine e1 σ) ∧ (∀ a, Mine (wipeE ei own) (L2.wipe σ own) a → Mine e1 σ a) ∧ O' Dl ∧ (upd H4 Dl (.lst (acc ++ [y]))) Dl = some (.lst acc') ∧ DenL K C.cn O' (upd H4 Dl (.lst (acc ++ [y]))) acc' accD ∧
          Cn K C.cn C.L (C.k K) (C.xw K σ) O1 H1 (Mine e1 σ) σ ((lcL own tg (condF cond.isNop fun e => C.ev cond e) (fun e => (C.ev el e).kept) (ds.drop (i + 1)) accD ei).bind (fcR e1 own)) Q) else (∃ O' ei acc accD, Rel K C.cn C.L O' (wipeE ei own) (L2.wipe σ own) H3 ∧ Step O1 H1 O' H3 (Mine e1 σ) ∧ (∀ a, Mine (wipeE ei own) (L2.wipe σ own) a → Mine e1 σ a) ∧ O' Dl ∧ H3 Dl = some (.lst acc) ∧ DenL K C.cn O' H3 acc accD ∧
          Cn K C.cn C.L (C.k K) (C.xw K σ) O1 H1 (Mine e1 σ) σ ((lcL own tg (condF cond.isNop fun e => C.ev cond e) (fun e => (C.ev el e).kept) (ds.drop (i + 1)) accD ei).bind (fcR e1 own)) Q)) R3 d3 hb fun σ2 R4 m4 sl => by
              have we : L2.wipe σ2 own = L2.wipe σ own := wipe_eq (by rw [sl.1, wipe_length]) fun j hj => by rw [sl.2 j fun z => hj (sub j z), wipe_out hj]
              refine ⟨we, ?_⟩
              cases wc : condF cond.isNop (fun e => C.ev cond e) e2 with
              | bad => rw [wc] at c'; exact c'.elim
              | ex _ _ _ => rw [wc] at c'; exact c'.elim
              | ok b e3 =>
                rw [wc] at c'
                refine cond_ok R4 wc fun O5 H5 R5 s5 m5 => ?_
                have m35 : ∀ a, Mine e3 σ2 a → Mine e1 σ a := fun a z => m' a (m4 a (m5 a z))
                have s15 : Step O1 H1 O5 H5 (Mine e1 σ) := s3.trans s5 fun a z => .inl (m' a (m4 a z))
                have nm2 : ¬ Mine e2 σ2 Dl := fun z => nM (m' Dl (m4 Dl z))
                have h5 : H5 Dl = some (.lst acc) := s5.hold oD h3 nm2
                have o5 : O5 Dl := (s5.own Dl _ h3 nm2).mpr oD
                have da5 : DenL K C.cn O5 H5 acc accD := da3.ext (s5.ext fun a z => R4.mine z)
                cases b with
                | false =>
                  rw [if_neg (by decide)]
                  exact ⟨O5, e3, acc, accD, by rw [← we]; exact R5.wipe own, s15, fun a z => m35 a (by rw [← we] at z; exact Mine.wipe z), o5, h5, da5, c'⟩
                | true =>
                  rw [if_pos rfl]
                  dsimp only at c'
                  cases wl : (C.ev el e3).kept with
                  | bad => rw [wl] at c'; exact c'.elim
                  | ex _ _ _ => rw [wl] at c'; exact c'.elim
                  | ok z e4 =>
                    rw [wl] at c'
                    dsimp only at c'
                    refine elt_ok R5 s15 m35 o5 nM wl fun y O6 H6 R6 s6 m6 o6 x6 h6 dy => ?_
                    split at c'
                    · rename_i hz
                      have da6 := da5.ext x6
                      refine ⟨acc, by rw [h6, h5], by rw [da6.length]; exact hz, ?_⟩
                      exact ⟨O6, e4, acc ++ [y], accD ++ [z], by rw [← we]; exact (R6.side o6 fun z => nM (m6 Dl z)).wipe own, s6.side hD, fun a z => m6 a (by rw [← we] at z; exact Mine.wipe z), o6, upd_same, (da6.append (.cons dy .nil)).ext (Ext.write o6), c'⟩
                    · exact c'.elim
            rcases hw with rfl | ⟨T, vs, n, rfl⟩
            · exact key _ R' s' hH da dx
            · exact key _ (R'.newVal n) (s'.trans (Step.newVal n) fun a z => .inl z) (by rw [upd_ne (ne_of_none hH n)]; exact hH) (da.ext (Ext.newVal n)) dx
        · rintro H' ⟨O', ei, acc, accD, R', s', m', oD, hH, da, c'⟩
          rw [List.drop_length] at c'
          simp only [lcL, Out.bind_ok, fcR] at c'
          obtain ⟨R2, m2⟩ := R1.back R' (s'.ext fun a z => R1.mine z) no
          exact c' (.ref Dl) O' H' R2 ⟨Dl, rfl, oD, .lst hH da, fun z => nM (m' Dl (m2 Dl z))⟩ s' (fun a z => m' a (m2 a z)) fun _ b eb => by cases eb; exact .inr hD
      · exact c1.elim
/-- a walk's turns, whatever a turn is -/
theorem it_gen {J : It} {n : Nat} {G : Hp → Prop} {Y : Nat → Hp → V → Hp → Prop} (w : Walk J n G Y) {Turn : V → Hp → (Hp → Prop) → Prop} {H0 : Hp} {Qd : Hp → Prop} (Pv : Nat → Hp → Prop) (h0 : Pv 0 H0) (hG : ∀ i H, i ≤ n → Pv i H → G H)
    (hs : ∀ i x H H', i < n → Pv i H → Y i H x H' → Turn x H' (Pv (i + 1))) (hd : ∀ H, Pv n H → Qd H) :
    ∃ W : Nat → Nat → Hp → Prop, (∃ m, W 0 m H0) ∧ ∀ i m H, W i m H → (J.stop i H ∧ Qd H) ∨ (J.go i H ∧ ∃ Nx : Hp → Prop, (∀ H', Nx H' → ∃ m', m' < m ∧ W (i + 1) m' H') ∧ ∀ x H', J.yld i H x H' → Turn x H' Nx) := by
  refine ⟨fun i m H => m + i = n ∧ Pv i H, ⟨n, rfl, h0⟩, ?_⟩
  rintro i m H ⟨hm, p⟩
  have q := hG i H (by omega) p
  by_cases hlt : i < n
  · exact .inr ⟨w.goes i H hlt q, Pv (i + 1), fun H' p' => ⟨m - 1, by omega, by omega, p'⟩, fun x H' y => hs i x H H' hlt p (w.yields i H x H' hlt q y)⟩
  · have e : i = n := by omega
    subst e
    exact .inl ⟨w.stops H q, hd H p⟩
theorem wipeE_two {e : Fm} {own1 own : List Nat} (h : ∀ i ∈ own1, i ∈ own) : wipeE (wipeE e own1) own = wipeE e own := by
  have inn : ∀ {f : Fm} {vs : List Nat} {i : Nat}, i ∈ vs → i < f.length → (wipeE f vs)[i]? = some .dead := fun {f vs i} => by
    induction vs with
    | nil => intro q; simp at q
    | cons v vs ih =>
      intro q lt
      simp only [wipeE]
      by_cases e : i = v
      · subst e
        rw [List.getElem?_set_self (by rw [wipeE_len]; exact lt)]
      · rw [List.getElem?_set_ne (Ne.symm e)]
        exact ih ((List.mem_cons.mp q).resolve_left e) lt
  apply List.ext_getElem?
  intro i
  by_cases q : i ∈ own
  · by_cases lt : i < e.length
    · rw [inn q (by rw [wipeE_len]; exact lt), inn q lt]
    · rw [List.getElem?_eq_none (by rw [wipeE_len, wipeE_len]; omega), List.getElem?_eq_none (by rw [wipeE_len]; omega)]
  · rw [wipeE_out q, wipeE_out q, wipeE_out fun z => q (h i z)]
theorem wipe_two {σ2 : L2.St} {own1 own : List Nat} (h : ∀ i ∈ own1, i ∈ own) : L2.wipe (L2.wipe σ2 own1) own = L2.wipe σ2 own :=
  wipe_eq (by rw [wipe_length]) fun i n => by rw [wipe_out fun z => n (h i z)]
theorem c_lc2 {tg1 : Tg} {sk1 : SrcK} {src1 : Es} {cond1 : E} {σ : L2.St} {H : Hp} {Q : VK} (sub : ∀ i ∈ tg.slots, i ∈ own) (sub1 : ∀ i ∈ tg1.slots, i ∈ own) (h : C.te K (.lc2 tg sk src own cond tg1 sk1 src1 cond1 el) σ H Q) :
    tLc2 (iS K C sk src) (gT K tg) (tCond K C cond) (iS K C.in sk1 src1) (gT K tg1) (tCond K C cond1) (C.in.te K el) own tg1.slots σ H Q := by
  refine (keepE (f := fun rs e1 => match (keep rs).bind (srcD sk) with
    | some ds => if noOwn e1 own = true then (lc2L own tg (condF cond.isNop fun e => C.ev cond e) (fun acc e2 => (PV.evs C.wd C.run src1 e2).bind fun rs1 e3 => innerL tg1 (condF cond1.isNop fun e => C.ev cond1 e) (fun e => (C.ev el e).kept) ((keep rs1).bind (srcD sk1)) acc e3) ds [] e1).bind (fcR e1 own) else .bad
    | none => .bad) h fun _ => rfl).imp fun vs H1 ⟨rs, e1, ⟨_, _, _, c0⟩, kp⟩ => ?_
  cases q : keep rs with
  | none => rw [q] at c0; exact c0.elim
  | some ds0 =>
    obtain ⟨O1, R1, dl, c1⟩ := kp ds0 q
    rw [q] at c1
    simp only [Option.bind_some] at c1
    cases q2 : srcD sk ds0 with
    | none => rw [q2] at c1; exact c1.elim
    | some ds =>
      rw [q2] at c1
      dsimp only at c1
      split at c1
      · rename_i no
        refine src_ok dl q2 fun J H1 lk sj Dl hD => ?_
        replace R1 := lk.rel R1
        replace c1 := Cn.shift c1 (lk.step (M := Mine e1 σ)) fun a z => z
        have nM : ¬ Mine e1 σ Dl := fun z => R1.dom Dl (R1.mine z) hD
        generalize hin : (fun acc e2 => (PV.evs C.wd C.run src1 e2).bind fun rs1 e3 => innerL tg1 (condF cond1.isNop fun e => C.ev cond1 e) (fun e => (C.ev el e).kept) ((keep rs1).bind (srcD sk1)) acc e3) = inner at c1
        refine it_gen sj.walk (fun i H' => Btw K C own σ O1 H1 (Mine e1 σ) Dl O1 H1 (fun accD ei => Cn K C.cn C.L (C.k K) (C.xw K σ) O1 H1 (Mine e1 σ) σ ((lc2L own tg (condF cond.isNop fun e => C.ev cond e) inner (ds.drop i) accD ei).bind (fcR e1 own)) Q) H') ?_ ?_ ?_ ?_
        · exact ⟨_, e1, [], [], Ext.newOwn hD, (R1.newOwn hD).wipe own, Step.newOwn hD, fun a z => Mine.wipe z, .inr rfl, upd_same, .nil, c1⟩
        · rintro i H' _ ⟨O', ei, acc, accD, x', R', s', m', oD, hH, da, c'⟩
          exact ⟨O', x', R'.dom⟩
        · rintro i x H' H'' hi ⟨O', ei, acc, accD, x', R', s', m', oD, hH, da, c'⟩ y
          obtain ⟨d, hd, dx, hw⟩ := y O' x' R'.dom
          have hdr : ds.drop i = d :: ds.drop (i + 1) := by
            rw [List.drop_eq_getElem_cons hi]
            congr 1
            rw [List.getElem?_eq_getElem hi] at hd
            cases hd
            rfl
          rw [hdr] at c'
          simp only [lc2L] at c'
          cases hb : bindT tg d (wipeE ei own) with
          | none => rw [hb] at c'; exact c'.elim
          | some e2 =>
            rw [hb] at c'
            dsimp only at c'
            have key : ∀ H3, Rel K C.cn C.L O' (wipeE ei own) (L2.wipe σ own) H3 → Step O1 H1 O' H3 (Mine e1 σ) → H3 Dl = some (.lst acc) → DenL K C.cn O' H3 acc accD → Den K C.cn O' H3 x d → _ := fun H3 R3 s3 h3 da3 d3 =>
              gT_ok2 (Q := fun σ2 H2 => L2.wipe σ2 own = L2.wipe σ own ∧ tCond K C cond σ2 H2 fun b H3 => if b = true then iS K C.in sk1 src1 σ2 H3 fun J1 H4 => ∃ W1 : Nat → Nat → Hp → Prop, (∃ m, W1 0 m H4) ∧ ∀ j k H, W1 j k H →
                  (J1.stop j H ∧ Btw K C own σ O1 H1 (Mine e1 σ) Dl O1 H1 (fun accD ei => Cn K C.cn C.L (C.k K) (C.xw K σ) O1 H1 (Mine e1 σ) σ ((lc2L own tg (condF cond.isNop fun e => C.ev cond e) inner (ds.drop (i + 1)) accD ei).bind (fcR e1 own)) Q) H) ∨ (J1.go j H ∧ ∃ Nx1 : Hp → Prop, (∀ H', Nx1 H' → ∃ k', k' < k ∧ W1 (j + 1) k' H') ∧ ∀ x H', J1.yld j H x H' → gT K tg1 x (L2.wipe σ2 tg1.slots) H' fun σ3 H5 => L2.wipe σ3 tg1.slots = L2.wipe σ2 tg1.slots ∧ tCond K C cond1 σ3 H5 fun b H6 =>
                    if b = true then C.in.te K el σ3 H6 fun y H7 => ∃ acc, H7 Dl = some (.lst acc) ∧ acc.length < sizeLine ∧ Nx1 (upd H7 Dl (.lst (acc ++ [y]))) else Nx1 H6)
                else Btw K C own σ O1 H1 (Mine e1 σ) Dl O1 H1 (fun accD ei => Cn K C.cn C.L (C.k K) (C.xw K σ) O1 H1 (Mine e1 σ) σ ((lc2L own tg (condF cond.isNop fun e => C.ev cond e) inner (ds.drop (i + 1)) accD ei).bind (fcR e1 own)) Q) H3) R3 d3 hb fun σ2 R4 m4 sl => by
              have we : L2.wipe σ2 own = L2.wipe σ own := wipe_eq (by rw [sl.1, wipe_length]) fun j hj => by rw [sl.2 j fun z => hj (sub j z), wipe_out hj]
              refine ⟨we, ?_⟩
              cases wc : condF cond.isNop (fun e => C.ev cond e) e2 with
              | bad => rw [wc] at c'; exact c'.elim
              | ex _ _ _ => rw [wc] at c'; exact c'.elim
              | ok b e3 =>
                rw [wc] at c'
                refine cond_ok R4 wc fun O5 H5 R5 s5 m5 => ?_
                have m35 : ∀ a, Mine e3 σ2 a → Mine e1 σ a := fun a z => m' a (m4 a (m5 a z))
                have s15 : Step O1 H1 O5 H5 (Mine e1 σ) := s3.trans s5 fun a z => .inl (m' a (m4 a z))
                have nm2 : ¬ Mine e2 σ2 Dl := fun z => nM (m' Dl (m4 Dl z))
                have h5 : H5 Dl = some (.lst acc) := s5.hold oD h3 nm2
                have o5 : O5 Dl := (s5.own Dl _ h3 nm2).mpr oD
                have da5 : DenL K C.cn O5 H5 acc accD := da3.ext (s5.ext fun a z => R4.mine z)
                cases b with
                | false =>
                  rw [if_neg (by decide)]
                  exact ⟨O5, e3, acc, accD, s15.ext fun a z => R1.mine z, by rw [← we]; exact R5.wipe own, s15, fun a z => m35 a (by rw [← we] at z; exact Mine.wipe z), o5, h5, da5, c'⟩
                | true =>
                  rw [if_pos rfl]
                  dsimp only at c'
                  have nm3 : ¬ Mine e3 σ2 Dl := fun z => nM (m35 Dl z)
                  have hi3 : inner accD e3 = (PV.evs C.wd C.run src1 e3).bind fun rs1 e3 => innerL tg1 (condF cond1.isNop fun e => C.ev cond1 e) (fun e => (C.ev el e).kept) ((keep rs1).bind (srcD sk1)) accD e3 := by rw [← hin]
                  rw [hi3] at c'
                  refine ⟨O5, e3, R5, ?_⟩
                  cases wr : PV.evs C.wd C.run src1 e3 with
                  | bad => rw [wr] at c'; exact c'.elim
                  | ex _ _ _ => rw [wr] at c'; exact c'.elim
                  | ok rs1 e4 =>
                    rw [wr] at c'
                    simp only [Out.bind_ok] at c'
                    intro us O6 H6 R6 k6 s6 m6 n6
                    cases q3 : keep rs1 with
                    | none => rw [q3] at c'; exact c'.elim
                    | some dk =>
                      rw [q3] at c'
                      simp only [Option.bind_some] at c'
                      cases q4 : srcD sk1 dk with
                      | none => rw [q4] at c'; exact c'.elim
                      | some ds1 =>
                        rw [q4] at c'
                        simp only [innerL] at c'
                        have s16 : Step O1 H1 O6 H6 (Mine e1 σ) := s15.trans s6 fun a z => .inl (m35 a z)
                        have n16 : RsNew H1 (Mine e1 σ) us rs1 := fun j u q hu hq => (n6 j u q hu hq).sh m35 s15.back
                        obtain ⟨O7, R7, s17, dl7, x7, kp7⟩ := keep_ok2 R6 s16 k6 n16 q3
                        have h6 : H6 Dl = some (.lst acc) := s6.hold o5 h5 nm3
                        have o6 : O6 Dl := (s6.own Dl _ h5 nm3).mpr o5
                        have o7 : O7 Dl := kp7 Dl o6 fun j q hq nq hv => by
                          rcases n6 j _ q hv hq nq Dl rfl with z | z
                          · exact nm3 z
                          · rw [h5] at z; cases z
                        have da7 : DenL K C.cn O7 H6 acc accD := (da5.ext (s6.ext fun a z => R5.mine z)).ext x7
                        have m16 : ∀ a, Mine e4 σ2 a → Mine e1 σ a := fun a z => m35 a (m6 a z)
                        refine src_ok dl7 q4 fun J1 H7 lk1 sj1 => ?_
                        have R8 := lk1.rel R7
                        have s18 : Step O1 H1 O7 H7 (Mine e1 σ) := s17.trans (lk1.step (M := fun _ => False)) fun a z => z.elim
                        have h8 : H7 Dl = some (.lst acc) := (lk1.step (M := fun _ => False)).hold o7 h6 id
                        have da8 : DenL K C.cn O7 H7 acc accD := da7.ext lk1.ext
                        refine it_gen sj1.walk (fun j H' => Btw K C tg1.slots σ2 O1 H1 (Mine e1 σ) Dl O7 H7 (fun accD ei => (fun o => match o with
                          | .ok acc' e' => Cn K C.cn C.L (C.k K) (C.xw K σ) O1 H1 (Mine e1 σ) σ ((lc2L own tg (condF cond.isNop fun e => C.ev cond e) inner (ds.drop (i + 1)) acc' e').bind (fcR e1 own)) Q
                          | _ => False) (lcL tg1.slots tg1 (condF cond1.isNop fun e => C.ev cond1 e) (fun e => (C.ev el e).kept) (ds1.drop j) accD ei)) H') ?_ ?_ ?_ ?_
                        · refine ⟨O7, e4, acc, accD, Ext.rfl', R8.wipe _, s18, fun a z => m16 a (Mine.wipe z), o7, h8, da8, ?_⟩
                          rw [List.drop_zero]
                          revert c'
                          dsimp only
                          cases lcL tg1.slots tg1 (condF cond1.isNop fun e => C.ev cond1 e) (fun e => (C.ev el e).kept) ds1 accD e4 with
                          | ok acc' e' => exact fun c' => c'
                          | ex _ _ _ => exact fun c' => c'
                          | bad => exact fun c' => c'
                        · rintro j Hj _ ⟨Oj, ej, aj, adj, xj, Rj, _⟩
                          exact ⟨Oj, xj, Rj.dom⟩
                        · rintro j y Hj Hj' hj ⟨Oj, ej, aj, adj, xj, Rj, sj', mj, oj, hhj, daj, cj⟩ yj
                          obtain ⟨d1, hd1, dx1, hw1⟩ := yj Oj xj Rj.dom
                          have hdr1 : ds1.drop j = d1 :: ds1.drop (j + 1) := by
                            rw [List.drop_eq_getElem_cons hj]
                            congr 1
                            rw [List.getElem?_eq_getElem hj] at hd1
                            cases hd1
                            rfl
                          rw [hdr1] at cj
                          exact lc_turn (G := fun o => match o with
                            | .ok acc' e' => Cn K C.cn C.L (C.k K) (C.xw K σ) O1 H1 (Mine e1 σ) σ ((lc2L own tg (condF cond.isNop fun e => C.ev cond e) inner (ds.drop (i + 1)) acc' e').bind (fcR e1 own)) Q
                            | _ => False) id (fun i hi => hi) nM hD xj Rj sj' mj oj hhj daj cj dx1 hw1
                        · rintro Hj ⟨Oj, ej, aj, adj, xj, Rj, sj', mj, oj, hhj, daj, cj⟩
                          rw [List.drop_length] at cj
                          simp only [lcL] at cj
                          refine ⟨Oj, ej, aj, adj, sj'.ext fun a z => R1.mine z, ?_, sj', fun a z => ?_, oj, hhj, daj, cj⟩
                          · have r := Rj.wipe own
                            rw [wipeE_two sub1, wipe_two sub1, we] at r
                            exact r
                          · refine mj a (Mine.wipe (own := own) ?_)
                            rw [wipeE_two sub1, wipe_two sub1, we]
                            exact z
            rcases hw with rfl | ⟨T, vs, n, rfl⟩
            · exact key _ R' s' hH da dx
            · exact key _ (R'.newVal n) (s'.trans (Step.newVal n) fun a z => .inl z) (by rw [upd_ne (ne_of_none hH n)]; exact hH) (da.ext (Ext.newVal n)) dx
        · rintro H' ⟨O', ei, acc, accD, _, R', s', m', oD, hH, da, c'⟩
          rw [List.drop_length] at c'
          simp only [lc2L, Out.bind_ok, fcR] at c'
          obtain ⟨R2, m2⟩ := R1.back R' (s'.ext fun a z => R1.mine z) no
          exact c' (.ref Dl) O' H' R2 ⟨Dl, rfl, oD, .lst hH da, fun z => nM (m' Dl (m2 Dl z))⟩ s' (fun a z => m' a (m2 a z)) fun _ b eb => by cases eb; exact .inr hD
      · exact c1.elim
end
end
end PV
/-! ## rules: dicts made -/
namespace PV
open PySem L2 PyProof.Rows
noncomputable section
theorem dc_it {J : It} {n : Nat} {G : Hp → Prop} {Y : Nat → Hp → V → Hp → Prop} (w : Walk J n G Y) {g : TG} {tt : TT} {tk tv : TE} {vs : List Nat} {σ : L2.St} {H1 : Hp} {D : Addr} {Qd : Hp → Prop} (Pv : Nat → Hp → Prop) (h0 : Pv 0 (upd H1 D (.dK []))) (hG : ∀ i H, i ≤ n → Pv i H → G H)
    (hs : ∀ i x H H', i < n → Pv i H → Y i H x H' → g x (L2.wipe σ vs) H' fun σ2 H2 => L2.wipe σ2 vs = L2.wipe σ vs ∧ tt σ2 H2 fun b H3 =>
      if b = true then tk σ2 H3 fun y H4 => tv σ2 H4 fun z H5 => ∃ kvs k, y = kV k ∧ H5 D = some (.dK kvs) ∧ kvs.length < sizeLine ∧ Pv (i + 1) (upd H5 D (.dK (putK kvs k z))) else Pv (i + 1) H3) (hd : ∀ H, Pv n H → Qd H) :
    ∃ W : Nat → Nat → Hp → Prop, (∃ m, W 0 m (upd H1 D (.dK []))) ∧ ∀ i m H, W i m H →
      (J.stop i H ∧ Qd H) ∨ (J.go i H ∧ ∃ Nx : Hp → Prop, (∀ H', Nx H' → ∃ m', m' < m ∧ W (i + 1) m' H') ∧ ∀ x H', J.yld i H x H' → g x (L2.wipe σ vs) H' fun σ2 H2 => L2.wipe σ2 vs = L2.wipe σ vs ∧ tt σ2 H2 fun b H3 =>
        if b = true then tk σ2 H3 fun y H4 => tv σ2 H4 fun z H5 => ∃ kvs k, y = kV k ∧ H5 D = some (.dK kvs) ∧ kvs.length < sizeLine ∧ Nx (upd H5 D (.dK (putK kvs k z))) else Nx H3) := by
  refine ⟨fun i m H => m + i = n ∧ Pv i H, ⟨n, rfl, h0⟩, ?_⟩
  rintro i m H ⟨hm, p⟩
  have q := hG i H (by omega) p
  by_cases hlt : i < n
  · exact .inr ⟨w.goes i H hlt q, Pv (i + 1), fun H' p' => ⟨m - 1, by omega, by omega, p'⟩, fun x H' y => hs i x H H' hlt p (w.yields i H x H' hlt q y)⟩
  · have e : i = n := by omega
    subst e
    exact .inl ⟨w.stops H q, hd H p⟩
section
variable {K : PySem.W.Frag} {C : Ct} {tg : Tg} {sk : SrcK} {src : Es} {own : List Nat} {cond el kx vx : E}
theorem c_dc {σ : L2.St} {H : Hp} {Q : VK} (sub : ∀ i ∈ tg.slots, i ∈ own) (h : C.te K (.dc tg sk src own cond kx vx) σ H Q) : tDc (iS K C sk src) (gT K tg) (tCond K C cond) (C.in.te K kx) (C.in.te K vx) own σ H Q := by
  refine (keepE (f := fun rs e1 => match (keep rs).bind (srcD sk) with
    | some ds => if noOwn e1 own = true then (dcL own tg (condF cond.isNop fun e => C.ev cond e) (fun e => (C.ev kx e).kept) (fun e => (C.ev vx e).kept) ds [] e1).bind (dcR e1 own) else .bad
    | none => .bad) h fun _ => rfl).imp fun vs H1 ⟨rs, e1, ⟨_, _, _, c0⟩, kp⟩ => ?_
  cases q : keep rs with
  | none => rw [q] at c0; exact c0.elim
  | some ds0 =>
    obtain ⟨O1, R1, dl, c1⟩ := kp ds0 q
    rw [q] at c1
    replace c1 : Cn K C.cn C.L (C.k K) (C.xw K σ) O1 H1 (Mine e1 σ) σ (match srcD sk ds0 with
      | some ds => if noOwn e1 own = true then (dcL own tg (condF cond.isNop fun e => C.ev cond e) (fun e => (C.ev kx e).kept) (fun e => (C.ev vx e).kept) ds [] e1).bind (dcR e1 own) else .bad
      | none => .bad) Q := c1
    cases q2 : srcD sk ds0 with
    | none => rw [q2] at c1; exact c1.elim
    | some ds =>
      rw [q2] at c1
      dsimp only at c1
      split at c1
      · rename_i no
        refine src_ok dl q2 fun J H1 lk sj Dl hD => ?_
        replace R1 := lk.rel R1
        replace c1 := Cn.shift c1 (lk.step (M := Mine e1 σ)) fun a z => z
        have nM : ¬ Mine e1 σ Dl := fun z => R1.dom Dl (R1.mine z) hD
        refine dc_it sj.walk (fun i H' => ∃ O' ei acc accD, Rel K C.cn C.L O' (wipeE ei own) (L2.wipe σ own) H' ∧ Step O1 H1 O' H' (Mine e1 σ) ∧ (∀ a, Mine (wipeE ei own) (L2.wipe σ own) a → Mine e1 σ a) ∧ O' Dl ∧ H' Dl = some (.dK acc) ∧ DenK K C.cn O' H' acc accD ∧
          Cn K C.cn C.L (C.k K) (C.xw K σ) O1 H1 (Mine e1 σ) σ ((dcL own tg (condF cond.isNop fun e => C.ev cond e) (fun e => (C.ev kx e).kept) (fun e => (C.ev vx e).kept) (ds.drop i) accD ei).bind (dcR e1 own)) Q) ?_ ?_ ?_ ?_
        · exact ⟨_, e1, [], [], (R1.newOwn hD).wipe own, Step.newOwn hD, fun a z => Mine.wipe z, .inr rfl, upd_same, .nil, c1⟩
        · rintro i H' _ ⟨O', ei, acc, accD, R', s', m', oD, hH, da, c'⟩
          exact ⟨O', s'.ext fun a z => R1.mine z, R'.dom⟩
        · rintro i x H' H'' hi ⟨O', ei, acc, accD, R', s', m', oD, hH, da, c'⟩ y
          have x' : Ext O1 H1 O' H' := s'.ext fun a z => R1.mine z
          obtain ⟨d, hd, dx, hw⟩ := y O' x' R'.dom
          have hdr : ds.drop i = d :: ds.drop (i + 1) := by
            rw [List.drop_eq_getElem_cons hi]
            congr 1
            rw [List.getElem?_eq_getElem hi] at hd
            cases hd
            rfl
          rw [hdr] at c'
          simp only [dcL] at c'
          cases hb : bindT tg d (wipeE ei own) with
          | none => rw [hb] at c'; exact c'.elim
          | some e2 =>
            rw [hb] at c'
            dsimp only at c'
            have key : ∀ H3, Rel K C.cn C.L O' (wipeE ei own) (L2.wipe σ own) H3 → Step O1 H1 O' H3 (Mine e1 σ) → H3 Dl = some (.dK acc) → DenK K C.cn O' H3 acc accD → Den K C.cn O' H3 x d → _ := fun H3 R3 s3 h3 da3 d3 =>
              gT_ok2 (Q := fun σ2 H2 => L2.wipe σ2 own = L2.wipe σ own ∧ tCond K C cond σ2 H2 fun b H3 => if b = true then C.in.te K kx σ2 H3 fun y H4 => C.in.te K vx σ2 H4 fun z H5 => ∃ kvs k, y = kV k ∧ H5 Dl = some (.dK kvs) ∧ kvs.length < sizeLine ∧ (∃ O' ei acc' accD, Rel K C.cn C.L O' (wipeE ei own) (L2.wipe σ own) (upd H5 Dl (.dK (putK kvs k z))) ∧ Step O1 H1 O' (upd H5 Dl (.dK (putK kvs k z))) (Mine e1 σ) ∧ (∀ a, Mine (wipeE ei own) (L2.wipe σ own) a → Mine e1 σ a) ∧ O' Dl ∧ (upd H5 Dl (.dK (putK kvs k z))) Dl = some (.dK acc') ∧ DenK K C.cn O' (upd H5 Dl (.dK (putK kvs k z))) acc' accD ∧
          Cn K C.cn C.L (C.k K) (C.xw K σ) O1 H1 (Mine e1 σ) σ ((dcL own tg (condF cond.isNop fun e => C.ev cond e) (fun e => (C.ev kx e).kept) (fun e => (C.ev vx e).kept) (ds.drop (i + 1)) accD ei).bind (dcR e1 own)) Q) else (∃ O' ei acc accD, Rel K C.cn C.L O' (wipeE ei own) (L2.wipe σ own) H3 ∧ Step O1 H1 O' H3 (Mine e1 σ) ∧ (∀ a, Mine (wipeE ei own) (L2.wipe σ own) a → Mine e1 σ a) ∧ O' Dl ∧ H3 Dl = some (.dK acc) ∧ DenK K C.cn O' H3 acc accD ∧
          Cn K C.cn C.L (C.k K) (C.xw K σ) O1 H1 (Mine e1 σ) σ ((dcL own tg (condF cond.isNop fun e => C.ev cond e) (fun e => (C.ev kx e).kept) (fun e => (C.ev vx e).kept) (ds.drop (i + 1)) accD ei).bind (dcR e1 own)) Q)) R3 d3 hb fun σ2 R4 m4 sl => by
              have we : L2.wipe σ2 own = L2.wipe σ own := wipe_eq (by rw [sl.1, wipe_length]) fun j hj => by rw [sl.2 j fun z => hj (sub j z), wipe_out hj]
              refine ⟨we, ?_⟩
              cases wc : condF cond.isNop (fun e => C.ev cond e) e2 with
              | bad => rw [wc] at c'; exact c'.elim
              | ex _ _ _ => rw [wc] at c'; exact c'.elim
              | ok b e3 =>
                rw [wc] at c'
                refine cond_ok R4 wc fun O5 H5 R5 s5 m5 => ?_
                have m35 : ∀ a, Mine e3 σ2 a → Mine e1 σ a := fun a z => m' a (m4 a (m5 a z))
                have s15 : Step O1 H1 O5 H5 (Mine e1 σ) := s3.trans s5 fun a z => .inl (m' a (m4 a z))
                have nm2 : ¬ Mine e2 σ2 Dl := fun z => nM (m' Dl (m4 Dl z))
                have h5 : H5 Dl = some (.dK acc) := s5.hold oD h3 nm2
                have o5 : O5 Dl := (s5.own Dl _ h3 nm2).mpr oD
                have da5 : DenK K C.cn O5 H5 acc accD := da3.ext (s5.ext fun a z => R4.mine z)
                cases b with
                | false =>
                  rw [if_neg (by decide)]
                  exact ⟨O5, e3, acc, accD, by rw [← we]; exact R5.wipe own, s15, fun a z => m35 a (by rw [← we] at z; exact Mine.wipe z), o5, h5, da5, c'⟩
                | true =>
                  rw [if_pos rfl]
                  dsimp only at c'
                  cases wl : (C.ev kx e3).kept with
                  | bad => rw [wl] at c'; exact c'.elim
                  | ex _ _ _ => rw [wl] at c'; exact c'.elim
                  | ok kd e4 =>
                    rw [wl] at c'
                    dsimp only at c'
                    refine elt_ok R5 s15 m35 o5 nM wl fun y O6 H6 R6 s6 m6 o6 x6 h6 dy => ?_
                    cases wv : (C.ev vx e4).kept with
                    | bad => rw [wv] at c'; exact c'.elim
                    | ex _ _ _ => rw [wv] at c'; exact c'.elim
                    | ok vd e5 =>
                      rw [wv] at c'
                      dsimp only at c'
                      refine elt_ok R6 s6 m6 o6 nM wv fun z O7 H7 R7 s7 m7 o7 x7 h7 dz => ?_
                      split at c'
                      · rename_i hz
                        have da7 := (da5.ext x6).ext x7
                        have dy7 := dy.ext x7
                        have ok := hz.2
                        unfold keyOk at ok
                        rw [if_neg (by decide)] at ok
                        obtain ⟨k, rfl⟩ := atom_key ok
                        obtain rfl := den_key dy7
                        refine ⟨acc, k, rfl, by rw [h7, h6, h5], by rw [da7.length]; exact hz.1, ?_⟩
                        exact ⟨O7, e5, _, _, by rw [← we]; exact (R7.side o7 fun z => nM (m7 Dl z)).wipe own, s7.side hD, fun a z => m7 a (by rw [← we] at z; exact Mine.wipe z), o7, upd_same, (put_dK dz da7).ext (Ext.write o7), c'⟩
                      · exact c'.elim
            rcases hw with rfl | ⟨T, vs, n, rfl⟩
            · exact key _ R' s' hH da dx
            · exact key _ (R'.newVal n) (s'.trans (Step.newVal n) fun a z => .inl z) (by rw [upd_ne (ne_of_none hH n)]; exact hH) (da.ext (Ext.newVal n)) dx
        · rintro H' ⟨O', ei, acc, accD, R', s', m', oD, hH, da, c'⟩
          rw [List.drop_length] at c'
          simp only [dcL, Out.bind_ok, dcR] at c'
          obtain ⟨R2, m2⟩ := R1.back R' (s'.ext fun a z => R1.mine z) no
          exact c' (.ref Dl) O' H' R2 ⟨Dl, rfl, oD, .dK hH da, fun z => nM (m' Dl (m2 Dl z))⟩ s' (fun a z => m' a (m2 a z)) fun _ b eb => by cases eb; exact .inr hD
      · exact c1.elim
/-! ### displays -/
theorem pairs_den {O : Addr → Prop} {H : Hp} : ∀ {ds : List D} {vs : List V} {ps : List (D × D)}, DenL K C.cn O H vs ds → pairs ds = some ps → (ps.all fun p => keyOk false p.1) = true → ∃ kvs : List (Key × V), vs = kvs.flatMap (fun kv => [kV kv.1, kv.2]) ∧ DenK K C.cn O H kvs ps
  | [], _, ps, .nil, q, _ => by simp only [pairs, Option.some.injEq] at q; subst q; exact ⟨[], rfl, .nil⟩
  | [_], _, _, _, q, _ => by simp [pairs] at q
  | k :: v :: r, _, ps, .cons hk (.cons hv t), q, ok => by
    simp only [pairs, Option.map_eq_some_iff] at q
    obtain ⟨l, hl, rfl⟩ := q
    rw [List.all_cons, Bool.and_eq_true] at ok
    obtain ⟨kvs, rfl, dk⟩ := pairs_den t hl ok.2
    have o1 := ok.1
    unfold keyOk at o1
    rw [if_neg (by decide)] at o1
    obtain ⟨j, rfl⟩ := atom_key o1
    obtain rfl := den_key hk
    exact ⟨(j, _) :: kvs, rfl, .cons hv dk⟩
theorem merge_den {O : Addr → Prop} {H : Hp} : ∀ {kvs : List (Key × V)} {ps : List (D × D)} {acc : List (Key × V)} {da : List (D × D)}, DenK K C.cn O H kvs ps → DenK K C.cn O H acc da → DenK K C.cn O H (mergeK acc kvs) (ps.foldl (fun acc p => dput acc p.1 p.2) da)
  | _, _, _, _, .nil, h => h
  | _, _, acc, da, .cons (k := k) (v := v) (d := d) (vs := kvs) (ds := ps) hd t, h => by
    show DenK K C.cn O H (mergeK (putK acc k v) kvs) (ps.foldl (fun acc p => dput acc p.1 p.2) (dput da (kD k) d))
    exact merge_den t (put_dK hd h)
end
section
variable {X : Cx} {C : Ct} {pos : Pos} {a b : Expr} {a' b' : E}
/-- the pairs as they stand in a list -/
def flatE : List (E × E) → Es
  | [] => .nil
  | (k, v) :: r => .cons k (.cons v (flatE r))
def trsOf (K : PySem.W.Frag) (C : Ct) (l : List (E × E)) : List (TE × TE) := l.map fun p => (C.te K p.1, C.te K p.2)
theorem c_pairs {K : PySem.W.Frag} : ∀ {l : List (E × E)} {σ : L2.St} {H : Hp} {Q : List V → Hp → Prop}, C.ta K (flatE l) σ H Q → tPairs (trsOf K C l) σ H fun ps H2 => Q (ps.flatMap fun p => [p.1, p.2]) H2
  | [], σ, H, Q, ⟨O, e, R, h⟩ => h [] O H R .nil .refl (fun _ z => z) fun j u q a => by simp at a
  | (k, v) :: r, σ, H, Q, h => (c_cons h).imp fun x H1 h1 => (c_cons h1).imp fun y H2 h2 => by
    have h3 := c_pairs (l := r) h2
    exact h3
theorem tPairs_imp {σ : L2.St} : ∀ {l : List (TE × TE)} {H : Hp} {Q Q' : List (V × V) → Hp → Prop}, (∀ p ∈ l, (∀ H q q', p.1 σ H q → (∀ x H', q x H' → q' x H') → p.1 σ H q') ∧ ∀ H q q', p.2 σ H q → (∀ x H', q x H' → q' x H') → p.2 σ H q') → tPairs l σ H Q → (∀ ps H', Q ps H' → Q' ps H') → tPairs l σ H Q'
  | [], _, _, _, _, h, i => i _ _ h
  | (tk, tv) :: r, H, Q, Q', m, h, i => by
    have m1 := m _ List.mem_cons_self
    exact m1.1 _ _ _ h fun x H1 h1 => m1.2 _ _ _ h1 fun y H2 h2 => tPairs_imp (fun p hp => m p (List.mem_cons_of_mem _ hp)) h2 fun ps H3 q => i _ _ q
theorem flat_inj : ∀ {ps : List (V × V)} {kvs : List (Key × V)}, (ps.flatMap fun p => [p.1, p.2]) = kvs.flatMap (fun kv => [kV kv.1, kv.2]) → ps = kvs.map fun kv => (kV kv.1, kv.2)
  | [], [], _ => rfl
  | [], _ :: _, h => by simp at h
  | _ :: _, [], h => by simp at h
  | (x, y) :: ps, (k, v) :: kvs, h => by
    simp only [List.flatMap_cons, List.cons_append, List.nil_append, List.cons.injEq] at h
    obtain ⟨rfl, rfl, h⟩ := h
    rw [List.map_cons, flat_inj h]
theorem s_dic0 {t : Bool} : PE X (.Dict [] [] pos) (C.te X.K (.dic t .nil)) := by
  cases t with
  | false =>
    refine PE.imp pe_dnewK fun σ H Q ⟨O, e, R, h⟩ p n => ?_
    exact h _ _ _ (R.newOwn n) ⟨p, rfl, .inr rfl, .dK upd_same .nil, Mine.noNone R n⟩ (.newOwn n) (fun _ z => z) fun _ b z => by cases z; exact .inr n
  | true =>
    refine PE.imp pe_dnewT fun σ H Q ⟨O, e, R, h⟩ p n => ?_
    exact h _ _ _ (R.newOwn n) ⟨p, rfl, .inr rfl, .dT upd_same .nil, Mine.noNone R n⟩ (.newOwn n) (fun _ z => z) fun _ b z => by cases z; exact .inr n
theorem pps_of {keys : List (Option Expr)} {values : List Expr} {l : List (E × E)} (h : PPs X pos keys values (trsOf X.K C l)) (hall : keys.all (·.isSome) = true) (hl : keys.length = values.length) (h0 : keys ≠ []) (h15 : keys.length ≤ 15) :
    PE X (.Dict keys values pos) (C.te X.K (.dic false (flatE l))) := by
  refine PE.imp (pe_disp h hall hl h0 h15) fun σ H Q ⟨O, e, R, c⟩ p n => ?_
  have c' : Cn X.K C.cn C.L (C.k X.K) (C.xw X.K σ) O H (Mine e σ) σ ((evs C.wd C.run (flatE l) e).bind (dicR false)) Q := c
  have go : C.ta X.K (flatE l) σ (upd H p (.dK [])) fun vs H2 => H2 p = some (.dK []) ∧ ∃ kvs : List (Key × V), vs = kvs.flatMap (fun kv => [kV kv.1, kv.2]) ∧ kvs.length ≤ 15 ∧ Q (.ref p) (upd H2 p (.dK (mergeK [] kvs))) := by
    refine ⟨_, e, R.newOwn n, ?_⟩
    cases w : evs C.wd C.run (flatE l) e with
    | bad => rw [w] at c'; exact c'
    | ex k fs e1 => rw [w] at c'; exact Cn.shift (k := C.ks X.K) (Q := fun _ _ => True) (show Cn X.K C.cn C.L (C.ks X.K) (C.xw X.K σ) O H (Mine e σ) σ (.ex k fs e1) (fun _ _ => True) from c') (.newOwn n) fun a z => z
    | ok rs e1 =>
      rw [w] at c'
      simp only [Out.bind_ok, dicR] at c'
      intro vs O2 H2 R2 k2 s2 m2 n2
      have s02 : Step O H O2 H2 (Mine e σ) := (Step.newOwn n).trans s2 fun x z => .inl z
      have nm : ¬ Mine e σ p := Mine.noNone R n
      have hp2 : H2 p = some (.dK []) := s2.hold (.inr rfl) upd_same nm
      have o2 : O2 p := (s2.own p _ upd_same nm).mpr (.inr rfl)
      cases q : keep rs with
      | none => rw [q] at c'; exact c'.elim
      | some ds =>
        rw [q] at c'
        simp only [Option.bind_some] at c'
        cases q2 : pairs ds with
        | none => rw [q2] at c'; exact c'.elim
        | some ps =>
          rw [q2] at c'
          dsimp only at c'
          split at c'
          · rename_i ok
            have n02 : RsNew H (Mine e σ) vs rs := fun j u q hu hq => (n2 j u q hu hq).sh (fun a z => z) (Step.newOwn (O := O) (o := .dK []) n).back
            obtain ⟨O3, R3, s3, dl, x3, kp⟩ := keep_ok2 R2 s02 k2 n02 q
            have o3 : O3 p := kp p o2 fun j q hq nq hv => by
              rcases n2 j _ q hv hq nq p rfl with z | z
              · exact nm z
              · rw [upd_same] at z; cases z
            obtain ⟨kvs, ev, dk⟩ := pairs_den dl q2 ok.2.1
            refine ⟨hp2, kvs, ev, by rw [dk.length]; exact ok.1, ?_⟩
            exact c' (.ref p) O3 _ (R3.side o3 fun z => nm (m2 p z)) ⟨p, rfl, o3, .dK upd_same ((merge_den dk .nil).ext (Ext.write o3)), fun z => nm (m2 p z)⟩ (s3.side n) m2 fun _ b eb => by cases eb; exact .inr n
          · exact c'.elim
  refine tPairs_imp (fun p hp => ?_) (c_pairs go) fun ps H2 ⟨h1, kvs, ev, hl, q⟩ => ⟨h1, kvs, ?_, hl, q⟩
  · simp only [trsOf, List.mem_map] at hp
    obtain ⟨q, _, rfl⟩ := hp
    exact ⟨fun H q q' h i => PV.tI.imp h i, fun H q q' h i => PV.tI.imp h i⟩
  · exact flat_inj ev
end
end
end PV
/-! ## a def by its body -/
namespace PV
open PySem L2 PyProof.Rows
noncomputable section
section
variable {K : PySem.W.Frag} {cn : Nat → Addr} {O O' : Addr → Prop} {H H' H0 : Hp} {e : Fm} {σ : L2.St} {M : Addr → Prop}
/-- what was lent, at the end of the def -/
theorem outs_ok {L : Nat → Addr} (R : Rel K cn L O' e σ H') : ∀ {as : List Sl} {vs : List V} {n : Nat} {outs : List D}, vs.length = as.length → (∀ (i j : Nat) (d : D), as[i]? = some (.own (some j) d) → ∃ a, vs[i]? = some (.ref a) ∧ L (n + i) = a) → outsOf n as e = some outs → OutsOk K cn O' H' vs as outs
  | [], [], n, outs, _, _, h => by simp only [outsOf, Option.some.injEq] at h; subst h; exact .nil
  | [], _ :: _, _, _, l, _, _ => by simp at l
  | _ :: _, [], _, _, l, _, _ => by simp at l
  | a :: as, v :: vs, n, outs, l, hL, h => by
    have hL' : ∀ (i j : Nat) (d : D), as[i]? = some (.own (some j) d) → ∃ a, vs[i]? = some (.ref a) ∧ L (n + 1 + i) = a := fun i j d q => by
      obtain ⟨b, hb, e⟩ := hL (i + 1) j d (by simpa using q)
      exact ⟨b, by simpa using hb, by rw [← e]; congr 1; omega⟩
    have go : ∀ {o : List D}, outsOf (n + 1) as e = some o → OutsOk K cn O' H' vs as o := fun z => outs_ok R (by simpa using l) hL' z
    cases a with
    | dead => exact .dead (go h)
    | val d => exact .val (go h)
    | own m d =>
      cases m with
      | none => exact .give (go h)
      | some j =>
        simp only [outsOf] at h
        split at h
        · rename_i i d' he
          split at h
          · rename_i ei
            subst ei
            simp only [Option.map_eq_some_iff] at h
            obtain ⟨o, ho, rfl⟩ := h
            obtain ⟨b, hb, eb⟩ := hL 0 j d (by simp)
            simp at hb
            subst hb
            obtain ⟨c, hc, oc, cc⟩ := R.own _ _ _ he
            have := R.lent _ _ _ he
            rw [hc] at this
            cases this
            rw [Nat.add_zero] at eb
            subst eb
            exact .lent oc cc (go ho)
          · cases h
        · cases h
theorem outs_at : ∀ {as : List Sl} {n : Nat} {outs : List D}, outsOf n as e = some outs → ∀ (i j : Nat) (d : D), as[i]? = some (.own (some j) d) → ∃ d', e[n + i]? = some (.own (some (n + i)) d')
  | [], n, outs, _, i, j, d, q => by simp at q
  | a :: as, n, outs, h, i, j, d, q => by
    have go : ∀ {o : List D}, outsOf (n + 1) as e = some o → ∀ i, as[i]? = some (.own (some j) d) → ∃ d', e[n + (i + 1)]? = some (.own (some (n + (i + 1))) d') := fun {o} ho i hi => by
      have := outs_at ho i j d hi
      rw [show n + 1 + i = n + (i + 1) by omega] at this
      exact this
    cases i with
    | succ i =>
      have q' : as[i]? = some (.own (some j) d) := by simpa using q
      cases a with
      | own m d0 =>
        cases m with
        | some m =>
          simp only [outsOf] at h
          split at h
          · split at h
            · simp only [Option.map_eq_some_iff] at h
              obtain ⟨o, ho, _⟩ := h
              exact go ho i q'
            · cases h
          · cases h
        | none => exact go h i q'
      | _ => exact go h i q'
    | zero =>
      simp at q
      subst q
      simp only [outsOf] at h
      split at h
      · rename_i m d' he
        split at h
        · rename_i em
          subst em
          exact ⟨d', he⟩
        · cases h
      · cases h
end
/-- the context of a def's body -/
def ctOf (cn : Nat → Addr) (xd : Exd) (wd : Wd) (run : Nat → List Sl → Res) (vs : List V) (E : XK) : Ct := ⟨Lof vs, cn, xd, wd, run, fun cls d _ H => E cls d H⟩
theorem body_ok {K : PySem.W.Frag} {cn : Nat → Addr} {xd : Exd} {wd : Wd} {fns : Nat → Option Fn} {k f : Nat} {F : Fn} {N : List Str} {n : Nat} {vs : List V} {H : Hp} {Q : VK} {E : XK} (hf : fns f = some F) (hn : F.n = N.length) (h : spF K cn xd (runF wd fns (k + 1)) n f vs H Q E) :
    (ctOf cn xd wd (runF wd fns k) vs E).tss K F.body { nx := fun _ H' => Q .non H', rt := Q } (L2.start N vs) H := by
  obtain ⟨O, as, ok, dom, hl, h⟩ := h
  have el := ok.length
  have es : PV.start F.n as = label 0 as ++ List.replicate (N.length - vs.length) .dead := by unfold PV.start; rw [hn, el]
  have R : Rel K cn (Lof vs) O (PV.start F.n as) (L2.start N vs) H := by rw [es]; exact ok.rel dom _
  have hm : ∀ a, Mine (PV.start F.n as) (L2.start N vs) a ↔ ArgM vs as a := fun a => by rw [es]; exact ok.mine _ a
  have hM : Mine (PV.start F.n as) (L2.start N vs) = ArgM vs as := funext fun a => propext (hm a)
  refine ⟨O, PV.start F.n as, R, ?_⟩
  rw [hM]
  simp only [runF, hf] at h
  have hL : ∀ (i j : Nat) (d : D), as[i]? = some (.own (some j) d) → ∃ a, vs[i]? = some (.ref a) ∧ Lof vs (0 + i) = a := fun i j d q => by
    obtain ⟨a, ha, _⟩ := ok.getOwn q
    exact ⟨a, ha, by rw [Nat.zero_add]; unfold Lof; rw [ha]⟩
  show Cs K cn (Lof vs) _ O H (ArgM vs as) (exs wd (runF wd fns k) F.body (PV.start F.n as)) _
  cases w : exs wd (runF wd fns k) F.body (PV.start F.n as) with
  | bad => rw [w] at h; exact h
  | ex c fs e' =>
    rw [w] at h
    simp only [endR] at h
    intro σ' O' H' R' s' m' cls d xo
    cases q : outsOf 0 as e' with
    | none => rw [q] at h; exact h.elim
    | some outs =>
      rw [q] at h
      exact h O' H' cls d s' R'.dom (outs_ok R' el hL q) xo
  | ok fl e' =>
    rw [w] at h
    cases fl with
    | brk => exact h.elim
    | cnt => exact h.elim
    | next =>
      simp only [endR] at h
      intro σ' O' H' R' s' m'
      cases q : outsOf 0 as e' with
      | none => rw [q] at h; exact h.elim
      | some outs =>
        rw [q] at h
        exact h .non O' H' s' R'.dom (outs_ok R' el hL q) (show Den K cn O' H' .non .non from .non)
    | ret fr d =>
      simp only [endR] at h
      intro σ' O' H' R' s' m' v g
      cases q : outsOf 0 as e' with
      | none => rw [q] at h; exact h.elim
      | some outs =>
        rw [q] at h
        refine h v O' H' s' R'.dom (outs_ok R' el hL q) ?_
        cases fr with
        | false => exact g
        | true =>
          obtain ⟨a, ea, oa, ca, nm, na⟩ := g
          refine ⟨a, ea, oa, ca, fun i j d0 qi hv => ?_, na⟩
          obtain ⟨d', hd'⟩ := outs_at q i j d0 qi
          rw [Nat.zero_add] at hd'
          have := R'.lent i i d' hd'
          obtain ⟨b, hb, eb⟩ := hL i j d0 qi
          rw [Nat.zero_add] at eb
          rw [eb] at this
          rw [hv] at hb
          cases hb
          exact nm ⟨i, _, d', hd', this⟩
/-- a def of the text, by its body's reading -/
theorem fnG_of {P : Program} {w : World} {K : PySem.W.Frag} {mg : Str → Option Value} {base : Heap} {k : Nat} {f : Addr} {name qual : Str} {params : Arguments} {body : List Stmt} {scope : Scope} {dV kV doc pm cdv ct oc : Value} {an od : Option Addr} {osl : Array (Option Value)} {N ps : List Str} {sp : Sp}
    (lk : K.lookup f = some ⟨oc, od, .func (PySem.W.fnOf name qual params body scope dV kV doc pm an cdv ct), osl⟩) (hcd : PySem.W.codeIn K cdv qual = true) (S : FnScope N ps scope) (len : ∀ vs H Q E, sp vs H Q E → vs.length = ps.length)
    (hbody : ∀ (A : Around) (outer : List Env) (s : Shared) (H : Hp) (vs : List V) (Q : VK) (E : XK), A.guards = some [] → Room k (A.deeper (envOfC qual scope s.heap.objs.size f cdv)) → sp vs H Q E →
      ∃ t, PSs (cxOf (CX P w) P w K mg base N qual scope f cdv A outer s H E) body t ∧ t { nx := fun _ H' => Q .non H', rt := Q } (L2.start N vs) H) :
    FnG P w K mg base (k + 1) f (PySem.W.fnOf name qual params body scope dV kV doc pm an cdv ct) ps sp := by
  refine ⟨len, fun A outer s H args us vs Q E hg hr e0 hb r hsp => ?_⟩
  have hl := len _ _ _ _ hsp
  have stays := fun b o e => (e0.bs b o e).1
  have KX : K.In s.heap := e0.mod.kin.keeps stays
  have hkind : ∀ y ∈ ps.zip us, scope.names.lookup y.1 = some .local ∨ (scope.names.lookup y.1 = some .cell ∧ ((cellsFrom (s.heap.objs.size + 1) scope.names []).lookup y.1).isSome = true) := by
    rintro ⟨n, v⟩ hy
    exact (S.par n (List.of_mem_zip hy).1).imp id fun q => ⟨q, PySem.W.cellsFrom_some _ _ _ (.inl q)⟩
  refine codeAny_call_function hr.depth (KX _ _ lk) rfl S.co S.gen rfl (PySem.W.codeRec_of KX hcd) (hb _ _ _ _ ?_)
  refine wpAny_newFunctionEnv_cells S.kind hkind fun env he s1 x => ?_
  subst he
  refine ⟨(e0.mod.nolimit.keeps stays).keeps x.toInCall.keep, codeAny_func ?_⟩
  obtain ⟨t, ht, hq⟩ := hbody A outer s H vs Q E hg (hr.deeper _) hsp
  have I := inv_start (CX := CX P w) (mg := mg) (E := E) S hr.hd e0 hl r x
  refine wpAny_mono (ht.run [] s1 (L2.start N vs) H _ I hq) (fun fl s' hs => ?_) fun e s' hs => hs
  cases fl with
  | ret u =>
    obtain ⟨v, σ', H', J, rv, q⟩ := hs
    exact ⟨v, H', J.os, J.bare, J.base, J.hok, rv, q⟩
  | next =>
    obtain ⟨σ', H', J, q⟩ := hs
    exact ⟨V.non, H', J.os, J.bare, J.base, J.hok, rfl, q⟩
  | brk => obtain ⟨_, _, _, q⟩ := hs; exact q.elim
  | cont => obtain ⟨_, _, _, q⟩ := hs; exact q.elim
end
end PV
/-! ## the static checks -/
namespace PV
open PySem L2 PyProof.Rows
inductive GK where
  | fn (f : Nat) | cls (c : Nat) | con (g : Nat)
  deriving DecidableEq
/-- what a law's text is known by -/
structure Gs where
  gl : List (Str × GK)
  shs : List (Nat × Nat × List Str × List (Option Nat))
  shm : List (Str × Nat × List Str × List (Option Nat))
  shk : List (Nat × Nat × List Str × List (Option Nat))
/-- what a block's names are known by -/
structure Sc where
  N : List Str
  tab : List (Str × NameKind)
  st : List Str
def Sc.blk (S : Sc) (scope : Scope) : Sc := ⟨S.N, scope.names.map fun (n, k) => if (k == .free && S.tab.lookup n == some .cell) then (n, .cell) else (n, k), (scope.names.filter fun p => p.2 == .local || p.2 == .cell).map (·.1)⟩
section
variable (G : Gs) (S : Sc)
def okNm (x : Str) : Bool := decide (x ≠ "__debug__") && decide (x ≠ "__classdict__")
def visB (x : Str) : Bool := S.tab.lookup x == some .local || S.tab.lookup x == some .cell || S.tab.lookup x == some .free
def nmB (i : Nat) (x : Str) : Bool := S.N[i]? == some x && visB S x && okNm x
def glB (x : Str) : Bool := S.tab.lookup x == some .globalImplicit && okNm x
/-- a name that is stored -/
def stB (i : Nat) (x : Str) : Bool := S.N[i]? == some x && S.st.contains x && okNm x
def stN : List Nat → List Expr → Bool
  | [], [] => true
  | i :: is, .Name x _ :: es => stB S i x && stN is es
  | _, _ => false
def tgB : Tg → Expr → Bool
  | .one i, .Name x _ => stB S i x
  | .many is, .Tuple es _ _ => stN S is es
  | _, _ => false
def conB : D → Const → Bool
  | .non, .none => true
  | .bl b, .bool c => b == c
  | .int i, .int j => decide (i = j)
  | .str x, .str y => decide (x = y)
  | _, _ => false
def noSet : Expr → Bool
  | .Set _ _ _ => false
  | _ => true
def noSl : Expr → Bool
  | .Slice _ _ _ _ => false
  | _ => true
def noComp : Expr → Bool
  | .ListComp _ _ _ _ => false
  | .SetComp _ _ _ _ => false
  | .DictComp _ _ _ _ _ => false
  | _ => true
def builtinNames : List Str := ["len", "tuple", "list", "int", "str", "repr", "all", "any", "sorted", "min", "max", "abs", "divmod", "sum", "bool", "isinstance", "range", "enumerate", "zip", "dict"]
def ownB (own : List Nat) (scope : Scope) : Bool := decide (scope.kind = .function) && own.all (fun i => decide (i < S.N.length)) && (scope.names.all fun y => scope.names.lookup y.1 == some y.2) &&
  (scope.names.all fun y => y.2 != .free || S.tab.lookup y.1 == some .cell || S.tab.lookup y.1 == some .free) && (scope.names.all fun y => !(y.2 == .local || y.2 == .cell) || (own.any fun i => S.N[i]? == some y.1) || !S.N.contains y.1)
def srcB (pl : Bool) (cs : List Expr → Bool) (sk : SrcK) (iter tg' : Expr) : Bool := match sk with
  | .plain => pl && cs [iter]
  | .range1 => (match iter with
    | .Call (.Name n _) [v] [] _ => decide (n = "range") && glB S n && noStar v && cs [v]
    | _ => false)
  | .range2 => (match iter with
    | .Call (.Name n _) [v, w] [] _ => decide (n = "range") && glB S n && noStar v && noStar w && cs [v, w]
    | _ => false)
  | .enum => (match iter, tg' with
    | .Call (.Name n _) [v] [] _, .Tuple _ _ _ => decide (n = "enumerate") && glB S n && noStar v && cs [v]
    | _, _ => false)
  | .items => (match iter, tg' with
    | .Call (.Attribute a n apos) [] [] pos, .Tuple _ _ _ => decide (n = "items") && noCall a && (apos.endLine == pos.line) && pl && cs [a]
    | _, _ => false)
  | _ => false
def condB (n : Bool) (c : Expr → Bool) (ifs : List Expr) : Bool := match ifs with
  | [] => n
  | [y] => !n && c y
  | _ => false
mutual
def chE : E → Sc → Expr → Bool
  | .var i, S, x => (match x with
    | .Name n _ => nmB S i n
    | _ => false)
  | .bor i, S, x => (match x with
    | .Name n _ => nmB S i n
    | _ => false)
  | .mov i, S, x => (match x with
    | .Name n _ => nmB S i n
    | _ => false)
  | .lend i, S, x => (match x with
    | .Name n _ => nmB S i n
    | _ => false)
  | .frz i, S, x => (match x with
    | .Name n _ => nmB S i n
    | _ => false)
  | .con d, _, x => (match x with
    | .Constant c _ _ => conB d c
    | _ => false)
  | .glo g, S, x => (match x with
    | .Name n _ => glB S n && G.gl.lookup n == some (.con g)
    | _ => false)
  | .bin op a b, S, x => (match x with
    | .BinOp a' op' b' _ => decide (op = op') && chE a S a' && chE b S b'
    | _ => false)
  | .neg a, S, x => (match x with
    | .UnaryOp .USub a' _ => chE a S a'
    | _ => false)
  | .cmp op a b, S, x => (match x with
    | .Compare a' [op'] [b'] _ => decide (op = op') && noSet b' && chE a S a' && chE b S b'
    | _ => false)
  | .chn o1 o2 a b c, S, x => (match x with
    | .Compare a' [p1, p2] [b', c'] _ => decide (o1 = p1) && decide (o2 = p2) && noSet c' && chE a S a' && chE b S b' && chE c S c'
    | _ => false)
  | .and es, S, x => (match x with
    | .BoolOp .And vs _ => !es.isNil && es.plain && chEs es S vs
    | _ => false)
  | .or es, S, x => (match x with
    | .BoolOp .Or vs _ => !es.isNil && es.plain && chEs es S vs
    | _ => false)
  | .not a, S, x => (match x with
    | .UnaryOp .Not a' _ => chE a S a'
    | _ => false)
  | .ife c a b, S, x => (match x with
    | .IfExp c' a' b' _ => chE c S c' && chE a S a' && chE b S b'
    | _ => false)
  | .tup es, S, x => (match x with
    | .Tuple vs _ _ => chEs es S vs
    | _ => false)
  | .lst es, S, x => (match x with
    | .List vs _ => chEs es S vs
    | _ => false)
  | .dic t es, S, x => (match x with
    | .Dict ks vs _ => (es.isNil && ks.isEmpty && vs.isEmpty) || (!es.isNil && !t && !ks.isEmpty && decide (ks.length ≤ 15) && decide (ks.length = vs.length) && chPs es S ks vs)
    | _ => false)
  | .idx a i, S, x => (match x with
    | .Subscript a' i' _ => noSl i' && chE a S a' && chE i S i'
    | _ => false)
  | .slc a lo hi, S, x => (match x with
    | .Subscript a' (.Slice lo' hi' none _) _ => chE a S a' && (match lo' with
      | none => lo.isNop
      | some l => !lo.isNop && chE lo S l) && (match hi' with
      | none => hi.isNop
      | some l => !hi.isNop && chE hi S l)
    | _ => false)
  | .rev a, S, x => (match x with
    | .Subscript a' (.Slice none none (some (.UnaryOp .USub (.Constant (.int 1) _ _) _)) _) _ => chE a S a'
    | _ => false)
  | .nop, _, _ => false
  | .fld a f, S, x => (match x with
    | .Attribute a' f' _ => decide (f = f') && noCall a' && chE a S a'
    | _ => false)
  | .prp a f, S, x => (match x with
    | .Attribute a' f' _ => decide (f = f') && noCall a' && chE a S a'
    | _ => false)
  | .cal f es ks pm, S, x => (match x with
    | .Call (.Name n _) vs kws _ => glB S n && G.gl.lookup n == some (.fn f) && (match kwNm kws with
      | some names => G.shs.contains (f, vs.length, names, pm)
      | none => false) && vs.all noStar && es.plain && ks.plain && decide (es.len = vs.length) && decide (ks.len = kws.length) && chEs es S vs && chKs ks S kws
    | _ => false)
  | .mth a m es ks pm, S, x => (match x with
    | .Call (.Attribute a' m' apos) vs kws pos => decide (m = m') && noCall a' && (match kwNm kws with
      | some names => G.shm.contains (m, vs.length, names, pm)
      | none => false) && decide (vs.length + kws.length < 29) && (apos.endLine == pos.line) && vs.all noStar && es.plain && ks.plain && decide (es.len = vs.length) && decide (ks.len = kws.length) && chE a S a' && chEs es S vs && chKs ks S kws
    | _ => false)
  | .mak c es ks pm, S, x => (match x with
    | .Call (.Name n _) vs kws _ => glB S n && G.gl.lookup n == some (.cls c) && (match kwNm kws with
      | some names => G.shk.contains (c, vs.length, names, pm)
      | none => false) && vs.all noStar && es.plain && ks.plain && decide (es.len = vs.length) && decide (ks.len = kws.length) && chEs es S vs && chKs ks S kws
    | _ => false)
  | .give a, S, x => chE a S x
  | .blt b es, S, x => (match x with
    | .Call (.Name n _) (v :: vs) [] _ => decide (n = b.nm) && glB S n && (v :: vs).all noStar && chEs es S (v :: vs)
    | _ => false)
  | .bmt m a es, S, x => (match x with
    | .Call (.Attribute a' m' apos) vs [] pos => decide (m' = m.nm) && noCall a' && vs.all noStar && decide (vs.length < 30) && (apos.endLine == pos.line) && chE a S a' && chEs es S vs
    | _ => false)
  | .isi a cs, S, x => (match cs, x with
    | [c], .Call (.Name n _) [a', .Name y _] [] _ => decide (n = "isinstance") && glB S n && noStar a' && chE a S a' && glB S y && (match c with
      | .ty t => builtinNames.contains y && bootBuiltins y == some (.type t)
      | .own k => G.gl.lookup y == some (.cls k))
    | _, _ => false)
  | .lc tg sk src own cond el, S, x => (match x with
    | .ListComp el' [⟨tg', iter, ifs, isa⟩] scope _ => decide (isa = 0) && ownB S own scope && tg.slots.all (own.contains ·) && tgB (S.blk scope) tg tg' && noSet iter && srcB S src.plain (fun ys => chEs src S ys) sk iter tg' && condB cond.isNop (fun y => chE cond (S.blk scope) y) ifs && chE el (S.blk scope) el'
    | _ => false)
  | .lc2 tg sk src own cond tg1 sk1 src1 cond1 el, S, x => (match x with
    | .ListComp el' [⟨tg', iter, ifs, isa⟩, ⟨tg1', iter1, ifs1, isb⟩] scope _ => decide (isa = 0) && decide (isb = 0) && ownB S own scope && tg.slots.all (own.contains ·) && tg1.slots.all (own.contains ·) && tgB (S.blk scope) tg tg' && tgB (S.blk scope) tg1 tg1' && noSet iter && noSet iter1 && srcB S src.plain (fun ys => chEs src S ys) sk iter tg' && srcB (S.blk scope) src1.plain (fun ys => chEs src1 (S.blk scope) ys) sk1 iter1 tg1' && condB cond.isNop (fun y => chE cond (S.blk scope) y) ifs && condB cond1.isNop (fun y => chE cond1 (S.blk scope) y) ifs1 && chE el (S.blk scope) el'
    | _ => false)
  | .dc tg sk src own cond kx vx, S, x => (match x with
    | .DictComp kx' vx' [⟨tg', iter, ifs, isa⟩] scope _ => decide (isa = 0) && ownB S own scope && tg.slots.all (own.contains ·) && tgB (S.blk scope) tg tg' && noSet iter && srcB S src.plain (fun ys => chEs src S ys) sk iter tg' && condB cond.isNop (fun y => chE cond (S.blk scope) y) ifs && chE kx (S.blk scope) kx' && chE vx (S.blk scope) vx'
    | _ => false)
def chEs : Es → Sc → List Expr → Bool
  | .nil, _, xs => xs.isEmpty
  | .cons a r, S, xs => (match xs with
    | y :: ys => noStar y && chE a S y && chEs r S ys
    | [] => false)
  | .star a r, S, xs => (match xs with
    | .Starred y _ :: ys => chE a S y && chEs r S ys
    | _ => false)
def chKs : Es → Sc → List Keyword → Bool
  | .nil, _, xs => xs.isEmpty
  | .cons a r, S, xs => (match xs with
    | ⟨_, y, _⟩ :: ys => chE a S y && chKs r S ys
    | [] => false)
  | .star _ _, _, _ => false
def chPs : Es → Sc → List (Option Expr) → List Expr → Bool
  | .nil, _, ks, vs => ks.isEmpty && vs.isEmpty
  | .cons k (.cons v r), S, ks, vs => (match ks, vs with
    | some k' :: ks, v' :: vs => chE k S k' && chE v S v' && chPs r S ks vs
    | _, _ => false)
  | _, _, _, _ => false
end
/-- what a value's comprehension does to the name on its left -/
def swN (x : Str) (p : Pos) : Expr → Bool
  | .ListComp _ _ s q => S.tab.lookup x == some .local && p.line == q.line && !(s.names.any fun (n, k) => n == x && (k == .local || k == .cell))
  | .SetComp _ _ s q => S.tab.lookup x == some .local && p.line == q.line && !(s.names.any fun (n, k) => n == x && (k == .local || k == .cell))
  | .DictComp _ _ _ s q => S.tab.lookup x == some .local && p.line == q.line && !(s.names.any fun (n, k) => n == x && (k == .local || k == .cell))
  | _ => false
def isLc : Expr → Bool
  | .ListComp _ _ _ _ => true
  | _ => false
def isLcE : E → Bool
  | .lc _ _ _ _ _ _ => true
  | .lc2 _ _ _ _ _ _ _ _ _ _ => true
  | _ => false
def noTup : Expr → Bool
  | .Tuple _ _ _ => false
  | _ => true
/-- two or three names on one line, stored from the right -/
def parB (ts : List (Nat × Bool)) (xs : List (Str × Pos)) (vs : List Expr) : Bool :=
  decide (ts.length = xs.length) && (ts.length == 2 || ts.length == 3) && decide (vs.length = xs.length) && vs.all noStar && (ts.zip xs).all (fun p => S.N[p.1.1]? == some p.2.1 && S.tab.lookup p.2.1 == some .local && p.2.2.line == ((xs.map fun q => q.2.line).head?).getD 0) &&
  decide (xs.map (·.1)).Nodup && !(vs.all (foldedForSure 8)) && !(vs.all (constantsAlone 8))
/-- the same, where some name is a cell: by way of a tuple -/
def parT (ts : List (Nat × Bool)) (xs : List (Str × Pos)) (vs : List Expr) : Bool :=
  decide (ts.length = xs.length) && (ts.length == 2 || ts.length == 3) && decide (vs.length = xs.length) && stN S (ts.map (·.1)) (xs.map fun q => .Name q.1 q.2) && !(xs.all fun q => S.tab.lookup q.1 == some .local)
def nmsP : List Expr → Option (List (Str × Pos))
  | [] => some []
  | .Name x p :: r => (nmsP r).map ((x, p) :: ·)
  | _ => none
def chTu : List Tu → List Expr → Bool
  | [], [] => true
  | .nam i :: ts, .Name x _ :: es => stB S i x && chTu ts es
  | .sub j i :: ts, .Subscript (.Name x _) b _ :: es => nmB S j x && noSl b && chE G i S b && chTu ts es
  | _, _ => false
mutual
def chS : PV.S → Stmt → Bool
  | .asg i _ a, x => (match x with
    | .Assign [.Name n p] v _ => stB S i n && chE G a S v && (!(swN S n p v) || (isLcE a && S.tab.lookup n == some .local))
    | _ => false)
  | .par ts es, x => (match x with
    | .Assign [.Tuple ns _ _] (.Tuple vs _ _) _ => (match nmsP ns with
      | some xs => (parB S ts xs vs || parT S ts xs vs) && chEs G es S vs
      | none => false)
    | _ => false)
  | .unp ts a, x => (match x with
    | .Assign [.Tuple ns _ _] v _ => ns.all noStar && decide (ns.length = ts.length) && noTup v && chTu G S ts ns && chE G a S v
    | _ => false)
  | .sto j i a, x => (match x with
    | .Assign [.Subscript (.Name n _) b _] v _ => nmB S j n && noSl b && chE G i S b && chE G a S v
    | _ => false)
  | .att j f a, x => (match x with
    | .Assign [.Attribute (.Name n _) g _] v _ => nmB S j n && decide (f = g) && chE G a S v
    | _ => false)
  | .exp a, x => (match x with
    | .Expr v _ => noComp v && chE G a S v
    | _ => false)
  | .ret a, x => (match x with
    | .Return (some v) _ => chE G a S v
    | _ => false)
  | .retN, x => (match x with
    | .Return none _ => true
    | _ => false)
  | .pas, x => (match x with
    | .Pass _ => true
    | _ => false)
  | .brk, x => (match x with
    | .Break _ => true
    | _ => false)
  | .cnt, x => (match x with
    | .Continue _ => true
    | _ => false)
  | .ife c a b, x => (match x with
    | .If c' a' b' _ => chE G c S c' && chSs a a' && chSs b b'
    | _ => false)
  | .for tg sk src b, x => (match x with
    | .For tg' iter b' [] _ => tgB S tg tg' && noSet iter && srcB S src.plain (fun ys => chEs G src S ys) sk iter tg' && chSs b b'
    | _ => false)
  | .whl c b, x => (match x with
    | .While c' b' [] _ => chE G c S c' && chSs b b'
    | _ => false)
  | .nev, _ => true
def chSs : Ss → List Stmt → Bool
  | .nil, xs => xs.isEmpty
  | .cons s r, xs => (match xs with
    | y :: ys => chS s y && chSs r ys
    | [] => false)
end
end
end PV
/-! ## what is checked is sound -/
namespace PV
open PySem L2 PyProof.Rows
noncomputable section
/-- what is known of the text's defs and classes -/
structure WldOk (X : Cx) (C : Ct) (G : Gs) (k : Nat) : Prop where
  bl : ∀ x ∈ builtinNames, X.mg x = none
  fn : ∀ x f, G.gl.lookup x = some (.fn f) → ∀ n ks pm, G.shs.contains (f, n, ks, pm) = true → ∃ fa fd ps, X.mg x = some (.ref fa) ∧ PySem.W.keepIn X.K (.ref fa) = true ∧
    FnG X.prog X.w X.K X.mg X.base (2 * k) fa fd ps (spF X.K C.cn C.xd C.run ps.length f) ∧ ShOk X.K C.cn fd ps (dfls (C.wd.npar f) (C.wd.dfl f)) n ks pm
  cls : ∀ x c, G.gl.lookup x = some (.cls c) → X.mg x = some (.ref (C.cn c))
  mkr : ∀ c n ks pm, G.shk.contains (c, n, ks, pm) = true → ∃ g fa fd ps, C.wd.ini c = some g ∧ Mk X.K (C.cn c) fa ∧ FnG X.prog X.w X.K X.mg X.base (2 * k) fa fd ps (spF X.K C.cn C.xd C.run ps.length g) ∧ ShOk X.K C.cn fd ps (dfls (C.wd.npar g) (C.wd.dfl g)) (n + 1) ks pm
  con : ∀ x g, G.gl.lookup x = some (.con g) → ∃ u, X.mg x = some u ∧ ∀ d, C.wd.glos[g]? = some d → Glo X.K C.cn u d
  mth : ∀ m n ks pm, G.shm.contains (m, n, ks, pm) = true → ∀ c g, C.wd.mth c m = some g → MthOk X C (2 * k) n ks pm m c g
  prp : ∀ f c g, C.wd.prp c f = some g → PrpOk X C (2 * k) f c g
  fld : Flds X.K C.cn C.wd
  isf : IsF X.K C.cn C.wd.nc
/-- what is known of a block -/
structure CtxOk (X : Cx) (C : Ct) (G : Gs) (S : Sc) (k : Nat) : Prop where
  hN : X.N = S.N
  nd : X.N.Nodup
  tab : X.env.scope.names = S.tab
  kd : X.env.scope.kind = .function
  st : ∀ x, S.st.contains x = true → Loc X.env.scope x ∧ (X.fn x = true ∨ X.env.scope.names.lookup x = some .local)
  calm : X.calm = true
  gd : X.A.guards = some []
  rm : Room (2 * k + 1) X.A
  pass : PassesOwn (model X.prog X.w) X.A X.env X.xe
  tk : Takes X C.W
  wld : WldOk X C G k
section
variable {X : Cx} {C : Ct} {G : Gs} {S : Sc} {k : Nat} {pos p : Pos} {x : Str} {i : Nat}
theorem okNm_ok (h : okNm x = true) : (x == ("__debug__" : Str)) = false ∧ (x == ("__classdict__" : Str)) = false := by
  simp only [okNm, Bool.and_eq_true, decide_eq_true_eq] at h
  exact ⟨beq_eq_false_iff_ne.mpr h.1, beq_eq_false_iff_ne.mpr h.2⟩
theorem CtxOk.nm (K : CtxOk X C G S k) (h : nmB S i x = true) : X.N[i]? = some x ∧ Vis X.env.scope x ∧ (x == ("__debug__" : Str)) = false ∧ (x == ("__classdict__" : Str)) = false := by
  simp only [nmB, Bool.and_eq_true, beq_iff_eq, visB, Bool.or_eq_true] at h
  obtain ⟨⟨h1, h2⟩, h3⟩ := h
  refine ⟨by rw [K.hN]; exact h1, ?_, okNm_ok h3⟩
  unfold Vis
  rw [K.tab]
  rcases h2 with (h2 | h2) | h2
  · exact .inl h2
  · exact .inr (.inl h2)
  · exact .inr (.inr h2)
theorem CtxOk.gl (K : CtxOk X C G S k) (h : glB S x = true) : Gl X x ∧ (x == ("__debug__" : Str)) = false := by
  simp only [glB, Bool.and_eq_true, beq_iff_eq] at h
  refine ⟨?_, (okNm_ok h.2).1⟩
  show X.env.scope.names.lookup x = _
  rw [K.tab]
  exact h.1
theorem CtxOk.sto (K : CtxOk X C G S k) (h : stB S i x = true) : X.N[i]? = some x ∧ Loc X.env.scope x ∧ (X.fn x = true ∨ X.env.scope.names.lookup x = some .local) := by
  simp only [stB, Bool.and_eq_true, beq_iff_eq] at h
  have := K.st x h.1.2
  exact ⟨by rw [K.hN]; exact h.1.1, this.1, this.2⟩
theorem CtxOk.hu (K : CtxOk X C G S k) : X.A.units + 65 < cLine := by have := K.rm.un; omega
theorem CtxOk.hu1 (K : CtxOk X C G S k) : X.A.units + 1 < cLine := by have := K.rm.un; omega
theorem CtxOk.hu32 (K : CtxOk X C G S k) : X.A.units + 32 < cLine := by have := K.rm.un; omega
theorem CtxOk.rm0 (K : CtxOk X C G S k) : Room (2 * k) X.A := K.rm.mono (Nat.le_succ _)
theorem noSet_mark {b : Expr} {op : CmpOp} (h : noSet b = true) : behindInMarks op b = false := by
  cases b <;> first | rfl | cases h
theorem noSet_fold {b : Expr} {env : Env} (h : noSet b = true) (v : Value) : foldedSetIterable b env v = pure v := by
  cases b <;> first | rfl | cases h
theorem noSl_plain {b : Expr} (h : noSl b = true) : PlainIx b := by
  intro o i
  cases b <;> first | rfl | cases h
/-- a conditional expression as a test -/
theorem t_ife {c a b : Expr} {c' a' b' : E} (hc : PT X c (C.tt X.K c')) (ha : PT X a (C.tt X.K a')) (hb : PT X b (C.tt X.K b')) : PT X (.IfExp c a b pos) (C.tt X.K (.ife c' a' b')) := by
  refine ⟨fun pins s σ H Q I h => ?_⟩
  have h2 := tBind (C := C) (a' := c') (kf := kB) (f := fun t e => if t = true then (C.ev a' e).tst else (C.ev b' e).tst) (m' := fun e => (C.ev (.ife c' a' b') e).tst) h fun e => by
    simp only [Ct.ev, ev, Out.tst]
    rw [Out.bind_assoc]
    congr 1
    funext t e1
    cases t <;> rfl
  show wpAny (model X.prog X.w) X.A (do if ← isTrue c X.env (eval c X.env) then isTrue a X.env (eval a X.env) else isTrue b X.env (eval b X.env)) _ _ s
  refine wpAny_bind (thn (hc.run pins s σ H _ I h2) fun t s1 ⟨H1, I1, q⟩ => ?_)
  cases t with
  | true => exact ha.run pins s1 σ H1 Q I1 q
  | false => exact hb.run pins s1 σ H1 Q I1 q
/-- what has no test of its own -/
def plainT : Expr → Bool
  | .UnaryOp .Not _ _ => false
  | .BoolOp _ _ _ => false
  | .IfExp _ _ _ _ => false
  | .Compare _ _ _ _ => false
  | _ => true
theorem plainT_ok {x : Expr} {env : Env} (h : plainT x = true) (whole : Sem Value) : isTrue x env whole = (do let v ← whole; standAt x.pos; holding [v] (truthy v)) := by
  cases x with
  | UnaryOp op a p => cases op <;> first | rfl | cases h
  | BoolOp _ _ _ => cases h
  | IfExp _ _ _ _ => cases h
  | Compare _ _ _ _ => cases h
  | _ => rfl
theorem both {x : Expr} {a' : E} (h : PE X x (C.te X.K a')) (p : plainT x = true) : PE X x (C.te X.K a') ∧ PT X x (C.tt X.K a') := ⟨h, t_plain h (plainT_ok p)⟩
theorem lookup_map {T : List (Str × NameKind)} : ∀ {names : List (Str × NameKind)} {x : Str} {k : NameKind}, k ≠ .free → names.lookup x = some k →
    (names.map fun (n, k) => if (k == NameKind.free && T.lookup n == some NameKind.cell) then (n, NameKind.cell) else (n, k)).lookup x = some k
  | [], _, _, _, h => by simp at h
  | (n, j) :: r, x, k, hk, h => by
    show List.lookup x ((if (j == NameKind.free && T.lookup n == some NameKind.cell) = true then (n, NameKind.cell) else (n, j)) :: _) = _
    have hs : (if (j == NameKind.free && T.lookup n == some NameKind.cell) = true then (n, NameKind.cell) else (n, j)).1 = n := by split <;> rfl
    cases hx : x == n with
    | true =>
      simp only [List.lookup_cons, hx, Option.some.injEq] at h
      subst h
      have : (j == NameKind.free) = false := beq_eq_false_iff_ne.mpr hk
      simp only [this, Bool.false_and, Bool.false_eq_true, if_false, List.lookup_cons, hx]
    | false =>
      simp only [List.lookup_cons, hx] at h
      rw [List.lookup_cons, hs, hx]
      exact lookup_map (T := T) hk h
/-- the context of a comprehension's block -/
theorem CtxOk.blk {own : List Nat} {scope : Scope} (K : CtxOk X C G S k) (ho : ownB S own scope = true) (s : Shared) (H : Hp) (Cc : Addr) (cl : List (Str × Addr)) (fp : List Addr) : CtxOk (X.blk s H scope (compEnvC scope cl Cc X.env) fp) C.in G (S.blk scope) k := by
  simp only [ownB, Bool.and_eq_true, decide_eq_true_eq] at ho
  obtain ⟨⟨⟨⟨h1, _⟩, h3⟩, _⟩, _⟩ := ho
  have ht : (compEnvC scope cl Cc X.env).scope.names = (S.blk scope).tab := by
    show (scope.names.map fun (n, k) => if (k == NameKind.free && X.env.scope.kind == ScopeKind.function && X.env.kindOf n == some NameKind.cell) then (n, NameKind.cell) else (n, k)) = _
    unfold Sc.blk Env.kindOf
    rw [K.kd, K.tab]
    simp
  refine ⟨K.hN, K.nd, ht, h1, fun x hx => ?_, K.calm, K.gd, K.rm, PassesOwn.never, fun u s' ⟨_, _, _, _, _, _, _, _, _, _, _, _, _, _, _, _, z⟩ => z.elim, ?_⟩
  · simp only [Sc.blk, List.contains_eq_mem, List.mem_map, List.mem_filter, decide_eq_true_eq] at hx
    obtain ⟨⟨n, j⟩, ⟨hm, hj⟩, rfl⟩ := hx
    have hl := List.all_eq_true.mp h3 _ hm
    simp only [beq_iff_eq] at hl
    simp only [Bool.or_eq_true, beq_iff_eq] at hj
    have hlk : (compEnvC scope cl Cc X.env).scope.names.lookup n = some j := by
      rw [ht]
      exact lookup_map (fun z => by rw [z] at hj; rcases hj with hj | hj <;> cases hj) hl
    refine ⟨?_, ?_⟩
    · show (compEnvC scope cl Cc X.env).scope.names.lookup n = _ ∨ (compEnvC scope cl Cc X.env).scope.names.lookup n = _
      rw [hlk]
      rcases hj with hj | hj
      · subst hj; exact .inl rfl
      · subst hj; exact .inr rfl
    · rcases hj with hj | hj
      · subst hj; exact .inr hlk
      · subst hj
        refine .inl ?_
        show (scope.names.lookup n == some .cell) = true
        rw [hl]
        rfl
  · exact ⟨K.wld.bl, K.wld.fn, K.wld.cls, K.wld.mkr, K.wld.con, fun m n ks pm hc c g hm => ⟨(K.wld.mth m n ks pm hc c g hm).cls, (K.wld.mth m n ks pm hc c g hm).ex⟩, fun f c g hp => ⟨(K.wld.prp f c g hp).cls, (K.wld.prp f c g hp).ex⟩, K.wld.fld, K.wld.isf⟩
def ownP (N : List Str) (own : List Nat) : List (Str × Nat) := own.map fun i => (N.getD i Str.empty, i)
theorem ownP_snd {N : List Str} : ∀ {own : List Nat}, (ownP N own).map (·.2) = own
  | [] => rfl
  | i :: is => by
    have := ownP_snd (N := N) (own := is)
    simp only [ownP, List.map_cons, List.cons.injEq, true_and] at this ⊢
    exact this
theorem CtxOk.blkOk {own : List Nat} {scope : Scope} (K : CtxOk X C G S k) (ho : ownB S own scope = true) : BlkOk X.N X.env.scope scope (ownP S.N own) := by
  simp only [ownB, Bool.and_eq_true, decide_eq_true_eq] at ho
  obtain ⟨⟨⟨⟨h1, h2⟩, h3⟩, h4⟩, h5⟩ := ho
  refine ⟨h1, fun y hy => ?_, fun p hp => ?_, fun y hy hf => ?_, fun y hy hl => ?_⟩
  · have := List.all_eq_true.mp h3 y hy
    simpa using this
  · simp only [ownP, List.mem_map] at hp
    obtain ⟨i, hi, rfl⟩ := hp
    have := List.all_eq_true.mp h2 i hi
    simp only [decide_eq_true_eq] at this
    rw [K.hN, List.getD_eq_getElem?_getD, List.getElem?_eq_getElem this]
    rfl
  · have := List.all_eq_true.mp h4 y hy
    rw [hf] at this
    simp only [bne_self_eq_false, Bool.false_or, Bool.or_eq_true, beq_iff_eq] at this
    rw [K.tab]
    exact this
  · have := List.all_eq_true.mp h5 y hy
    simp only [Bool.or_eq_true, Bool.not_eq_true', List.any_eq_true, beq_iff_eq] at this
    rcases this with (this | ⟨i, hi, hq⟩) | this
    · exfalso
      rcases hl with hl | hl <;> (rw [hl] at this; simp at this)
    · refine .inl (List.mem_map.mpr ⟨(S.N.getD i Str.empty, i), List.mem_map.mpr ⟨i, hi, rfl⟩, ?_⟩)
      rw [List.getD_eq_getElem?_getD, hq]
      rfl
    · refine .inr ?_
      rw [K.hN]
      simpa using this
end
end
end PV
/-! ## soundness: expressions -/
namespace PV
open PySem L2 PyProof.Rows
noncomputable section
section
variable {X : Cx} {C : Ct} {G : Gs} {S : Sc} {k : Nat} {pos p : Pos} {x : Str} {i : Nat}
theorem s_give {a' : E} {y : Expr} (h : PE X y (C.te X.K a')) : PE X y (C.te X.K (.give a')) := by
  refine PE.imp h fun σ H Q q => ?_
  refine (PV.tI.bind (k := C.k X.K) (m := C.ev a') (f := giveR) q).imp fun v H1 ⟨O, e, r, e1, O1, A, c⟩ => ?_
  cases r with
  | fresh d => exact c v O1 H1 A.R A.ok A.s A.m fun _ => A.new rfl
  | _ => exact c.elim
theorem set_self {σ : L2.St} {i : Nat} {w : Option V} (h : σ[i]? = some w) : σ.set i w = σ := by
  apply List.ext_getElem?
  intro j
  by_cases e : i = j
  · subst e
    rw [List.getElem?_set_self (List.getElem?_eq_some_iff.mp h).1, h]
  · rw [List.getElem?_set_ne e]
theorem s_frz (hN : X.N[i]? = some x) (hv : Vis X.env.scope x) (hd : (x == ("__debug__" : Str)) = false) (hcd : (x == ("__classdict__" : Str)) = false) : PE X (.Name x pos) (C.te X.K (.frz i)) := by
  refine PE.imp (pe_var hN hv hd hcd) fun σ H Q ⟨O, e, R, h⟩ => ?_
  simp only [Ct.ev, ev] at h
  split at h
  · rename_i d q
    obtain ⟨a, ha, oa, c⟩ := R.own i none d q
    refine ⟨_, ha, ?_⟩
    have mi : Mine e σ a := ⟨i, none, d, q, ha⟩
    have nm : ¬ Mine (e.set i .dead) σ a := fun z => z.kill.2 none d a q ha (fun j n l' d' q' w => n (R.inj j i l' none d' d a q' q w ha)) rfl
    have dn : Den X.K C.cn (fun b => O b ∧ b ≠ a) H (.ref a) d := (c.ext Ext.freeze fun _ q => q).den fun z => z.2 rfl
    have R3 := ((R.kill i).freeze nm).setVal i dn
    rw [set_self ha, List.set_set] at R3
    refine h _ _ H R3 dn (Step.freeze (.inl mi) .refl) (fun b z => ?_) fun z => nomatch z
    have z' : Mine (e.set i (.val d)) (σ.set i (some (.ref a))) b := by rw [set_self ha]; exact z
    exact z'.setVal
  · rename_i d q
    obtain ⟨v, hv, dn⟩ := R.val i d q
    exact ⟨v, hv, h.val R dn⟩
  · exact h.elim
theorem tgs_snd (K : CtxOk X C G S k) : ∀ {is : List Nat} {es : List Expr}, stN S is es = true → PGs X es (gNs is) ∧ es.length = is.length ∧ es.all noStar = true
  | [], [], _ => ⟨pgs_nil, rfl, rfl⟩
  | i :: is, .Name x p :: es, h => by
    simp only [stN, Bool.and_eq_true] at h
    obtain ⟨h1, h2, h3⟩ := tgs_snd K h.2
    obtain ⟨a, b, c⟩ := K.sto h.1
    exact ⟨pgs_cons (pg_name K.nd a b c) h1 rfl, by simp [h2], by simp [noStar, h3]⟩
  | [], _ :: _, h => by simp [stN] at h
  | _ :: _, [], h => by simp [stN] at h
theorem tg_snd (K : CtxOk X C G S k) {tg : Tg} {e : Expr} (h : tgB S tg e = true) : PG X e (gT X.K tg) := by
  cases tg with
  | one i =>
    cases e <;> first | (cases h; done) | skip
    obtain ⟨a, b, c⟩ := K.sto h
    exact pg_name K.nd a b c
  | many is =>
    cases e <;> first | (cases h; done) | skip
    obtain ⟨h1, h2, h3⟩ := tgs_snd K h
    obtain ⟨l1, l2⟩ := asg_len (env := X.env) h3
    exact pg_tup K.calm h1 (by rw [l1, h2]) l2
theorem src_snd (K : CtxOk X C G S k) {pl : Bool} {cs : List Expr → Bool} {sk : SrcK} {src : Es} {iter tg' : Expr} (h : srcB S pl cs sk iter tg' = true) (h1 : pl = true → ∀ y, cs [y] = true → ∃ a, src = .cons a .nil ∧ PE X y (C.te X.K a)) (hs : ∀ ys, cs ys = true → PA X ys (C.ta X.K src)) : PI X tg' iter (iS X.K C sk src) := by
  unfold srcB at h
  cases sk with
  | plain =>
    simp only [Bool.and_eq_true] at h
    obtain ⟨a, rfl, ha⟩ := h1 h.1 _ h.2
    exact i_plain ha
  | range1 =>
    dsimp only at h
    split at h
    · simp only [Bool.and_eq_true, decide_eq_true_eq] at h
      obtain ⟨⟨⟨rfl, b⟩, c⟩, d⟩ := h
      exact i_rng1 (K.gl b).1 (K.wld.bl _ (by decide)) (hs _ d) c
    · cases h
  | range2 =>
    dsimp only at h
    split at h
    · simp only [Bool.and_eq_true, decide_eq_true_eq] at h
      obtain ⟨⟨⟨⟨rfl, b⟩, c⟩, c2⟩, d⟩ := h
      exact i_rng2 (K.gl b).1 (K.wld.bl _ (by decide)) (hs _ d) c c2
    · cases h
  | enum =>
    dsimp only at h
    split at h
    · simp only [Bool.and_eq_true, decide_eq_true_eq] at h
      obtain ⟨⟨⟨rfl, b⟩, c⟩, d⟩ := h
      exact i_enum (K.gl b).1 (K.wld.bl _ (by decide)) (hs _ d) c
    · cases h
  | items =>
    dsimp only at h
    split at h
    · simp only [Bool.and_eq_true, decide_eq_true_eq] at h
      obtain ⟨⟨⟨⟨rfl, b⟩, c⟩, d⟩, e⟩ := h
      obtain ⟨a, rfl, ha⟩ := h1 d _ e
      exact i_items ha b c
    · cases h
  | zip => cases h
theorem cond_snd {X : Cx} {C : Ct} {cond : E} {c : Expr → Bool} {ifs : List Expr} (h : condB cond.isNop c ifs = true) (hc : ∀ y, c y = true → PT X y (C.in.tt X.K cond)) : PTs X ifs (tCond X.K C cond) := by
  unfold condB at h
  unfold tCond
  split at h
  · rw [if_pos h]; exact pts_nil
  · simp only [Bool.and_eq_true, Bool.not_eq_true'] at h
    rw [if_neg (by rw [h.1]; exact fun z => nomatch z)]
    exact pts_one (hc _ h.2)
  · cases h
theorem con_snd {d : D} {c : Const} {j : Nat} (h : conB d c = true) : PE X (.Constant c j pos) (C.te X.K (.con d)) := by
  unfold conB at h
  split at h
  · exact s_non
  · cases (beq_iff_eq.mp h); exact s_bl
  · cases (of_decide_eq_true h); exact s_int
  · cases (of_decide_eq_true h); exact s_str
  · cases h
/-- an own list's slots, of the names that the block has -/
theorem lc_snd {elt tg' iter : Expr} {ifs : List Expr} {scope : Scope} {tg : Tg} {sk : SrcK} {src : Es} {own : List Nat} {cond el : E} (K : CtxOk X C G S k) (ho : ownB S own scope = true) (hsub : tg.slots.all (own.contains ·) = true) (hset : noSet iter = true) (hi : PI X tg' iter (iS X.K C sk src))
    (hg : tgB (S.blk scope) tg tg' = true) (hc : ∀ (s : Shared) (H : Hp) (A : Addr) (cl : List (Str × Addr)) (fp : List Addr), PTs (X.blk s H scope (compEnvC scope cl A X.env) fp) ifs (tCond X.K C cond))
    (he : ∀ (s : Shared) (H : Hp) (A : Addr) (cl : List (Str × Addr)) (fp : List Addr), PE (X.blk s H scope (compEnvC scope cl A X.env) fp) elt (C.in.te X.K el)) : PE X (.ListComp elt [⟨tg', iter, ifs, 0⟩] scope pos) (C.te X.K (.lc tg sk src own cond el)) := by
  refine PE.imp (pe_lc (g := gT X.K tg) K.calm K.nd hi (K.blkOk ho) (fun s H A cl fp => tg_snd (K.blk ho s H A cl fp) hg) hc he (noSet_fold hset)) fun σ H Q h => ?_
  rw [ownP_snd]
  exact c_lc (fun i hi => by simpa using List.all_eq_true.mp hsub i hi) h
theorem lc2_snd {elt tg' iter tg1' iter1 : Expr} {ifs ifs1 : List Expr} {scope : Scope} {tg tg1 : Tg} {sk sk1 : SrcK} {src src1 : Es} {own : List Nat} {cond cond1 el : E} (K : CtxOk X C G S k) (ho : ownB S own scope = true) (hsub : tg.slots.all (own.contains ·) = true) (hsub1 : tg1.slots.all (own.contains ·) = true) (hset : noSet iter = true) (hset1 : noSet iter1 = true) (hi : PI X tg' iter (iS X.K C sk src))
    (hg : tgB (S.blk scope) tg tg' = true) (hg1 : tgB (S.blk scope) tg1 tg1' = true) (hc : ∀ (s : Shared) (H : Hp) (A : Addr) (cl : List (Str × Addr)) (fp : List Addr), PTs (X.blk s H scope (compEnvC scope cl A X.env) fp) ifs (tCond X.K C cond))
    (hi1 : ∀ (s : Shared) (H : Hp) (A : Addr) (cl : List (Str × Addr)) (fp : List Addr), PI (X.blk s H scope (compEnvC scope cl A X.env) fp) tg1' iter1 (iS X.K C.in sk1 src1))
    (hc1 : ∀ (s : Shared) (H : Hp) (A : Addr) (cl : List (Str × Addr)) (fp : List Addr), PTs (X.blk s H scope (compEnvC scope cl A X.env) fp) ifs1 (tCond X.K C cond1))
    (he : ∀ (s : Shared) (H : Hp) (A : Addr) (cl : List (Str × Addr)) (fp : List Addr), PE (X.blk s H scope (compEnvC scope cl A X.env) fp) elt (C.in.te X.K el)) :
    PE X (.ListComp elt [⟨tg', iter, ifs, 0⟩, ⟨tg1', iter1, ifs1, 0⟩] scope pos) (C.te X.K (.lc2 tg sk src own cond tg1 sk1 src1 cond1 el)) := by
  refine PE.imp (pe_lc2 (g := gT X.K tg) (g1 := gT X.K tg1) (vs1 := tg1.slots) K.calm K.nd hi (K.blkOk ho) (by rw [ownP_snd]; exact fun i hi => by simpa using List.all_eq_true.mp hsub1 i hi) (fun s H A cl fp => tg_snd (K.blk ho s H A cl fp) hg) hc hi1 (fun s H A cl fp => tg_snd (K.blk ho s H A cl fp) hg1) hc1 he (noSet_fold hset) (fun _ => noSet_fold hset1)) fun σ H Q h => ?_
  rw [ownP_snd]
  exact c_lc2 (fun i hi => by simpa using List.all_eq_true.mp hsub i hi) (fun i hi => by simpa using List.all_eq_true.mp hsub1 i hi) h
theorem dc_snd {kx' vx' tg' iter : Expr} {ifs : List Expr} {scope : Scope} {tg : Tg} {sk : SrcK} {src : Es} {own : List Nat} {cond kx vx : E} (K : CtxOk X C G S k) (ho : ownB S own scope = true) (hsub : tg.slots.all (own.contains ·) = true) (hset : noSet iter = true) (hi : PI X tg' iter (iS X.K C sk src))
    (hg : tgB (S.blk scope) tg tg' = true) (hc : ∀ (s : Shared) (H : Hp) (A : Addr) (cl : List (Str × Addr)) (fp : List Addr), PTs (X.blk s H scope (compEnvC scope cl A X.env) fp) ifs (tCond X.K C cond))
    (hk : ∀ (s : Shared) (H : Hp) (A : Addr) (cl : List (Str × Addr)) (fp : List Addr), PE (X.blk s H scope (compEnvC scope cl A X.env) fp) kx' (C.in.te X.K kx))
    (hv : ∀ (s : Shared) (H : Hp) (A : Addr) (cl : List (Str × Addr)) (fp : List Addr), PE (X.blk s H scope (compEnvC scope cl A X.env) fp) vx' (C.in.te X.K vx)) : PE X (.DictComp kx' vx' [⟨tg', iter, ifs, 0⟩] scope pos) (C.te X.K (.dc tg sk src own cond kx vx)) := by
  refine PE.imp (pe_dc (g := gT X.K tg) K.calm K.nd hi (K.blkOk ho) (fun s H A cl fp => tg_snd (K.blk ho s H A cl fp) hg) hc hk hv (noSet_fold hset)) fun σ H Q h => ?_
  rw [ownP_snd]
  exact c_dc (fun i hi => by simpa using List.all_eq_true.mp hsub i hi) h
end
variable {G : Gs} {k : Nat}
mutual
theorem sndE : ∀ (e : E) {X : Cx} {C : Ct} {S : Sc} (K : CtxOk X C G S k) (x : Expr), chE G e S x = true → PE X x (C.te X.K e) ∧ PT X x (C.tt X.K e)
  | .var i, X, C, S, K, x, h => by
    cases x <;> first | (cases h; done) | skip
    obtain ⟨a, b, c, d⟩ := K.nm h
    exact both (s_var a b c d) rfl
  | .bor i, X, C, S, K, x, h => by
    cases x <;> first | (cases h; done) | skip
    obtain ⟨a, b, c, d⟩ := K.nm h
    exact both (s_bor a b c d) rfl
  | .mov i, X, C, S, K, x, h => by
    cases x <;> first | (cases h; done) | skip
    obtain ⟨a, b, c, d⟩ := K.nm h
    exact both (s_mov a b c d) rfl
  | .lend i, X, C, S, K, x, h => by
    cases x <;> first | (cases h; done) | skip
    obtain ⟨a, b, c, d⟩ := K.nm h
    exact both (s_lend a b c d) rfl
  | .frz i, X, C, S, K, x, h => by
    cases x <;> first | (cases h; done) | skip
    obtain ⟨a, b, c, d⟩ := K.nm h
    exact both (s_frz a b c d) rfl
  | .con d, X, C, S, K, x, h => by
    cases x <;> first | (cases h; done) | skip
    exact both (con_snd h) rfl
  | .glo g, X, C, S, K, x, h => by
    cases x <;> first | (cases h; done) | skip
    simp only [chE, Bool.and_eq_true, beq_iff_eq] at h
    obtain ⟨u, hu, hg⟩ := K.wld.con _ _ h.2
    exact both (s_glo (K.gl h.1).1 hu (K.gl h.1).2 hg) rfl
  | .bin op a b, X, C, S, K, x, h => by
    cases x <;> first | (cases h; done) | skip
    simp only [chE, Bool.and_eq_true, decide_eq_true_eq] at h
    obtain ⟨⟨rfl, ha⟩, hb⟩ := h
    exact both (s_bin (sndE a K _ ha).1 (sndE b K _ hb).1) rfl
  | .neg a, X, C, S, K, x, h => by
    simp only [chE] at h
    split at h
    · exact both (s_neg (sndE a K _ h).1) rfl
    · cases h
  | .cmp op a b, X, C, S, K, x, h => by
    simp only [chE] at h
    split at h
    · simp only [Bool.and_eq_true, decide_eq_true_eq] at h
      obtain ⟨⟨⟨rfl, hs⟩, ha⟩, hb⟩ := h
      exact ⟨s_cmp K.hu (sndE a K _ ha).1 (sndE b K _ hb).1 (noSet_mark hs), t_cmp K.hu (sndE a K _ ha).1 (sndE b K _ hb).1 (noSet_mark hs)⟩
    · cases h
  | .chn o1 o2 a b c, X, C, S, K, x, h => by
    simp only [chE] at h
    split at h
    · simp only [Bool.and_eq_true, decide_eq_true_eq] at h
      obtain ⟨⟨⟨⟨⟨rfl, rfl⟩, hs⟩, ha⟩, hb⟩, hc⟩ := h
      exact ⟨s_chn K.hu (sndE a K _ ha).1 (sndE b K _ hb).1 (sndE c K _ hc).1 (noSet_mark hs), t_chn K.hu (sndE a K _ ha).1 (sndE b K _ hb).1 (sndE c K _ hc).1 (noSet_mark hs)⟩
    · cases h
  | .and es, X, C, S, K, x, h => by
    simp only [chE] at h
    split at h
    · simp only [Bool.and_eq_true, Bool.not_eq_true'] at h
      obtain ⟨⟨h1, h2⟩, h3⟩ := h
      exact ⟨(sndA es K _ h1 h2 h3).1.1, (sndA es K _ h1 h2 h3).1.2.pt⟩
    · cases h
  | .or es, X, C, S, K, x, h => by
    simp only [chE] at h
    split at h
    · simp only [Bool.and_eq_true, Bool.not_eq_true'] at h
      obtain ⟨⟨h1, h2⟩, h3⟩ := h
      exact ⟨(sndA es K _ h1 h2 h3).2.1, (sndA es K _ h1 h2 h3).2.2.pt⟩
    · cases h
  | .not a, X, C, S, K, x, h => by
    simp only [chE] at h
    split at h
    · exact ⟨s_not (sndE a K _ h).1, t_not (sndE a K _ h).2⟩
    · cases h
  | .ife c a b, X, C, S, K, x, h => by
    simp only [chE] at h
    split at h
    · simp only [Bool.and_eq_true] at h
      obtain ⟨⟨hc, ha⟩, hb⟩ := h
      exact ⟨s_ife (sndE c K _ hc).2 (sndE a K _ ha).1 (sndE b K _ hb).1, t_ife (sndE c K _ hc).2 (sndE a K _ ha).2 (sndE b K _ hb).2⟩
    · cases h
  | .tup es, X, C, S, K, x, h => by
    simp only [chE] at h
    split at h
    · exact both (s_tup (sndEs es K _ h)) rfl
    · cases h
  | .lst es, X, C, S, K, x, h => by
    simp only [chE] at h
    split at h
    · exact both (s_lst (sndEs es K _ h)) rfl
    · cases h
  | .dic t es, X, C, S, K, x, h => by
    simp only [chE] at h
    split at h
    · simp only [Bool.or_eq_true, Bool.and_eq_true, List.isEmpty_iff, Bool.not_eq_true', decide_eq_true_eq] at h
      rcases h with ⟨⟨h0, rfl⟩, rfl⟩ | ⟨⟨⟨⟨⟨h0, rfl⟩, h1⟩, h2⟩, h3⟩, h4⟩
      · cases es with
        | nil => exact both s_dic0 rfl
        | cons _ _ => cases h0
        | star _ _ => cases h0
      · obtain ⟨l, hl, hp, ha⟩ := sndPs es K _ _ _ h4
        rw [hl]
        exact both (pps_of hp ha h3 (by intro z; subst z; cases h1) h2) rfl
    · cases h
  | .idx a i, X, C, S, K, x, h => by
    simp only [chE] at h
    split at h
    · simp only [Bool.and_eq_true] at h
      obtain ⟨⟨h1, ha⟩, hb⟩ := h
      exact both (s_idx K.hu1 (sndE a K _ ha).1 (sndE i K _ hb).1 (noSl_plain h1)) rfl
    · cases h
  | .slc a lo hi, X, C, S, K, x, h => by
    simp only [chE] at h
    split at h
    · simp only [Bool.and_eq_true] at h
      obtain ⟨⟨ha, hl⟩, hh⟩ := h
      refine both (s_slc (sndE a K _ ha).1 ?_ ?_) rfl
      · split at hl
        · cases lo <;> first | exact p_none | cases hl
        · simp only [Bool.and_eq_true, Bool.not_eq_true'] at hl
          exact p_some (sndE lo K _ hl.2).1 hl.1
      · split at hh
        · cases hi <;> first | exact p_none | cases hh
        · simp only [Bool.and_eq_true, Bool.not_eq_true'] at hh
          exact p_some (sndE hi K _ hh.2).1 hh.1
    · cases h
  | .rev a, X, C, S, K, x, h => by
    simp only [chE] at h
    split at h
    · exact both (s_rev (sndE a K _ h).1) rfl
    · cases h
  | .nop, X, C, S, K, x, h => by cases h
  | .fld a f, X, C, S, K, x, h => by
    simp only [chE] at h
    split at h
    · simp only [Bool.and_eq_true, decide_eq_true_eq] at h
      obtain ⟨⟨rfl, h1⟩, ha⟩ := h
      exact both (s_fld K.wld.fld (sndE a K _ ha).1 (attr_base h1)) rfl
    · cases h
  | .prp a f, X, C, S, K, x, h => by
    simp only [chE] at h
    split at h
    · simp only [Bool.and_eq_true, decide_eq_true_eq] at h
      obtain ⟨⟨rfl, h1⟩, ha⟩ := h
      exact both (s_prp (fun c g hp => K.wld.prp _ c g hp) K.gd K.rm (sndE a K _ ha).1 h1) rfl
    · cases h
  | .cal f es ks pm, X, C, S, K, x, h => by
    simp only [chE] at h
    split at h
    · simp only [Bool.and_eq_true, decide_eq_true_eq, beq_iff_eq] at h
      obtain ⟨⟨⟨⟨⟨⟨⟨⟨⟨h1, h2⟩, h3⟩, h4⟩, h5⟩, h6⟩, h7⟩, h8⟩, h9⟩, h10⟩ := h
      split at h3
      · rename_i names hn
        obtain ⟨fa, fd, ps, e1, e2, F, sh⟩ := K.wld.fn _ _ h2 _ _ _ h3
        exact both (s_cal F K.gd K.rm0 K.tk (K.gl h1).1 e1 e2 (K.gl h1).2 sh (sndEs es K _ h9) (sndKs ks K _ h10) h4 hn h5 h6 h7 h8) rfl
      · cases h3
    · cases h
  | .mth a m es ks pm, X, C, S, K, x, h => by
    simp only [chE] at h
    split at h
    · simp only [Bool.and_eq_true, decide_eq_true_eq] at h
      obtain ⟨⟨⟨⟨⟨⟨⟨⟨⟨⟨⟨⟨rfl, h1⟩, h3⟩, hf⟩, hl⟩, h4⟩, h5⟩, h6⟩, h7⟩, h8⟩, ha⟩, h9⟩, h10⟩ := h
      split at h3
      · rename_i names hn
        exact both (s_mth (fun c g hm => K.wld.mth _ _ _ _ h3 c g hm) K.gd K.rm0 K.tk (sndE a K _ ha).1 h1 (sndEs es K _ h9) (sndKs ks K _ h10) h4 hn hf hl h5 h6 h7 h8) rfl
      · cases h3
    · cases h
  | .mak c es ks pm, X, C, S, K, x, h => by
    simp only [chE] at h
    split at h
    · simp only [Bool.and_eq_true, decide_eq_true_eq, beq_iff_eq] at h
      obtain ⟨⟨⟨⟨⟨⟨⟨⟨⟨h1, h2⟩, h3⟩, h4⟩, h5⟩, h6⟩, h7⟩, h8⟩, h9⟩, h10⟩ := h
      split at h3
      · rename_i names hn
        obtain ⟨g, fa, fd, ps, e1, M, F, sh⟩ := K.wld.mkr _ _ _ _ h3
        exact both (s_mak e1 M F K.gd K.rm K.tk (K.gl h1).1 (K.wld.cls _ _ h2) (K.gl h1).2 sh (sndEs es K _ h9) (sndKs ks K _ h10) h4 hn h5 h6 h7 h8) rfl
      · cases h3
    · cases h
  | .give a, X, C, S, K, x, h => by
    refine ⟨s_give (sndE a K x h).1, PT.imp (sndE a K x h).2 fun σ H Q ⟨O, e, R, c⟩ => ⟨O, e, R, ?_⟩⟩
    simp only [Ct.ev, ev] at c ⊢
    cases w : ev C.wd C.run a e with
    | ok r e1 =>
      rw [w] at c
      cases r <;> exact c.elim
    | ex _ _ _ => rw [w] at c; exact c
    | bad => rw [w] at c; exact c
  | .blt b es, X, C, S, K, x, h => by
    simp only [chE] at h
    split at h
    · simp only [Bool.and_eq_true, decide_eq_true_eq] at h
      obtain ⟨⟨⟨rfl, h1⟩, h2⟩, h3⟩ := h
      exact both (s_blt (b_every K.calm K.gd K.hu32 b) (K.gl h1).1 (K.wld.bl _ (by cases b <;> decide)) h2 (sndEs es K _ h3)) rfl
    · cases h
  | .bmt m a es, X, C, S, K, x, h => by
    simp only [chE] at h
    split at h
    · simp only [Bool.and_eq_true, decide_eq_true_eq] at h
      obtain ⟨⟨⟨⟨⟨⟨rfl, h1⟩, h2⟩, h3⟩, h4⟩, ha⟩, h5⟩ := h
      have hs := sndEs es K _ h5
      rename_i a' m' apos vs pos
      cases vs with
      | nil =>
        cases es with
        | nil => exact both (s_bmt0 (m_every K.hu1 m) (sndE a K _ ha).1 h1 h4) rfl
        | cons _ _ => simp [chEs] at h5
        | star _ _ => simp [chEs] at h5
      | cons v vs => exact both (s_bmt (m_every K.hu1 m) (sndE a K _ ha).1 h1 h2 h3 h4 hs) rfl
    · cases h
  | .isi a cs, X, C, S, K, x, h => by
    unfold chE at h
    split at h
    · simp only [Bool.and_eq_true, decide_eq_true_eq] at h
      obtain ⟨⟨⟨⟨⟨rfl, h1⟩, h2⟩, ha⟩, h3⟩, h4⟩ := h
      split at h4
      · simp only [Bool.and_eq_true, beq_iff_eq] at h4
        obtain ⟨h4, h5⟩ := h4
        have hb := List.contains_iff_mem.mp h4
        exact both (s_isi K.wld.isf (.ty _) rfl (K.gl h1).1 (K.wld.bl _ (by decide)) (sndE a K _ ha).1 (pe_bltn (K.gl h3).1 (K.wld.bl _ hb) h5 rfl (by intro z; rw [z] at hb; revert hb; decide) (K.gl h3).2) h2) rfl
      · simp only [beq_iff_eq] at h4
        exact both (s_isi K.wld.isf (.own _) rfl (K.gl h1).1 (K.wld.bl _ (by decide)) (sndE a K _ ha).1 (pe_glob (K.gl h3).1 (K.wld.cls _ _ h4) rfl (K.gl h3).2) h2) rfl
    · cases h
  | .lc tg sk src own cond el, X, C, S, K, x, h => by
    unfold chE at h
    split at h
    · simp only [Bool.and_eq_true, decide_eq_true_eq] at h
      obtain ⟨⟨⟨⟨⟨⟨⟨rfl, ho⟩, hsub⟩, hg⟩, hset⟩, hsrc⟩, hc⟩, he⟩ := h
      refine both (lc_snd K ho hsub hset (src_snd K hsrc (fun h y z => sndO src K y h z) fun ys z => sndEs src K _ z) hg (fun s H A cl fp => cond_snd hc fun y z => (sndE cond (K.blk ho s H A cl fp) _ z).2) fun s H A cl fp => (sndE el (K.blk ho s H A cl fp) _ he).1) rfl
    · cases h
  | .lc2 tg sk src own cond tg1 sk1 src1 cond1 el, X, C, S, K, x, h => by
    unfold chE at h
    split at h
    · simp only [Bool.and_eq_true, decide_eq_true_eq] at h
      obtain ⟨⟨⟨⟨⟨⟨⟨⟨⟨⟨⟨⟨⟨rfl, rfl⟩, ho⟩, hsub⟩, hsub1⟩, hg⟩, hg1⟩, hset⟩, hset1⟩, hsrc⟩, hsrc1⟩, hc⟩, hc1⟩, he⟩ := h
      exact both (lc2_snd K ho hsub hsub1 hset hset1 (src_snd K hsrc (fun h y z => sndO src K y h z) fun ys z => sndEs src K _ z) hg hg1 (fun s H A cl fp => cond_snd hc fun y z => (sndE cond (K.blk ho s H A cl fp) _ z).2) (fun s H A cl fp => src_snd (K.blk ho s H A cl fp) hsrc1 (fun h y z => sndO src1 (K.blk ho s H A cl fp) y h z) fun ys z => sndEs src1 (K.blk ho s H A cl fp) _ z) (fun s H A cl fp => cond_snd hc1 fun y z => (sndE cond1 (K.blk ho s H A cl fp) _ z).2) fun s H A cl fp => (sndE el (K.blk ho s H A cl fp) _ he).1) rfl
    · cases h
  | .dc tg sk src own cond kx vx, X, C, S, K, x, h => by
    unfold chE at h
    split at h
    · simp only [Bool.and_eq_true, decide_eq_true_eq] at h
      obtain ⟨⟨⟨⟨⟨⟨⟨⟨rfl, ho⟩, hsub⟩, hg⟩, hset⟩, hsrc⟩, hc⟩, hk⟩, he⟩ := h
      refine both (dc_snd K ho hsub hset (src_snd K hsrc (fun h y z => sndO src K y h z) fun ys z => sndEs src K _ z) hg (fun s H A cl fp => cond_snd hc fun y z => (sndE cond (K.blk ho s H A cl fp) _ z).2) (fun s H A cl fp => (sndE kx (K.blk ho s H A cl fp) _ hk).1) fun s H A cl fp => (sndE vx (K.blk ho s H A cl fp) _ he).1) rfl
    · cases h
theorem sndEs : ∀ (es : Es) {X : Cx} {C : Ct} {S : Sc} (K : CtxOk X C G S k) (xs : List Expr), chEs G es S xs = true → PA X xs (C.ta X.K es)
  | .nil, X, C, S, K, xs, h => by
    cases xs with
    | nil => exact s_nil
    | cons _ _ => cases h
  | .cons a r, X, C, S, K, xs, h => by
    cases xs with
    | nil => cases h
    | cons y ys =>
      simp only [chEs, Bool.and_eq_true] at h
      exact s_cons (sndE a K _ h.1.2).1 (sndEs r K _ h.2) (star_cons h.1.1)
  | .star a r, X, C, S, K, xs, h => by
    simp only [chEs] at h
    split at h
    · simp only [Bool.and_eq_true] at h
      exact s_star (sndE a K _ h.1).1 (sndEs r K _ h.2)
    · cases h
theorem sndO : ∀ (es : Es) {X : Cx} {C : Ct} {S : Sc} (K : CtxOk X C G S k) (y : Expr), es.plain = true → chEs G es S [y] = true → ∃ a, es = .cons a .nil ∧ PE X y (C.te X.K a)
  | .nil, X, C, S, K, y, _, h => by cases h
  | .star _ _, X, C, S, K, y, h, _ => by cases h
  | .cons a r, X, C, S, K, y, p, h => by
    simp only [chEs, Bool.and_eq_true] at h
    cases r with
    | nil => exact ⟨a, rfl, (sndE a K _ h.1.2).1⟩
    | cons _ _ => simp [chEs] at h
    | star _ _ => cases p
theorem sndKs : ∀ (es : Es) {X : Cx} {C : Ct} {S : Sc} (K : CtxOk X C G S k) (xs : List Keyword), chKs G es S xs = true → PK X xs (C.ta X.K es)
  | .nil, X, C, S, K, xs, h => by
    cases xs with
    | nil => exact k_nil
    | cons _ _ => cases h
  | .cons a r, X, C, S, K, xs, h => by
    cases xs with
    | nil => cases h
    | cons y ys =>
      obtain ⟨nm, y, p⟩ := y
      simp only [chKs, Bool.and_eq_true] at h
      exact k_cons (sndE a K _ h.1).1 (sndKs r K _ h.2)
  | .star _ _, X, C, S, K, xs, h => by cases h
theorem sndPs : ∀ (es : Es) {X : Cx} {C : Ct} {S : Sc} (K : CtxOk X C G S k) (ks : List (Option Expr)) (vs : List Expr) (pos : Pos), chPs G es S ks vs = true → ∃ l, es = flatE l ∧ PPs X pos ks vs (trsOf X.K C l) ∧ ks.all (·.isSome) = true
  | .nil, X, C, S, K, ks, vs, pos, h => by
    simp only [chPs, Bool.and_eq_true, List.isEmpty_iff] at h
    obtain ⟨rfl, rfl⟩ := h
    exact ⟨[], rfl, pps_nil, rfl⟩
  | .cons a (.cons v r), X, C, S, K, ks, vs, pos, h => by
    simp only [chPs] at h
    split at h
    · simp only [Bool.and_eq_true] at h
      obtain ⟨l, rfl, hp, ha⟩ := sndPs r K _ _ pos h.2
      exact ⟨(a, v) :: l, rfl, pps_cons (sndE a K _ h.1.1).1 (sndE v K _ h.1.2).1 hp, by simp [ha]⟩
    · cases h
  | .cons _ .nil, X, C, S, K, ks, vs, pos, h => by cases h
  | .cons _ (.star _ _), X, C, S, K, ks, vs, pos, h => by cases h
  | .star _ _, X, C, S, K, ks, vs, pos, h => by cases h
theorem sndA : ∀ (es : Es) {X : Cx} {C : Ct} {S : Sc} (K : CtxOk X C G S k) (xs : List Expr), es.isNil = false → es.plain = true → chEs G es S xs = true → (∀ {pos : Pos}, PE X (.BoolOp .And xs pos) (C.tA X.K es) ∧ PW X (.BoolOp .And xs pos) (C.wA X.K es)) ∧ ∀ {pos : Pos}, PE X (.BoolOp .Or xs pos) (C.tO X.K es) ∧ PW X (.BoolOp .Or xs pos) (C.wO X.K es)
  | .nil, X, C, S, K, xs, n, _, _ => by cases n
  | .star _ _, X, C, S, K, xs, _, p, _ => by cases p
  | .cons a r, X, C, S, K, xs, _, p, h => by
    cases xs with
    | nil => cases h
    | cons y ys =>
      simp only [chEs, Bool.and_eq_true] at h
      obtain ⟨h1, h2⟩ := sndE a K _ h.1.2
      cases hr : r.isNil with
      | true =>
        cases r with
        | nil =>
          cases ys with
          | nil => exact ⟨⟨s_and1 h1, w_and1 h2⟩, ⟨s_or1 h1, w_or1 h2⟩⟩
          | cons _ _ => simp [chEs] at h
        | cons _ _ => cases hr
        | star _ _ => cases hr
      | false =>
        cases ys with
        | nil => cases r <;> simp [chEs] at h <;> cases hr
        | cons z zs =>
          have q := sndA r K (z :: zs) hr p h.2
          exact ⟨⟨s_and2 h1 q.1.1 hr, w_and2 h2 q.1.2 hr⟩, ⟨s_or2 h1 q.2.1 hr, w_or2 h2 q.2.2 hr⟩⟩
end
end
end PV
/-! ## soundness: statements -/
namespace PV
open PySem L2 PyProof.Rows
noncomputable section
section
variable {X : Cx} {C : Ct} {G : Gs} {S : Sc} {k : Nat} {pos p p2 p3 pt pt2 : Pos} {x y z : Str} {i j l kt k2 : Nat}
theorem sw_ok (K : CtxOk X C G S k) {v : Expr} {ln : Nat} : swapsWith v (some (.Name x p)) ln X.env = pure (swN S x p v) := by
  have hb : X.env.blockKind = .function := by unfold Env.blockKind; rw [K.kd]; rfl
  have hk : X.env.kindOf x = S.tab.lookup x := by unfold Env.kindOf; rw [K.tab]
  cases v with
  | ListComp e g s q => unfold swapsWith swN; simp only [hb, hk]; rfl
  | SetComp e g s q => unfold swapsWith swN; simp only [hb, hk]; rfl
  | DictComp e g s q => unfold swapsWith swN; simp only [hb, hk]; rfl
  | _ => rfl
theorem sw_att {v o : Expr} {f : Str} {ln : Nat} {env : Env} : swapsWith v (some (.Attribute o f p)) ln env = pure false := by cases v <;> rfl
theorem sw_sub {v o b : Expr} {ln : Nat} {env : Env} : swapsWithSole [.Subscript o b p] v ln env = pure false := by cases v <;> rfl
theorem sw_tup {v : Expr} {ns : List Expr} {ln : Nat} {env : Env} : swapsWithSole [.Tuple ns kt p] v ln env = pure false := by cases v <;> rfl
theorem sw_none {v : Expr} {ln : Nat} {env : Env} (h : noComp v = true) : swapsWith v none ln env = pure false := by cases v <;> first | rfl | cases h
theorem st_sub {v o b : Expr} {env : Env} : swappedStores [.Subscript o b p] v env = pure none := by cases v <;> rfl
theorem st_tup {v : Expr} {ns : List Expr} {env : Env} (h : noTup v = true) : swappedStores [.Tuple ns kt p] v env = pure none := by cases v <;> first | rfl | cases h
theorem as_sub {o b : Expr} {env : Env} (h : noSl b = true) (v : Value) : assign (.Subscript o b p) env v = (do
      let ov ← holding [v] (eval o env)
      let iv ← holding [v, ov] (eval b env)
      standAt p
      holding [v, ov, iv] (setItem ov iv v)
      release [v, ov, iv] []) := by cases b <;> first | rfl | cases h
theorem dups2 (ne : x ≠ y) : ([x, y] : List Str).eraseDups.length = 2 := by
  have h1 : (y == x) = false := beq_eq_false_iff_ne.mpr (Ne.symm ne)
  simp [List.eraseDups_cons, h1]
theorem dups3 (h1 : x ≠ y) (h2 : x ≠ z) (h3 : y ≠ z) : ([x, y, z] : List Str).eraseDups.length = 3 := by
  have h1 : (y == x) = false := beq_eq_false_iff_ne.mpr (Ne.symm h1)
  have h2 : (z == x) = false := beq_eq_false_iff_ne.mpr (Ne.symm h2)
  have h3 : (z == y) = false := beq_eq_false_iff_ne.mpr (Ne.symm h3)
  simp [List.eraseDups_cons, h1, h2, h3]
theorem st_par2 (K : CtxOk X C G S k) {a b : Expr} (ha : noStar a = true) (hb : noStar b = true) (hx : S.tab.lookup x = some .local) (hy : S.tab.lookup y = some .local) (hl : p2.line = p.line) (ne : x ≠ y) (h1 : [a, b].all (foldedForSure 8) = false) (h2 : [a, b].all (constantsAlone 8) = false) :
    swappedStores [.Tuple [.Name x p, .Name y p2] kt pt] (.Tuple [a, b] k2 pt2) X.env = pure (some [x, y]) := by
  have hbk : X.env.blockKind = .function := by unfold Env.blockKind; rw [K.kd]; rfl
  have hkx : X.env.kindOf x = some .local := by unfold Env.kindOf; rw [K.tab]; exact hx
  have hky : X.env.kindOf y = some .local := by unfold Env.kindOf; rw [K.tab]; exact hy
  have e1 := dups2 ne
  unfold swappedStores
  simp [hbk, Expr.pos, hkx, hky, hl, e1, h1, h2]
  rintro (h | h)
  · cases a <;> first | (cases ha; done) | cases h
  · cases b <;> first | (cases hb; done) | cases h
theorem st_par3 (K : CtxOk X C G S k) {a b c : Expr} (ha : noStar a = true) (hb : noStar b = true) (hc : noStar c = true) (hx : S.tab.lookup x = some .local) (hy : S.tab.lookup y = some .local) (hz : S.tab.lookup z = some .local) (hl : p2.line = p.line) (hl3 : p3.line = p.line) (ne : x ≠ y) (ne2 : x ≠ z) (ne3 : y ≠ z)
    (h1 : [a, b, c].all (foldedForSure 8) = false) (h2 : [a, b, c].all (constantsAlone 8) = false) : swappedStores [.Tuple [.Name x p, .Name y p2, .Name z p3] kt pt] (.Tuple [a, b, c] k2 pt2) X.env = pure (some [x, y, z]) := by
  have hbk : X.env.blockKind = .function := by unfold Env.blockKind; rw [K.kd]; rfl
  have hkx : X.env.kindOf x = some .local := by unfold Env.kindOf; rw [K.tab]; exact hx
  have hky : X.env.kindOf y = some .local := by unfold Env.kindOf; rw [K.tab]; exact hy
  have hkz : X.env.kindOf z = some .local := by unfold Env.kindOf; rw [K.tab]; exact hz
  have e1 := dups3 ne ne2 ne3
  unfold swappedStores
  simp [hbk, Expr.pos, hkx, hky, hkz, hl, hl3, e1, h1, h2]
  rintro (h | h | h)
  · cases a <;> first | (cases ha; done) | cases h
  · cases b <;> first | (cases hb; done) | cases h
  · cases c <;> first | (cases hc; done) | cases h
/-- name = [.. for ..] on one line -/
theorem n_asgLc {elt tg' iter : Expr} {ifs : List Expr} {scope : Scope} {tg : Tg} {sk : SrcK} {src : Es} {own : List Nat} {cond el : E} {o : Bool} (K : CtxOk X C G S k) (hi0 : X.N[i]? = some x) (hxl : X.env.scope.names.lookup x = some .local)
    (hsw : swapsWith (.ListComp elt [⟨tg', iter, ifs, 0⟩] scope p2) (some (.Name x p)) pos.line X.env = pure true) (ho : ownB S own scope = true) (hsub : tg.slots.all (own.contains ·) = true) (hset : noSet iter = true) (hi : PI X tg' iter (iS X.K C sk src))
    (hg : tgB (S.blk scope) tg tg' = true) (hc : ∀ (s : Shared) (H : Hp) (A : Addr) (cl : List (Str × Addr)) (fp : List Addr), PTs (X.blk s H scope (compEnvC scope cl A X.env) fp) ifs (tCond X.K C cond))
    (he : ∀ (s : Shared) (H : Hp) (A : Addr) (cl : List (Str × Addr)) (fp : List Addr), PE (X.blk s H scope (compEnvC scope cl A X.env) fp) elt (C.in.te X.K el)) :
    PS X (.Assign [.Name x p] (.ListComp elt [⟨tg', iter, ifs, 0⟩] scope p2) pos) (C.ts X.K (.asg i o (.lc tg sk src own cond el))) := by
  refine PS.imp (ps_setLc (g := gT X.K tg) K.calm K.nd hi0 hxl hsw hi (K.blkOk ho) (fun s H A cl fp => tg_snd (K.blk ho s H A cl fp) hg) hc he (noSet_fold hset)) fun D σ H h => ?_
  rw [ownP_snd]
  refine c_lc (fun i hi => by simpa using List.all_eq_true.mp hsub i hi) ?_
  refine (tS.bind (k := C.k X.K) (m := C.ev (.lc tg sk src own cond el)) (f := asgR i o) h fun _ => rfl).imp fun v H1 ⟨O, e, r, e1, O1, A, c⟩ => ?_
  have c' : Cs X.K C.cn C.L (C.xw X.K) O H (Mine e σ) ((asgR i o r e1).bind fun f e2 => .ok f e2) D := by
    cases w : asgR i o r e1 <;> rw [w] at c <;> exact c
  obtain ⟨O2, e2, R2, s2, m2, _, _, _, _, c2⟩ := asg_ok A.R A.s (fun a z => .inl (A.m a z)) A.ok A.new c'
  exact c2 _ O2 H1 R2 s2 m2
theorem n_asgLc2 {elt tg' iter tg1' iter1 : Expr} {ifs ifs1 : List Expr} {scope : Scope} {tg tg1 : Tg} {sk sk1 : SrcK} {src src1 : Es} {own : List Nat} {cond cond1 el : E} {o : Bool} (K : CtxOk X C G S k) (hi0 : X.N[i]? = some x) (hxl : X.env.scope.names.lookup x = some .local)
    (hsw : swapsWith (.ListComp elt [⟨tg', iter, ifs, 0⟩, ⟨tg1', iter1, ifs1, 0⟩] scope p2) (some (.Name x p)) pos.line X.env = pure true) (ho : ownB S own scope = true) (hsub : tg.slots.all (own.contains ·) = true) (hsub1 : tg1.slots.all (own.contains ·) = true) (hset : noSet iter = true) (hset1 : noSet iter1 = true) (hi : PI X tg' iter (iS X.K C sk src))
    (hg : tgB (S.blk scope) tg tg' = true) (hg1 : tgB (S.blk scope) tg1 tg1' = true) (hc : ∀ (s : Shared) (H : Hp) (A : Addr) (cl : List (Str × Addr)) (fp : List Addr), PTs (X.blk s H scope (compEnvC scope cl A X.env) fp) ifs (tCond X.K C cond))
    (hi1 : ∀ (s : Shared) (H : Hp) (A : Addr) (cl : List (Str × Addr)) (fp : List Addr), PI (X.blk s H scope (compEnvC scope cl A X.env) fp) tg1' iter1 (iS X.K C.in sk1 src1))
    (hc1 : ∀ (s : Shared) (H : Hp) (A : Addr) (cl : List (Str × Addr)) (fp : List Addr), PTs (X.blk s H scope (compEnvC scope cl A X.env) fp) ifs1 (tCond X.K C cond1))
    (he : ∀ (s : Shared) (H : Hp) (A : Addr) (cl : List (Str × Addr)) (fp : List Addr), PE (X.blk s H scope (compEnvC scope cl A X.env) fp) elt (C.in.te X.K el)) :
    PS X (.Assign [.Name x p] (.ListComp elt [⟨tg', iter, ifs, 0⟩, ⟨tg1', iter1, ifs1, 0⟩] scope p2) pos) (C.ts X.K (.asg i o (.lc2 tg sk src own cond tg1 sk1 src1 cond1 el))) := by
  refine PS.imp (ps_setLc2 (g := gT X.K tg) (g1 := gT X.K tg1) (vs1 := tg1.slots) K.calm K.nd hi0 hxl hsw hi (K.blkOk ho) (by rw [ownP_snd]; exact fun i hi => by simpa using List.all_eq_true.mp hsub1 i hi) (fun s H A cl fp => tg_snd (K.blk ho s H A cl fp) hg) hc hi1 (fun s H A cl fp => tg_snd (K.blk ho s H A cl fp) hg1) hc1 he (noSet_fold hset) (fun _ => noSet_fold hset1)) fun D σ H h => ?_
  rw [ownP_snd]
  refine c_lc2 (fun i hi => by simpa using List.all_eq_true.mp hsub i hi) (fun i hi => by simpa using List.all_eq_true.mp hsub1 i hi) ?_
  refine (tS.bind (k := C.k X.K) (m := C.ev (.lc2 tg sk src own cond tg1 sk1 src1 cond1 el)) (f := asgR i o) h fun _ => rfl).imp fun v H1 ⟨O, e, r, e1, O1, A, c⟩ => ?_
  have c' : Cs X.K C.cn C.L (C.xw X.K) O H (Mine e σ) ((asgR i o r e1).bind fun f e2 => .ok f e2) D := by
    cases w : asgR i o r e1 <;> rw [w] at c <;> exact c
  obtain ⟨O2, e2, R2, s2, m2, _, _, _, _, c2⟩ := asg_ok A.R A.s (fun a z => .inl (A.m a z)) A.ok A.new c'
  exact c2 _ O2 H1 R2 s2 m2
theorem tu_snd (K : CtxOk X C G S k) : ∀ {ts : List Tu} {es : List Expr}, chTu G S ts es = true → PGs X es (gU X.K C ts)
  | [], [], _ => u_nil
  | .nam i :: ts, .Name x p :: es, h => by
    simp only [chTu, Bool.and_eq_true] at h
    obtain ⟨a, b, c⟩ := K.sto h.1
    exact u_nam K.nd a b c (tu_snd K h.2)
  | .sub j i :: ts, .Subscript (.Name x p) b p2 :: es, h => by
    simp only [chTu, Bool.and_eq_true] at h
    obtain ⟨⟨⟨h1, h2⟩, h3⟩, h4⟩ := h
    obtain ⟨n1, n2, n3, n4⟩ := K.nm h1
    exact u_sub K.hu1 n1 n2 n3 n4 (sndE i K _ h3).1 (as_sub h2) (tu_snd K h4)
  | [], _ :: _, h => by simp [chTu] at h
  | _ :: _, [], h => by simp [chTu] at h
theorem nms_of : ∀ {ns : List Expr} {xs : List (Str × Pos)}, nmsP ns = some xs → ns = xs.map fun q => .Name q.1 q.2
  | [], xs, h => by simp only [nmsP, Option.some.injEq] at h; subst h; rfl
  | e :: r, xs, h => by
    cases e <;> first | (simp [nmsP] at h; done) | skip
    simp only [nmsP, Option.map_eq_some_iff] at h
    obtain ⟨l, hl, rfl⟩ := h
    rw [nms_of hl]
    rfl
/-! ### the same by way of a tuple: names that are cells -/
theorem gNs_set : ∀ {ts : List (Nat × Bool)} {vs : List V} {σ : L2.St} {H : Hp} {Q : L2.St → Hp → Prop}, vs.length = ts.length → Q (setAll σ ts vs) H → gNs (ts.map (·.1)) vs σ H Q
  | [], [], _, _, _, _, q => ⟨rfl, q⟩
  | (_, _) :: _, _ :: _, _, _, _, l, q => ⟨_, _, rfl, gNs_set (by simpa using l) q⟩
theorem n_parT {es' : Es} {tp : List (Nat × Bool)} {ns vs0 : List Expr} (hc : X.calm = true) (ha : PA X vs0 (C.ta X.K es')) (hg : PGs X ns (gNs (tp.map (·.1)))) (hst : ns.all noStar = true) (hln : ns.length = tp.length) (h3 : tp.length ≤ 3)
    (hs : swapsWithSole [.Tuple ns kt pt] (.Tuple vs0 k2 pt2) pos.line X.env = pure false) (hw : swappedStores [.Tuple ns kt pt] (.Tuple vs0 k2 pt2) X.env = pure none) :
    PS X (.Assign [.Tuple ns kt pt] (.Tuple vs0 k2 pt2) pos) (C.ts X.K (.par tp es')) := by
  obtain ⟨hl1, hl2⟩ := asg_len (env := X.env) hst
  refine PS.imp (ps_asg (pe_tup ha) (pg_tup (n := ns.length) hc hg hl1 hl2) hs hw rfl) fun D σ H h => ?_
  refine (tS.bind (k := C.ks X.K) (m := evs C.wd C.run es') (f := fun rs e1 => if (rs.all fun r => r.fz.isSome) = true then parR tp rs e1 else .bad) h fun _ => rfl).imp fun vs H1 ⟨O, e, rs, e1, O1, A, c⟩ => ?_
  split at c
  · rename_i fz
    obtain ⟨l, _⟩ := par_ok A.R A.s (fun a z => .inl (A.m a z)) A.ok A.new fz c
    have lv := RsOk.length A.ok
    rw [← l] at lv
    refine ⟨by rw [lv]; exact Nat.le_trans h3 (by unfold sizeLine; decide), fun p n => ?_⟩
    have ok2 := RsOk.step A.R (Step.newVal (O := O1) (o := .tup vs) n) (fun _ z => z) A.ok
    obtain ⟨_, q⟩ := par_ok (A.R.newVal n) (A.s.trans (Step.newVal n) fun x z => .inl z) (fun a z => .inl (A.m a z)) ok2 A.new fz c
    exact ⟨p, vs, rfl, .inl (.inl upd_same), by rw [lv, hln], gNs_set lv q⟩
  · exact c.elim
theorem st_none2 (K : CtxOk X C G S k) {a b : Expr} (h : (S.tab.lookup x == some .local && S.tab.lookup y == some .local) = false) : swappedStores [.Tuple [.Name x p, .Name y p2] kt pt] (.Tuple [a, b] k2 pt2) X.env = pure none := by
  have hbk : X.env.blockKind = .function := by unfold Env.blockKind; rw [K.kd]; rfl
  have hkx : X.env.kindOf x = S.tab.lookup x := by unfold Env.kindOf; rw [K.tab]
  have hky : X.env.kindOf y = S.tab.lookup y := by unfold Env.kindOf; rw [K.tab]
  unfold swappedStores
  by_cases h1 : S.tab.lookup x = some .local <;> by_cases h2 : S.tab.lookup y = some .local <;> by_cases h3 : p2.line = p.line <;> first | (simp [h1, h2] at h; done) | simp [hbk, Expr.pos, hkx, hky, h1, h2, h3, List.filterMap_cons]
theorem st_none3 (K : CtxOk X C G S k) {a b c : Expr} (h : (S.tab.lookup x == some .local && (S.tab.lookup y == some .local && S.tab.lookup z == some .local)) = false) : swappedStores [.Tuple [.Name x p, .Name y p2, .Name z p3] kt pt] (.Tuple [a, b, c] k2 pt2) X.env = pure none := by
  have hbk : X.env.blockKind = .function := by unfold Env.blockKind; rw [K.kd]; rfl
  have hkx : X.env.kindOf x = S.tab.lookup x := by unfold Env.kindOf; rw [K.tab]
  have hky : X.env.kindOf y = S.tab.lookup y := by unfold Env.kindOf; rw [K.tab]
  have hkz : X.env.kindOf z = S.tab.lookup z := by unfold Env.kindOf; rw [K.tab]
  unfold swappedStores
  by_cases h1 : S.tab.lookup x = some .local <;> by_cases h2 : S.tab.lookup y = some .local <;> by_cases h3 : S.tab.lookup z = some .local <;> by_cases h4 : p2.line = p.line <;> by_cases h5 : p3.line = p.line <;> first | (simp [h1, h2, h3] at h; done) | simp [hbk, Expr.pos, hkx, hky, hkz, h1, h2, h3, h4, h5, List.filterMap_cons]
theorem par_sndT (K : CtxOk X C G S k) {ts : List (Nat × Bool)} {xs : List (Str × Pos)} {vs : List Expr} {es : Es} (h : parT S ts xs vs = true) (hs : PA X vs (C.ta X.K es)) : PS X (.Assign [.Tuple (xs.map fun q => .Name q.1 q.2) kt pt] (.Tuple vs k2 pt2) pos) (C.ts X.K (.par ts es)) := by
  simp only [parT, Bool.and_eq_true, decide_eq_true_eq, Bool.or_eq_true, beq_iff_eq, Bool.not_eq_true'] at h
  obtain ⟨⟨⟨⟨h1, h2⟩, h3⟩, h4⟩, h5⟩ := h
  obtain ⟨g1, g2, g3⟩ := tgs_snd K h4
  refine n_parT K.calm hs g1 g3 (by simpa using g2) (by omega) sw_tup ?_
  rcases h2 with h2 | h2
  · match ts, xs, vs, h1, h2, h3, h5 with
    | [_, _], [_, _], [_, _], _, _, _, h5 => exact st_none2 K (by simpa using h5)
  · match ts, xs, vs, h1, h2, h3, h5 with
    | [_, _, _], [_, _, _], [_, _, _], _, _, _, h5 => exact st_none3 K (by simpa using h5)
theorem par_snd (K : CtxOk X C G S k) {ts : List (Nat × Bool)} {xs : List (Str × Pos)} {vs : List Expr} {es : Es} (h : parB S ts xs vs = true) (hs : PA X vs (C.ta X.K es)) : PS X (.Assign [.Tuple (xs.map fun q => .Name q.1 q.2) kt pt] (.Tuple vs k2 pt2) pos) (C.ts X.K (.par ts es)) := by
  simp only [parB, Bool.and_eq_true, decide_eq_true_eq, Bool.or_eq_true, beq_iff_eq, Bool.not_eq_true'] at h
  obtain ⟨⟨⟨⟨⟨⟨⟨h1, h2⟩, h3⟩, h4⟩, h5⟩, h6⟩, h7⟩, h8⟩ := h
  rcases h2 with h2 | h2
  · match ts, xs, vs, h1, h2, h3 with
    | [(i, o1), (j, o2)], [(x, p), (y, p2)], [a, b], _, _, _ =>
      simp only [List.zip_cons_cons, List.zip_nil_right, List.all_cons, List.all_nil, Bool.and_true, Bool.and_eq_true, beq_iff_eq, List.map_cons, List.map_nil, List.head?_cons, Option.getD_some] at h5 h4
      obtain ⟨⟨⟨a1, a2⟩, a3⟩, ⟨b1, b2⟩, b3⟩ := h5
      have ne : x ≠ y := by
        have := List.nodup_cons.mp h6
        intro z
        exact this.1 (by simp [z])
      have nij : i ≠ j := fun z => by
        rw [z, b1] at a1
        exact ne (Option.some.inj a1).symm
      exact n_par2 K.calm K.nd (by rw [K.hN]; exact a1) (by rw [K.hN]; exact b1) nij (by rw [K.tab]; exact a2) (by rw [K.tab]; exact b2) hs (st_par2 K h4.1 h4.2 a2 b2 b3 ne h7 h8)
  · match ts, xs, vs, h1, h2, h3 with
    | [(i, o1), (j, o2), (l, o3)], [(x, p), (y, p2), (z, p3)], [a, b, c], _, _, _ =>
      simp only [List.zip_cons_cons, List.zip_nil_right, List.all_cons, List.all_nil, Bool.and_true, Bool.and_eq_true, beq_iff_eq, List.map_cons, List.map_nil, List.head?_cons, Option.getD_some] at h5 h4
      obtain ⟨⟨⟨a1, a2⟩, a3⟩, ⟨⟨b1, b2⟩, b3⟩, ⟨c1, c2⟩, c3⟩ := h5
      simp only [List.map_cons, List.map_nil, List.nodup_cons, List.mem_cons, List.not_mem_nil, or_false, not_or] at h6
      obtain ⟨⟨n1, n2⟩, n3, _⟩ := h6
      have nij : i ≠ j := fun w => by rw [w, b1] at a1; exact n1 (Option.some.inj a1).symm
      have nil' : i ≠ l := fun w => by rw [w, c1] at a1; exact n2 (Option.some.inj a1).symm
      have njl : j ≠ l := fun w => by rw [w, c1] at b1; exact n3 (Option.some.inj b1).symm
      exact n_par3 K.calm K.nd (by rw [K.hN]; exact a1) (by rw [K.hN]; exact b1) (by rw [K.hN]; exact c1) nij nil' njl (by rw [K.tab]; exact a2) (by rw [K.tab]; exact b2) (by rw [K.tab]; exact c2) hs (st_par3 K h4.1 h4.2.1 h4.2.2 a2 b2 c2 b3 c3 n1 n2 n3 h7 h8)
end
variable {G : Gs} {k : Nat} {S : Sc}
mutual
theorem sndS : ∀ (s : PV.S) {X : Cx} {C : Ct} (K : CtxOk X C G S k) (st : Stmt), chS G S s st = true → PS X st (C.ts X.K s)
  | .asg i o a, X, C, K, st, h => by
    unfold chS at h
    split at h
    · simp only [Bool.and_eq_true, Bool.or_eq_true, Bool.not_eq_true', beq_iff_eq] at h
      obtain ⟨⟨h1, h2⟩, h3⟩ := h
      obtain ⟨n1, n2, n3⟩ := K.sto h1
      cases hsw : swN S _ _ _ with
      | false => exact n_asg K.nd n1 n2 (sndE a K _ h2).1 (by rw [sw_ok K, hsw]) n3
      | true =>
        rcases h3 with h3 | h3
        · rw [hsw] at h3; cases h3
        · cases a <;> first | (cases h3.1; done) | skip
          rotate_left
          · unfold chE at h2
            split at h2
            · simp only [Bool.and_eq_true, decide_eq_true_eq] at h2
              obtain ⟨⟨⟨⟨⟨⟨⟨⟨⟨⟨⟨⟨⟨rfl, rfl⟩, ho⟩, hsub⟩, hsub1⟩, hg⟩, hg1⟩, hset⟩, hset1⟩, hsrc⟩, hsrc1⟩, hc⟩, hc1⟩, he⟩ := h2
              exact n_asgLc2 K n1 (by rw [K.tab]; exact h3.2) (by rw [sw_ok K, hsw]) ho hsub hsub1 hset hset1 (src_snd K hsrc (fun h y z => sndO _ K y h z) fun ys z => sndEs _ K _ z) hg hg1 (fun s H A cl fp => cond_snd hc fun y z => (sndE _ (K.blk ho s H A cl fp) _ z).2) (fun s H A cl fp => src_snd (K.blk ho s H A cl fp) hsrc1 (fun h y z => sndO _ (K.blk ho s H A cl fp) y h z) fun ys z => sndEs _ (K.blk ho s H A cl fp) _ z) (fun s H A cl fp => cond_snd hc1 fun y z => (sndE _ (K.blk ho s H A cl fp) _ z).2) fun s H A cl fp => (sndE _ (K.blk ho s H A cl fp) _ he).1
            · cases h2
          unfold chE at h2
          split at h2
          · simp only [Bool.and_eq_true, decide_eq_true_eq] at h2
            obtain ⟨⟨⟨⟨⟨⟨⟨rfl, ho⟩, hsub⟩, hg⟩, hset⟩, hsrc⟩, hc⟩, he⟩ := h2
            exact n_asgLc K n1 (by rw [K.tab]; exact h3.2) (by rw [sw_ok K, hsw]) ho hsub hset (src_snd K hsrc (fun h y z => sndO _ K y h z) fun ys z => sndEs _ K _ z) hg (fun s H A cl fp => cond_snd hc fun y z => (sndE _ (K.blk ho s H A cl fp) _ z).2) fun s H A cl fp => (sndE _ (K.blk ho s H A cl fp) _ he).1
          · cases h2
    · cases h
  | .par ts es, X, C, K, st, h => by
    unfold chS at h
    split at h
    · split at h
      · rename_i xs hx
        simp only [Bool.and_eq_true] at h
        rw [nms_of hx]
        rw [Bool.or_eq_true] at h
        rcases h.1 with h1 | h1
        · exact par_snd K h1 (sndEs es K _ h.2)
        · exact par_sndT K h1 (sndEs es K _ h.2)
      · cases h
    · cases h
  | .unp ts a, X, C, K, st, h => by
    unfold chS at h
    split at h
    · simp only [Bool.and_eq_true, decide_eq_true_eq] at h
      obtain ⟨⟨⟨⟨h1, h2⟩, h3⟩, h4⟩, h5⟩ := h
      exact n_unp K.calm (sndE a K _ h5).1 (tu_snd K h4) h1 h2 sw_tup (st_tup h3)
    · cases h
  | .sto j i a, X, C, K, st, h => by
    unfold chS at h
    split at h
    · simp only [Bool.and_eq_true] at h
      obtain ⟨⟨⟨h1, h2⟩, h3⟩, h4⟩ := h
      obtain ⟨n1, n2, n3, n4⟩ := K.nm h1
      exact n_sto K.hu1 n1 n2 n3 n4 (sndE a K _ h4).1 (sndE i K _ h3).1 sw_sub st_sub (as_sub h2)
    · cases h
  | .att j f a, X, C, K, st, h => by
    unfold chS at h
    split at h
    · simp only [Bool.and_eq_true, decide_eq_true_eq] at h
      obtain ⟨⟨h1, rfl⟩, h3⟩ := h
      obtain ⟨n1, n2, n3, n4⟩ := K.nm h1
      exact n_att K.wld.fld n1 n2 n3 n4 (sndE a K _ h3).1 sw_att
    · cases h
  | .exp a, X, C, K, st, h => by
    unfold chS at h
    split at h
    · simp only [Bool.and_eq_true] at h
      exact n_exp (sndE a K _ h.2).1 (sw_none h.1)
    · cases h
  | .ret a, X, C, K, st, h => by
    unfold chS at h
    split at h
    · exact n_ret (sndE a K _ h).1
    · cases h
  | .retN, X, C, K, st, h => by
    unfold chS at h
    split at h
    · exact n_retN
    · cases h
  | .pas, X, C, K, st, h => by
    unfold chS at h
    split at h
    · exact n_pas
    · cases h
  | .brk, X, C, K, st, h => by
    unfold chS at h
    split at h
    · exact n_brk
    · cases h
  | .cnt, X, C, K, st, h => by
    unfold chS at h
    split at h
    · exact n_cnt
    · cases h
  | .ife c a b, X, C, K, st, h => by
    unfold chS at h
    split at h
    · simp only [Bool.and_eq_true] at h
      exact n_ife (sndE c K _ h.1.1).2 (sndSs a K _ h.1.2) (sndSs b K _ h.2)
    · cases h
  | .for tg sk src b, X, C, K, st, h => by
    unfold chS at h
    split at h
    · simp only [Bool.and_eq_true] at h
      obtain ⟨⟨⟨h1, h2⟩, h3⟩, h4⟩ := h
      exact n_for K.pass K.calm (src_snd K h3 (fun h y z => sndO src K y h z) fun ys z => sndEs src K _ z) (tg_snd K h1) (sndSs b K _ h4) (noSet_fold h2)
    · cases h
  | .whl c b, X, C, K, st, h => by
    unfold chS at h
    split at h
    · simp only [Bool.and_eq_true] at h
      exact n_whl K.pass (sndE c K _ h.1).2 (sndSs b K _ h.2)
    · cases h
  | .nev, X, C, K, st, h => n_nev
theorem sndSs : ∀ (ss : Ss) {X : Cx} {C : Ct} (K : CtxOk X C G S k) (sts : List Stmt), chSs G S ss sts = true → PSs X sts (C.tss X.K ss)
  | .nil, X, C, K, sts, h => by
    cases sts with
    | nil => exact n_nil
    | cons _ _ => cases h
  | .cons s r, X, C, K, sts, h => by
    cases sts with
    | nil => cases h
    | cons y ys =>
      simp only [chSs, Bool.and_eq_true] at h
      exact n_cons (sndS s K _ h.1) (sndSs r K _ h.2)
end
end
end PV
/-! ## the law's call -/
namespace PV
open PySem L2 PyProof.Rows
noncomputable section
section
variable {P : Program} {w : World} {K : PySem.W.Frag} {mg mb : Str → Option Value} {k : Nat} {fa a : Addr} {fd : FuncData} {x : Str} {sp : Sp} {sL : Shared} {vs : List Value} {ns : List Int}
/-- the call, from an abstract heap that knows of the script at most -/
theorem law_from {H : Hp} (inK : K.In sL.heap) (nsG : sL.heap.Ns mainGlobals mg) (nsB : sL.heap.Ns builtinsNs mb) (blt : ∀ y : Str, y ≠ "__name__" → mb y = bootBuiltins y) (noL : sL.heap.NoLimit) (noG : sL.gens = #[])
    (at_a : sL.heap.get? a = some { cls := .type "list", data := .seq vs.toArray }) (rm : Room k callerA) (fn : ∀ b : Heap, K.In b → b.Ns mainGlobals mg → FnG P w K mg b k fa fd [x] sp) (bnd : ∀ (s : Shared) (u : Value), BindsTo s fd ⟨[u], []⟩ [(x, u)])
    (only : Only H) (ok : HOk P w H sL.heap) (isA : ∀ b, H b ≠ none → b = a) (notK : H a ≠ none → K.lookup a = none) (h : sp [.ref a] H (fun v _ => v = .bl true) fun _ _ _ => False) :
    codeAny (model P w) callerA (.call (.ref fa) ⟨[.ref a], []⟩) (fun r s' => r = .ok (.ret (.bool true)) ∧ OldK sL.heap s'.heap ∧ s'.os = sL.os ∧ AllBare s'.gens) sL := by
  have free : ∀ {b : Addr} {o : Obj}, sL.heap.get? b = some o → (b = a → H a = none) → H b = none := fun {b o} e q => by
    by_cases z : b = a
    · rw [z]; exact q z
    · cases y : H b with
      | none => rfl
      | some u => exact absurd (isA b (by rw [y]; exact fun t => nomatch t)) z
  have up : ∀ {b : Addr} {o : Obj}, sL.heap.get? b = some o → (b = a → H a = none) → (hidT sL.heap H).get? b = some o := fun e q => hidT_get e (free e q)
  have upN : ∀ {b : Addr} {m : Str → Option Value}, sL.heap.Ns b m → (hidT sL.heap H).Ns b m := fun {b m} ⟨o, es, ep, e, d, r⟩ => ⟨o, es, ep, up e (fun z => by
    subst z
    rw [at_a] at e
    cases e
    cases d), d, r⟩
  have inB : K.In (hidT sL.heap H) := fun b o e => up (inK b o e) fun z => by
    subst z
    cases q : H b with
    | none => rfl
    | some u => rw [notK (by rw [q]; exact fun t => nomatch t)] at e; cases e
  obtain ⟨mc, l1, l2⟩ := noL
  have md : Mod K mg (hidT sL.heap H) := ⟨inB, upN nsG, ⟨mb, upN nsB, blt⟩, ⟨mc, upN l1, l2⟩⟩
  have en : Env0 P w K mg (hidT sL.heap H) callerA [] sL H := ⟨rfl, md, fun b o e => of_hidT e, Nat.le_of_eq (hidT_size _ _), trivial, (fun b z => nomatch (show b ∈ ([] : List Addr) from z)), ok, .of_eq noG⟩
  refine codeAny_mono ((fn _ inB (upN nsG)).run callerA [] sL H ⟨[.ref a], []⟩ [.ref a] [.ref a] _ _ rfl rm en (bnd sL (.ref a)) (.cons rfl .nil) h) fun r s' hr => ?_
  cases r with
  | error e =>
    obtain ⟨_, _, _, _, _, _, _, _, _, _, _, _, z⟩ := hr
    exact z.elim
  | ok fl =>
    cases fl with
    | ret u =>
      obtain ⟨v, H2, os, bare, un, ok2, rv, q⟩ := hr
      subst q
      cases (show u = Value.bool true from rv)
      refine ⟨rfl, OldK.of_keep fun b o e => ?_, os, bare⟩
      cases q : H b with
      | none => exact un.keep b o e q (fun z => nomatch (show b ∈ ([] : List Addr) from z)) (by simp)
      | some u =>
        rcases only b with z | ⟨ob, xs, z⟩
        · rw [q] at z
          cases z
        · have e1 := (ok b _ z).1
          have e2 := (ok2 b _ (un.frzs b _ _ z)).1
          rw [e] at e1
          cases e1
          exact e2
    | _ => exact hr.elim
theorem law_callG (inK : K.In sL.heap) (nsG : sL.heap.Ns mainGlobals mg) (nsB : sL.heap.Ns builtinsNs mb) (blt : ∀ y : Str, y ≠ "__name__" → mb y = bootBuiltins y) (noL : sL.heap.NoLimit) (noG : sL.gens = #[])
    (at_a : sL.heap.get? a = some { cls := .type "list", data := .seq vs.toArray }) (hInts : IntsAre vs ns) (few : ns.length ≤ sizeLine) (rm : Room k callerA) (fn : ∀ b : Heap, K.In b → b.Ns mainGlobals mg → FnG P w K mg b k fa fd [x] sp) (bnd : ∀ (s : Shared) (u : Value), BindsTo s fd ⟨[u], []⟩ [(x, u)])
    (prom : ∀ H : Hp, Only H → SqL K H a (ns.map V.int) → sp [.ref a] H (fun v _ => v = .bl true) fun _ _ _ => False) :
    codeAny (model P w) callerA (.call (.ref fa) ⟨[.ref a], []⟩) (fun r s' => r = .ok (.ret (.bool true)) ∧ OldK sL.heap s'.heap ∧ s'.os = sL.os ∧ AllBare s'.gens) sL := by
  have vi := vals_ints hInts
  cases hk : K.lookup a with
  | some o =>
    have e := inK a o hk
    rw [at_a] at e
    cases e
    have sq : SqL K (fun _ => none) a (ns.map V.int) := .inr ⟨_, vs.toArray, _, hk, rfl, rfl, rfl, by rw [List.size_toArray, hInts.length]; exact few, vi⟩
    exact law_from inK nsG nsB blt noL noG at_a rm fn bnd (H := fun _ => none) (fun _ => .inl rfl) (fun b u z => nomatch (show (none : Option HO) = some u from z)) (fun b z => absurd rfl z) (fun z => absurd rfl z) (prom _ (fun _ => .inl rfl) sq)
  | none =>
    let HA : Hp := fun b => if b = a then some (.frz { cls := .type "list", data := .seq vs.toArray } (.lst (ns.map V.int))) else none
    have hA : HA a = some (.frz { cls := .type "list", data := .seq vs.toArray } (.lst (ns.map V.int))) := if_pos rfl
    have hO : ∀ {b}, b ≠ a → HA b = none := fun n => if_neg n
    have on : Only HA := fun b => by
      by_cases z : b = a
      · rw [z]; exact .inr ⟨_, _, hA⟩
      · exact .inl (hO z)
    refine law_from inK nsG nsB blt noL noG at_a rm fn bnd (H := HA) on (fun b u z => ?_) (fun b z => ?_) (fun _ => hk) (prom HA on (.inl (.inr ⟨_, hA⟩)))
    · by_cases y : b = a
      · subst y
        rw [hA] at z
        cases z
        exact ⟨at_a, by rw [List.length_map]; exact few, vs, _, vi, at_a⟩
      · rw [hO y] at z
        cases z
    · by_cases y : b = a
      · exact y
      · exact absurd (hO y) z
end
/-- the law's end -/
theorem walk_G {l : PySem.W.OpenLaw} {n k : Nat} {q : Program} {loose : List Str} {XP : (Str → Option Value) → Heap → Prop} {YP : World → Heap → Prop} {d : DefRec} {x : Str} (hn : l.most = some n) (hn2 : n ≤ sizeLine) (hdf : d.params.defaults = []) (rm : Room k callerA)
    (F : ∀ (w : World) (mg : Str → Option Value) (fa : Addr) (h : Heap), YP w h → h.Ns mainGlobals mg → mg d.name = some (.ref fa) → ∃ (K : PySem.W.Frag) (fd : FuncData) (sp : Sp), K.In h ∧ (∀ (s : Shared) (u : Value), BindsTo s fd ⟨[u], []⟩ [(x, u)]) ∧
      (∀ (H : Hp) (a : Addr) (ns : List Int), ns.length ≤ n → Only H → SqL K H a (ns.map V.int) → sp [.ref a] H (fun v _ => v = .bl true) fun _ _ _ => False) ∧ ∀ b : Heap, K.In b → b.Ns mainGlobals mg → FnG l.prog w K mg b k fa fd [x] sp) :
    PySem.W.WalkO q loose XP YP l.row.toRowW d [] (fun f vs => PySem.call f vs) := by
  refine Att.attach_call hn hdf fun w s₀ sL mg mb fa o pm cd doc a vs ns G Y ho hd hcd hmg hobj hints hlen hg => ?_
  obtain ⟨K, fd, sp, KX, hb, hsp, hF⟩ := F w mg fa _ Y G.T.g hmg
  exact law_callG KX G.T.g G.T.b G.T.builtins G.T.nolimit hg hobj hints (Nat.le_trans hlen hn2) rm hF hb fun H hO hS => hsp H a ns hlen hO hS
end
end PV
/-! ## a law as a datum -/
namespace PV
open PySem L2 PyProof.Rows
noncomputable section
/-- where a def stands -/
inductive Wh where
  | glo (x : Str) | meth (c m : Str) | getr (c m : Str) | clsm (c m : Str)
  deriving DecidableEq
def Wh.ad (K : PySem.W.Frag) : Wh → Addr
  | .glo x => He.ga K x
  | .meth c m => He.ma K (He.ga K c) m
  | .getr c m => (match PySem.W.recIn K (He.ma K (He.ga K c) m) "property" with
    | some (.ref g :: _) => g
    | _ => 0)
  | .clsm c m => (match PySem.W.recIn K (He.ma K (He.ga K c) m) "classmethod" with
    | some (.ref g :: _) => g
    | _ => 0)
structure DD where
  at_ : Wh
  name : Str
  qual : Str
  params : Arguments
  body : List Stmt
  scope : Scope
  dfl : List He.Dv := []
  dd : List D := []
  N : List Str
  ps : List Str
  ss : Ss
def DD.sc (d : DD) : Sc := ⟨d.N, d.scope.names, (d.scope.names.filter fun p => p.2 == .local || p.2 == .cell).map (·.1)⟩
def DD.F (d : DD) : Fn := ⟨d.N.length, d.ss⟩
def DD.val (d : DD) : He.FnW := some (d.name, d.qual, d.params, .stmts d.body, d.scope, mainGlobals, [], builtinsNs)
def DD.obs (K : PySem.W.Frag) (d : DD) : He.FnW := match K.lookup (d.at_.ad K) with
  | some ⟨_, _, .func fd, _⟩ => some (fd.name, fd.qualname, fd.params, fd.body, fd.scope, fd.globals, fd.closure, fd.builtins)
  | _ => none
def DD.dvs (K : PySem.W.Frag) (d : DD) : List V := d.dfl.map (He.Dv.v K)
/-- a default's datum -/
def dvB (K : PySem.W.Frag) (v : V) (d : D) : Bool := match d, v with
  | .non, .non => true
  | .bl b, .bl c => b == c
  | .int i, .int j => decide (i = j)
  | .str x, .str y => decide (x = y)
  | .tup [], .ref a => (match K.lookup a with
    | some ⟨c, _, .seq its _, _⟩ => decide (c = .type "tuple") && its.toList.isEmpty
    | _ => false)
  | _, _ => false
theorem dvB_ok {K : PySem.W.Frag} {cn : Nat → Addr} {v : V} {d : D} (h : dvB K v d = true) (O : Addr → Prop) (H : Hp) : Den K cn O H v d := by
  unfold dvB at h
  split at h
  · exact .non
  · cases beq_iff_eq.mp h; exact .bl _
  · cases of_decide_eq_true h; exact .int _
  · cases of_decide_eq_true h; exact .str _
  · rename_i a
    split at h
    · rename_i c od its n sl hl
      simp only [Bool.and_eq_true, decide_eq_true_eq, List.isEmpty_iff] at h
      refine .tup (.inr ⟨rfl, _, its, n, hl, h.1, rfl, ?_, ?_⟩) .nil
      · have : its.size = its.toList.length := rfl
        rw [this, h.2]
        exact Nat.zero_le _
      · rw [h.2]; exact .nil
    · cases h
  · cases h
def dvsB (K : PySem.W.Frag) : List V → List D → Bool
  | [], [] => true
  | v :: vs, d :: ds => dvB K v d && dvsB K vs ds
  | _, _ => false
def DD.ok (K : PySem.W.Frag) (d : DD) : Bool := dvsB K (d.dvs K) d.dd && (PySem.W.keepIn K (.ref (d.at_.ad K)) && (match K.lookup (d.at_.ad K) with
  | some ⟨_, _, .func fd, _⟩ => PySem.W.codeIn K fd.code d.qual && He.dflB K fd.defaults (d.dvs K)
  | _ => false))
theorem DD.funD {K : PySem.W.Frag} {d : DD} (e : d.obs K = d.val) (c : d.ok K = true) : ∃ fd, FunD K d.name d.qual d.params d.body d.scope (d.dvs K) [] (d.at_.ad K) fd := by
  unfold DD.ok at c
  rw [Bool.and_eq_true, Bool.and_eq_true] at c
  obtain ⟨_, kp, c2⟩ := c
  unfold DD.obs at e
  cases q : K.lookup (d.at_.ad K) with
  | none => rw [q] at c2; cases c2
  | some o =>
    obtain ⟨oc, od, dt, osl⟩ := o
    rw [q] at c2 e
    cases dt with
    | func fd =>
      obtain ⟨n1, n2, n3, n4, n5, n6, n7, n8, n9, n10, n11, n12, n13, n14, n15⟩ := fd
      replace e : (some (n1, n2, n3, n4, n5, n6, n7, n15) : He.FnW) = d.val := e
      simp only [DD.val, Option.some.injEq, Prod.mk.injEq] at e
      obtain ⟨rfl, rfl, rfl, rfl, rfl, rfl, rfl, rfl⟩ := e
      replace c2 : (PySem.W.codeIn K n13 d.qual && He.dflB K n8 (d.dvs K)) = true := c2
      rw [Bool.and_eq_true] at c2
      exact ⟨_, ⟨oc, od, n8, n9, n10, n11, n12, n13, n14, osl, rfl, q, c2.1, He.dflB_ok c2.2, .inl rfl⟩, kp⟩
    | _ => cases c2
/-- the check of a def that needs no heap -/
def fnScB (N ps : List Str) (sc : Scope) : Bool := decide (sc.kind = .function) && !sc.isCoroutine && !sc.isGenerator && decide N.Nodup && decide (N.take ps.length = ps) && (ps.all fun x => sc.names.lookup x == some .local || sc.names.lookup x == some .cell) && (sc.names.all fun y => y.2 != .free) &&
  (sc.names.all fun y => sc.names.lookup y.1 == some y.2)
theorem fnScB_ok {N ps : List Str} {sc : Scope} (h : fnScB N ps sc = true) : FnScope N ps sc ∧ ∀ y ∈ sc.names, sc.names.lookup y.1 = some y.2 := by
  simp only [fnScB, Bool.and_eq_true, decide_eq_true_eq, Bool.not_eq_true'] at h
  obtain ⟨⟨⟨⟨⟨⟨⟨h1, h2⟩, h3⟩, h4⟩, h5⟩, h6⟩, h7⟩, h8⟩ := h
  refine ⟨⟨h1, h2, h3, h4, h5, fun x hx => ?_, fun y hy => ?_⟩, fun y hy => ?_⟩
  · have := List.all_eq_true.mp h6 x hx
    simpa using this
  · have := List.all_eq_true.mp h7 y hy
    simpa using this
  · have := List.all_eq_true.mp h8 y hy
    simpa using this
def DD.chk (G : Gs) (d : DD) : Bool := fnScB d.N d.ps d.scope && chSs G d.sc d.ss d.body
/-- a def's body in its context -/
theorem ctx_of {P : Program} {w : World} {K : PySem.W.Frag} {mg : Str → Option Value} {base : Heap} {qual : Str} {f : Addr} {cdv : Value} {A : Around} {outer : List Env} {s : Shared} {H : Hp} {E : XK} {G : Gs} {k : Nat} {C : Ct} (d : DD) (hS : fnScB d.N d.ps d.scope = true)
    (hgd : A.guards = some []) (hr : Room (2 * k + 1) (A.deeper (envOfC qual d.scope s.heap.objs.size f cdv))) (hW : C.W = fun cls d _ H => E cls d H) (wld : WldOk (cxOf (CX P w) P w K mg base d.N qual d.scope f cdv A outer s H E) C G k) :
    CtxOk (cxOf (CX P w) P w K mg base d.N qual d.scope f cdv A outer s H E) C G d.sc k := by
  obtain ⟨S, uq⟩ := fnScB_ok hS
  refine ⟨rfl, S.nd, rfl, S.kind, fun x hx => ⟨?_, .inl rfl⟩, rfl, hgd, hr, passes_of rfl, ?_, wld⟩
  · simp only [DD.sc, List.contains_eq_mem, List.mem_map, List.mem_filter, decide_eq_true_eq] at hx
    obtain ⟨⟨n, j⟩, ⟨hm, hj⟩, rfl⟩ := hx
    have hl := uq _ hm
    simp only [Bool.or_eq_true, beq_iff_eq] at hj
    show d.scope.names.lookup n = _ ∨ d.scope.names.lookup n = _
    rw [hl]
    rcases hj with hj | hj
    · subst hj; exact .inl rfl
    · subst hj; exact .inr rfl
  · rw [hW]
    exact takes_of rfl rfl rfl rfl
end
end PV
/-! ## a law as a datum: the whole -/
namespace PV
open PySem L2 PyProof.Rows
noncomputable section
structure LawD where
  defs : List DD
  gl : List (Str × GK)
  shs : List (Nat × Nat × List Str × List (Option Nat)) := []
  shm : List (Str × Nat × List Str × List (Option Nat)) := []
  shk : List (Nat × Nat × List Str × List (Option Nat)) := []
  mths : List (Nat × Str × Nat) := []
  prps : List (Nat × Str × Nat) := []
  inis : List (Nat × Nat) := []
  fls : List (Nat × Str) := []
  cls : List Str := []
  glos : List D := []
def LawD.G (L : LawD) : Gs := ⟨L.gl, L.shs, L.shm, L.shk⟩
def LawD.wd (L : LawD) : Wd where
  glos := L.glos
  dfl := fun f => match L.defs[f]? with
    | some d => d.dd
    | none => []
  npar := fun f => match L.defs[f]? with
    | some d => d.ps.length
    | none => 0
  mth := fun c m => (L.mths.find? fun p => p.1 == c && p.2.1 == m).map (·.2.2)
  prp := fun c m => (L.prps.find? fun p => p.1 == c && p.2.1 == m).map (·.2.2)
  ini := fun c => L.inis.lookup c
  nc := L.cls.length
  fl := fun c f => L.fls.contains (c, f)
def LawD.fns (L : LawD) (i : Nat) : Option Fn := (L.defs[i]?).map DD.F
def LawD.cn (L : LawD) (K : PySem.W.Frag) (c : Nat) : Addr := match L.cls[c]? with
  | some x => He.ga K x
  | none => 0
def conK (d : D) (u : Option (Option Value)) : Bool := match d, u with
  | .int i, some (some (.int j _)) => decide (i = j)
  | .str x, some (some (.str y _)) => decide (x = y)
  | _, _ => false
def Lat (L : LawD) (g : Nat) (w : Wh) : Bool := match L.defs[g]? with
  | some d => decide (d.at_ = w)
  | none => false
/-- what is asked of the heap behind the top -/
def LawD.glB (L : LawD) (K : PySem.W.Frag) : Bool := (builtinNames.all fun x => He.eqO (PySem.W.nsIn K mainGlobals x) (some none)) && L.gl.all fun p => match p.2 with
  | .fn f => He.eqO (PySem.W.nsIn K mainGlobals p.1) (some (some (.ref (He.ga K p.1)))) && Lat L f (.glo p.1)
  | .cls c => He.eqO (PySem.W.nsIn K mainGlobals p.1) (some (some (.ref (He.ga K p.1)))) && decide (L.cls[c]? = some p.1)
  | .con g => (match L.glos[g]? with
    | some d => conK d (PySem.W.nsIn K mainGlobals p.1)
    | none => false)
def clsB (K : PySem.W.Frag) (C : Addr) : Bool := PySem.W.plainGet K C Str.empty && PySem.W.hasDictIn K C && PySem.W.plainOver K C && He.eqO (PySem.W.findIn K (.ref C) "__setattr__") (some (some (.builtin "object.__setattr__")))
def tyNms : List String := ["NoneType", "bool", "int", "str", "tuple", "list", "dict"]
def LawD.isB (L : LawD) (K : PySem.W.Frag) : Bool := (L.cls.all fun x => clsB K (He.ga K x) && He.eqO (PySem.W.findIn K (.ref (He.ga K x)) "__class__") (some (some (.builtin "object.__class__"))) && decide (PySem.W.mroIn K (He.ga K x) (.type "object") = some true) &&
    (tyNms.all fun T => decide (PySem.W.kitOne K (.type T) (.ref (He.ga K x)) = some false)) && (tyNms.all fun T => T == "NoneType" || decide (PySem.W.kitOne K (.ref (He.ga K x)) (.type T) = some false))) &&
  (L.cls.isEmpty || He.eqO (PySem.W.specialIn K (.builtin "object.__class__") "__get__") (some (some (.builtin "getset_descriptor.__get__"))) && decide (PySem.W.takesIn K (.builtin "object.__class__") = some true)) &&
  ((List.range L.cls.length).all fun j => (List.range L.cls.length).all fun k => decide (PySem.W.kitOne K (.ref (L.cn K j)) (.ref (L.cn K k)) = some (decide (j = k))))
def LawD.mtB (L : LawD) (K : PySem.W.Frag) : Bool := (L.mths.all fun p => decide (p.1 < L.cls.length) && Lat L p.2.2 (.meth (L.cls.getD p.1 Str.empty) p.2.1) && He.eqO (PySem.W.findIn K (.ref (L.cn K p.1)) p.2.1) (some (some (.ref (He.ma K (L.cn K p.1) p.2.1)))) && PySem.W.isFn K (.ref (He.ma K (L.cn K p.1) p.2.1)) && PySem.W.keepIn K (.ref (He.ma K (L.cn K p.1) p.2.1))) &&
  (L.prps.all fun p => decide (p.1 < L.cls.length) && Lat L p.2.2 (.getr (L.cls.getD p.1 Str.empty) p.2.1) && He.eqO (PySem.W.findIn K (.ref (L.cn K p.1)) p.2.1) (some (some (.ref (He.ma K (L.cn K p.1) p.2.1)))) && He.eqO (PySem.W.specialIn K (.ref (He.ma K (L.cn K p.1) p.2.1)) "__get__") (some (some (.builtin "property.__get__"))) &&
    decide (PySem.W.takesIn K (.ref (He.ma K (L.cn K p.1) p.2.1)) = some true) && (match PySem.W.recIn K (He.ma K (L.cn K p.1) p.2.1) "property" with
      | some (.ref _ :: _) => true
      | _ => false)) &&
  (L.inis.all fun p => decide (p.1 < L.cls.length) && Lat L p.2 (.meth (L.cls.getD p.1 Str.empty) "__init__") && PySem.W.makesIn K (L.cn K p.1) && He.eqO (PySem.W.findIn K (.ref (L.cn K p.1)) "__init__") (some (some (.ref (He.ma K (L.cn K p.1) "__init__")))) && PySem.W.isFn K (.ref (He.ma K (L.cn K p.1) "__init__")) && PySem.W.keepIn K (.ref (L.cn K p.1))) &&
  (L.fls.all fun p => decide (p.1 < L.cls.length) && He.eqO (PySem.W.findIn K (.ref (L.cn K p.1)) p.2) (some none))
def LawD.okB (L : LawD) (K : PySem.W.Frag) : Bool := L.glB K && L.isB K && L.mtB K && L.defs.all fun d => d.ok K
def LawD.obs (L : LawD) (K : PySem.W.Frag) : He.AlD := (L.okB K, L.defs.map fun d => d.obs K)
def LawD.val (L : LawD) : He.AlD := (true, L.defs.map DD.val)
def LawD.hook (L : LawD) (n : Nat) : PySem.W.Hook where
  α := He.AlD
  obs := fun s => L.obs (He.frG s.heap.get? (He.asD s.heap.get? n))
  val := fun _ => L.val
  says := fun _ h => ∃ K : PySem.W.Frag, K.In h ∧ L.obs K = L.val
  of := fun _ _ e => ⟨_, He.frG_in, e⟩
  keeps := fun _ _ _ ⟨K, hK, c⟩ k => ⟨K, PySem.W.Frag.In.keeps hK k, c⟩
def LawD.ob (L : LawD) (n : Nat) (s : PySem.W.SharedT) : He.AlD := L.obs (He.frG (HandSHeadRun.getT s) (He.asD (HandSHeadRun.getT s) n))
theorem LawD.ob_eq {L : LawD} {n : Nat} (s : PySem.W.SharedT) : L.ob n s = (L.hook n).obs s.abs := by
  have e : HandSHeadRun.getT s = s.abs.heap.get? := funext (HandSHeadRun.getT_eq s)
  unfold LawD.ob
  rw [e]
  rfl
section
variable {L : LawD} {K : PySem.W.Frag}
theorem LawD.funD (h : L.obs K = L.val) {i : Nat} {d : DD} (hd : L.defs[i]? = some d) : ∃ fd, FunD K d.name d.qual d.params d.body d.scope (d.dvs K) [] (d.at_.ad K) fd := by
  have h1 : L.okB K = true := congrArg (fun z : He.AlD => z.1) h
  have h2 : L.defs.map (fun d => d.obs K) = L.defs.map DD.val := congrArg (fun z : He.AlD => z.2) h
  have e : (L.defs.map fun d => d.obs K)[i]? = (L.defs.map DD.val)[i]? := by rw [h2]
  rw [List.getElem?_map, List.getElem?_map, hd] at e
  simp only [LawD.okB, Bool.and_eq_true] at h1
  exact DD.funD (Option.some.inj e) (List.all_eq_true.mp h1.2 d (List.mem_of_getElem? hd))
theorem find_mem {α β : Type} [BEq α] [LawfulBEq α] {l : List (Nat × α × β)} {c : Nat} {m : α} {g : β} (h : (l.find? fun p => p.1 == c && p.2.1 == m).map (·.2.2) = some g) : (c, m, g) ∈ l := by
  simp only [Option.map_eq_some_iff] at h
  obtain ⟨p, hp, rfl⟩ := h
  have h1 := List.mem_of_find?_eq_some hp
  have h2 := List.find?_some hp
  simp only [Bool.and_eq_true, beq_iff_eq] at h2
  obtain ⟨a, b, c⟩ := p
  obtain ⟨rfl, rfl⟩ := h2
  exact h1
theorem lookup_mem {β : Type} {l : List (Nat × β)} {c : Nat} {g : β} (h : l.lookup c = some g) : (c, g) ∈ l := by
  induction l with
  | nil => simp at h
  | cons p r ih =>
    obtain ⟨a, b⟩ := p
    rw [List.lookup_cons] at h
    cases e : c == a with
    | true => rw [e] at h; cases h; rw [beq_iff_eq.mp e]; exact List.mem_cons_self
    | false => rw [e] at h; exact List.mem_cons_of_mem _ (ih h)
theorem lookup_memS {β : Type} {l : List (Str × β)} {c : Str} {g : β} (h : l.lookup c = some g) : (c, g) ∈ l := by
  induction l with
  | nil => simp at h
  | cons p r ih =>
    obtain ⟨a, b⟩ := p
    rw [List.lookup_cons] at h
    cases e : c == a with
    | true => rw [e] at h; cases h; rw [beq_iff_eq.mp e]; exact List.mem_cons_self
    | false => rw [e] at h; exact List.mem_cons_of_mem _ (ih h)
theorem Lat_ok {g : Nat} {w : Wh} (h : Lat L g w = true) : ∃ d, L.defs[g]? = some d ∧ d.at_ = w := by
  unfold Lat at h
  split at h
  · rename_i d hd
    exact ⟨d, hd, of_decide_eq_true h⟩
  · cases h
theorem cn_lt {c : Nat} (h : c < L.cls.length) : L.cn K c = He.ga K (L.cls.getD c Str.empty) ∧ L.cls.getD c Str.empty ∈ L.cls := by
  unfold LawD.cn
  rw [List.getElem?_eq_getElem h, List.getD_eq_getElem?_getD, List.getElem?_eq_getElem h]
  exact ⟨rfl, List.getElem_mem h⟩
theorem clsB_ok {C : Addr} (h : clsB K C = true) : Cls K C := by
  simp only [clsB, Bool.and_eq_true] at h
  exact ⟨h.1.1.1, h.1.1.2, h.1.2, He.eqO_ok h.2⟩
theorem LawD.cls_ok (h : L.isB K = true) {c : Nat} (hc : c < L.cls.length) : Cls K (L.cn K c) := by
  simp only [LawD.isB, Bool.and_eq_true] at h
  have := List.all_eq_true.mp h.1.1 _ (cn_lt (K := K) hc).2
  simp only [Bool.and_eq_true] at this
  rw [(cn_lt hc).1]
  exact clsB_ok this.1.1.1.1
theorem LawD.isF (h : L.isB K = true) : IsF K (L.cn K) L.wd.nc := by
  have h0 := h
  simp only [LawD.isB, Bool.and_eq_true, Bool.or_eq_true, List.isEmpty_iff, decide_eq_true_eq] at h
  obtain ⟨⟨h1, h2⟩, h3⟩ := h
  have at_ : ∀ c, c < L.cls.length → _ := fun c hc => List.all_eq_true.mp h1 _ (cn_lt (K := K) hc).2
  refine ⟨fun c hc => ?_, fun hc => ?_, fun j k hj hk => ?_, fun k hk T hT => ?_, fun k hk T hT => ?_⟩
  · have := at_ c hc
    simp only [Bool.and_eq_true, decide_eq_true_eq] at this
    refine ⟨LawD.cls_ok h0 hc, ?_, ?_⟩
    · rw [(cn_lt hc).1]; exact He.eqO_ok this.1.1.1.2
    · rw [(cn_lt hc).1]; exact this.1.1.2
  · rcases h2 with h2 | h2
    · replace hc : 0 < L.cls.length := hc
      rw [h2] at hc
      exact absurd hc (by simp)
    · exact ⟨He.eqO_ok h2.1, h2.2⟩
  · have := List.all_eq_true.mp (List.all_eq_true.mp h3 j (List.mem_range.mpr hj)) k (List.mem_range.mpr hk)
    exact of_decide_eq_true this
  · have := at_ k hk
    simp only [Bool.and_eq_true] at this
    have := List.all_eq_true.mp this.1.2 T hT
    rw [(cn_lt hk).1]
    exact of_decide_eq_true this
  · have := at_ k hk
    simp only [Bool.and_eq_true] at this
    have hm : T ∈ tyNms ∧ T ≠ "NoneType" := by
      simp only [List.mem_cons, List.not_mem_nil, or_false] at hT
      rcases hT with rfl | rfl | rfl | rfl | rfl | rfl <;> exact ⟨by decide, by decide⟩
    have := List.all_eq_true.mp this.2 T hm.1
    simp only [Bool.or_eq_true, beq_iff_eq, decide_eq_true_eq] at this
    rw [(cn_lt hk).1]
    exact this.resolve_left hm.2
end
end
end PV
/-! ## a law as a datum: its defs keep their promises -/
namespace PV
open PySem L2 PyProof.Rows
noncomputable section
abbrev Shp : Type := Nat × Nat × List Str × List (Option Nat)
/-- every form of call that is asked for -/
def LawD.shapes (L : LawD) : List Shp := L.shs ++ (L.shm.flatMap fun q => (L.mths.filter fun p => p.2.1 == q.1).map fun p => (p.2.2, q.2.1 + 1, q.2.2.1, q.2.2.2)) ++ (L.shk.flatMap fun q => match L.inis.lookup q.1 with
  | some g => [(g, q.2.1 + 1, q.2.2.1, q.2.2.2)]
  | none => []) ++ L.prps.map fun p => (p.2.2, 1, [], [some 0])
/-- the making classes have makers -/
def LawD.mkB (L : LawD) : Bool := L.shk.all fun q => (L.inis.lookup q.1).isSome
theorem conK_ok {K : PySem.W.Frag} {cn : Nat → Addr} {h : Heap} {mg : Str → Option Value} {x : Str} {d : D} (inH : K.In h) (ns : h.Ns mainGlobals mg) (c : conK d (PySem.W.nsIn K mainGlobals x) = true) : ∃ u, mg x = some u ∧ Glo K cn u d := by
  unfold conK at c
  split at c
  · rename_i i j t e
    cases of_decide_eq_true c
    exact ⟨_, PySem.W.mg_of inH ns e, ⟨.int i, ⟨t, rfl⟩, fun O H => .int i⟩⟩
  · rename_i z y t e
    cases of_decide_eq_true c
    exact ⟨_, PySem.W.mg_of inH ns e, ⟨.str z, ⟨t, rfl⟩, fun O H => .str z⟩⟩
  · cases c
section
variable {L : LawD} {X : Cx} {C : Ct} {k : Nat} {h : Heap} {fd : Nat → FuncData}
theorem LawD.wld (hcn : C.cn = L.cn X.K) (hwd : C.wd = L.wd) (hobs : L.obs X.K = L.val) (hmk : L.mkB = true) (inH : X.K.In h) (ns : h.Ns mainGlobals X.mg)
    (hfd : ∀ i d, L.defs[i]? = some d → FunD X.K d.name d.qual d.params d.body d.scope (d.dvs X.K) [] (d.at_.ad X.K) (fd i))
    (hfn : ∀ i d, L.defs[i]? = some d → FnG X.prog X.w X.K X.mg X.base (2 * k) (d.at_.ad X.K) (fd i) d.ps (spF X.K C.cn C.xd C.run d.ps.length i))
    (hsh : ∀ f n ks pm d, (f, n, ks, pm) ∈ L.shapes → L.defs[f]? = some d → ShOk X.K C.cn (fd f) d.ps (dfls (L.wd.npar f) (L.wd.dfl f)) n ks pm) : WldOk X C L.G k := by
  have ok : L.okB X.K = true := congrArg (fun z : He.AlD => z.1) hobs
  simp only [LawD.okB, Bool.and_eq_true] at ok
  obtain ⟨⟨⟨g1, g2⟩, g3⟩, _⟩ := ok
  have g1' := g1
  simp only [LawD.glB, Bool.and_eq_true] at g1'
  obtain ⟨gb, gg⟩ := g1'
  simp only [LawD.mtB, Bool.and_eq_true] at g3
  obtain ⟨⟨⟨m1, m2⟩, m3⟩, m4⟩ := g3
  refine ⟨fun x hx => PySem.W.mg_none_of inH ns (He.eqO_ok (List.all_eq_true.mp gb x hx)), fun x f hl n ks pm hc => ?_, fun x c hl => ?_, fun c n ks pm hc => ?_, fun x g hl => ?_, fun m n ks pm hc c g hm => ?_, fun f c g hp => ?_, ⟨fun c f hf => ?_, fun c f hf => ?_⟩, ?_⟩
  · have := List.all_eq_true.mp gg _ (lookup_memS hl)
    simp only [Bool.and_eq_true] at this
    obtain ⟨d, hd, hat⟩ := Lat_ok this.2
    refine ⟨d.at_.ad X.K, fd f, d.ps, ?_, (hfd f d hd).kp, hfn f d hd, ?_⟩
    · rw [hat]; exact PySem.W.mg_of inH ns (He.eqO_ok this.1)
    · rw [hwd]
      exact hsh f n ks pm d (by
        have := List.contains_iff_mem.mp hc
        simp only [LawD.shapes, List.append_assoc, List.mem_append]
        exact .inl this) hd
  · have := List.all_eq_true.mp gg _ (lookup_memS hl)
    simp only [Bool.and_eq_true, decide_eq_true_eq] at this
    rw [hcn]
    unfold LawD.cn
    rw [this.2]
    exact PySem.W.mg_of inH ns (He.eqO_ok this.1)
  · have hm := List.contains_iff_mem.mp hc
    have hi := List.all_eq_true.mp hmk _ hm
    cases hg : L.inis.lookup c with
    | none => rw [hg] at hi; cases hi
    | some g =>
      have := List.all_eq_true.mp m3 _ (lookup_mem hg)
      simp only [Bool.and_eq_true, decide_eq_true_eq] at this
      obtain ⟨⟨⟨⟨⟨h1, h2⟩, h3⟩, h4⟩, h5⟩, h6⟩ := this
      obtain ⟨d, hd, hat⟩ := Lat_ok h2
      have ha : d.at_.ad X.K = He.ma X.K (L.cn X.K c) "__init__" := by rw [hat, (cn_lt h1).1]; rfl
      have F := hfn g d hd
      rw [ha] at F
      refine ⟨g, He.ma X.K (L.cn X.K c) "__init__", fd g, d.ps, by rw [hwd]; exact hg, ?_, F, ?_⟩
      · rw [hcn]
        exact ⟨h3, He.eqO_ok h4, h5, h6⟩
      · rw [hwd]
        refine hsh g (n + 1) ks pm d ?_ hd
        simp only [LawD.shapes, List.append_assoc, List.mem_append, List.mem_flatMap]
        exact .inr (.inr (.inl ⟨_, hm, by simp only [hg]; exact List.mem_singleton.mpr rfl⟩))
  · have := List.all_eq_true.mp gg _ (lookup_memS hl)
    dsimp only at this
    rw [hwd]
    show ∃ u, X.mg x = some u ∧ ∀ d, L.glos[g]? = some d → Glo X.K C.cn u d
    cases hd : L.glos[g]? with
    | none => rw [hd] at this; cases this
    | some d =>
      rw [hd] at this
      obtain ⟨u, hu, hg⟩ := conK_ok (cn := C.cn) inH ns this
      exact ⟨u, hu, fun d' e => by cases e; exact hg⟩
  · rw [hwd] at hm
    have hmem := find_mem hm
    have := List.all_eq_true.mp m1 _ hmem
    simp only [Bool.and_eq_true, decide_eq_true_eq] at this
    obtain ⟨⟨⟨⟨h1, h2⟩, h3⟩, h4⟩, h5⟩ := this
    obtain ⟨d, hd, hat⟩ := Lat_ok h2
    have ha : d.at_.ad X.K = He.ma X.K (L.cn X.K c) m := by rw [hat, (cn_lt h1).1]; rfl
    have F := hfn g d hd
    rw [ha] at F
    refine ⟨by rw [hcn]; exact LawD.cls_ok g2 h1, He.ma X.K (L.cn X.K c) m, fd g, d.ps, ?_, F, ?_⟩
    · rw [hcn]
      exact ⟨He.eqO_ok h3, h4, h5⟩
    · rw [hwd]
      refine hsh g (n + 1) ks pm d ?_ hd
      have hc' := List.contains_iff_mem.mp hc
      simp only [LawD.shapes, List.append_assoc, List.mem_append, List.mem_flatMap, List.mem_map, List.mem_filter]
      exact .inr (.inl ⟨_, hc', (c, m, g), ⟨hmem, by simp⟩, rfl⟩)
  · rw [hwd] at hp
    have hmem := find_mem hp
    have := List.all_eq_true.mp m2 _ hmem
    simp only [Bool.and_eq_true, decide_eq_true_eq] at this
    obtain ⟨⟨⟨⟨⟨h1, h2⟩, h3⟩, h4⟩, h5⟩, h6⟩ := this
    obtain ⟨d, hd, hat⟩ := Lat_ok h2
    split at h6
    · rename_i gg' rest hr
      have ha : d.at_.ad X.K = gg' := by
        rw [hat]
        unfold Wh.ad
        dsimp only
        rw [← (cn_lt h1).1, hr]
      have F := hfn g d hd
      rw [ha] at F
      refine ⟨by rw [hcn]; exact LawD.cls_ok g2 h1, He.ma X.K (L.cn X.K c) f, gg', fd g, d.ps, ?_, F, ?_⟩
      · rw [hcn]
        exact ⟨He.eqO_ok h3, He.eqO_ok h4, h5, rest, hr⟩
      · rw [hwd]
        refine hsh g 1 [] [some 0] d ?_ hd
        simp only [LawD.shapes, List.append_assoc, List.mem_append, List.mem_map]
        exact .inr (.inr (.inr ⟨(c, f, g), hmem, rfl⟩))
    · cases h6
  · rw [hwd] at hf
    have := List.all_eq_true.mp m4 _ (List.contains_iff_mem.mp hf)
    simp only [Bool.and_eq_true, decide_eq_true_eq] at this
    rw [hcn]
    exact LawD.cls_ok g2 this.1
  · rw [hwd] at hf
    have := List.all_eq_true.mp m4 _ (List.contains_iff_mem.mp hf)
    simp only [Bool.and_eq_true, decide_eq_true_eq] at this
    rw [hcn]
    exact He.eqO_ok this.2
  · rw [hcn, hwd]
    exact LawD.isF g2
end
/-- the check of all defs -/
def LawD.chk (L : LawD) : Bool := L.mkB && L.defs.all fun d => d.chk L.G
/-- every def keeps its promise, at every level -/
theorem LawD.level {L : LawD} {P : Program} {w : World} {K : PySem.W.Frag} {mg : Str → Option Value} {base : Heap} {xd : Exd} {fd : Nat → FuncData} (hchk : L.chk = true) (hobs : L.obs K = L.val) (inH : K.In base) (ns : base.Ns mainGlobals mg)
    (hfd : ∀ i d, L.defs[i]? = some d → FunD K d.name d.qual d.params d.body d.scope (d.dvs K) [] (d.at_.ad K) (fd i))
    (hsh : ∀ f n ks pm d, (f, n, ks, pm) ∈ L.shapes → L.defs[f]? = some d → ShOk K (L.cn K) (fd f) d.ps (dfls (L.wd.npar f) (L.wd.dfl f)) n ks pm) :
    ∀ (k i : Nat) (d : DD), L.defs[i]? = some d → FnG P w K mg base (2 * k) (d.at_.ad K) (fd i) d.ps (spF K (L.cn K) xd (runF L.wd L.fns k) d.ps.length i)
  | 0, i, d, hd => ⟨fun vs H Q E ⟨O, as, _, _, hl, _⟩ => hl, fun A outer s H args us vs Q E _ _ _ _ _ ⟨O, as, _, _, _, z⟩ => z.elim⟩
  | k + 1, i, d, hd => by
    have hk := LawD.level hchk hobs inH ns hfd hsh (P := P) (w := w) (xd := xd) k
    simp only [LawD.chk, Bool.and_eq_true] at hchk
    have hdc := List.all_eq_true.mp hchk.2 d (List.mem_of_getElem? hd)
    simp only [DD.chk, Bool.and_eq_true] at hdc
    have F := hfd i d hd
    obtain ⟨oc, od, dV, kV, doc, pm, an, cdv, ct, osl, hfe, lk, hcd, hD, hK⟩ := F.ex
    rw [hfe]
    rw [hfe] at lk
    obtain ⟨S, _⟩ := fnScB_ok hdc.1
    refine fnG_of (k := 2 * k + 1) lk hcd S (fun vs H Q E ⟨O, as, _, _, hl, _⟩ => hl) fun A outer s H vs Q E hg hr hsp => ?_
    refine ⟨(ctOf (L.cn K) xd L.wd (runF L.wd L.fns k) vs E).tss K d.ss, ?_, body_ok (F := d.F) (by unfold LawD.fns; rw [hd]; rfl) rfl hsp⟩
    have W : WldOk (cxOf (CX P w) P w K mg base d.N d.qual d.scope (d.at_.ad K) cdv A outer s H E) (ctOf (L.cn K) xd L.wd (runF L.wd L.fns k) vs E) L.G k := LawD.wld (h := base) rfl rfl hobs hchk.1 inH ns hfd hk hsh
    exact sndSs d.ss (ctx_of d hdc.1 hg hr rfl W) d.body hdc.2
/-- the law's promise at a script -/
theorem law_sp {K : PySem.W.Frag} {cn : Nat → Addr} {xd : Exd} {run : Nat → List Sl → Res} {f : Nat} {a : Addr} {ns : List Int} {H : Hp} (hS : SqL K H a (ns.map V.int)) {outs : List D} (hr : run f [.val (.fro (ns.map D.int))] = .ok (.bl true) false outs) :
    spF K cn xd run 1 f [.ref a] H (fun v _ => v = .bl true) fun _ _ _ => False := by
  have dl : ∀ ns : List Int, DenL K cn (fun _ => False) H (ns.map V.int) (ns.map D.int) := fun ns => by
    induction ns with
    | nil => exact .nil
    | cons n ns ih => exact .cons (.int n) ih
  refine ⟨fun _ => False, [.val (.fro (ns.map D.int))], .val (.fro ?_ (dl ns)) .nil, fun a z => z.elim, rfl, ?_⟩
  · rcases hS with h | h
    · exact .inl ⟨id, h⟩
    · exact .inr h
  · rw [hr]
    intro v O' H' _ _ _ ret
    cases (show Den K cn O' H' v (.bl true) from ret)
    rfl
end
end PV
/-! ## forms of calls; a law holds -/
namespace PV
open PySem L2 PyProof.Rows
noncomputable section
theorem dflok_none {K : PySem.W.Frag} {cn : Nat → Addr} {ds : List (Option D)} {vs : List V} (h : DflOk K cn ds vs) : ∀ n : Nat, DflOk K cn (List.replicate n none ++ ds) (List.replicate n V.non ++ vs)
  | 0 => h
  | n + 1 => .none (dflok_none h n)
theorem dflok_some {K : PySem.W.Frag} {cn : Nat → Addr} : ∀ {vs : List V} {ds : List D}, dvsB K vs ds = true → DflOk K cn (ds.map some) vs ∧ vs.length = ds.length
  | [], [], _ => ⟨.nil, rfl⟩
  | v :: vs, d :: ds, h => by
    simp only [dvsB, Bool.and_eq_true] at h
    obtain ⟨a, b⟩ := dflok_some h.2
    exact ⟨.some (fun O H => dvB_ok h.1 O H) a, by simp [b]⟩
  | [], _ :: _, h => by cases h
  | _ :: _, [], h => by cases h
theorem vals_none : ∀ n : Nat, Vals (List.replicate n V.non) (List.replicate n Value.none)
  | 0 => .nil
  | n + 1 => .cons rfl (vals_none n)
/-- a form of call of a def, as the law's text proves it -/
def ShAt (L : LawD) (f n : Nat) (ks : List Str) (pm : List (Option Nat)) : Prop := ∀ d, L.defs[f]? = some d → ∀ (K : PySem.W.Frag) (fd : FuncData), L.obs K = L.val → FunD K d.name d.qual d.params d.body d.scope (d.dvs K) [] (d.at_.ad K) fd → ShOk K (L.cn K) fd d.ps (dfls (L.wd.npar f) (L.wd.dfl f)) n ks pm
theorem wd_at {L : LawD} {f : Nat} {d : DD} (hd : L.defs[f]? = some d) : L.wd.npar f = d.ps.length ∧ L.wd.dfl f = d.dd := by
  unfold LawD.wd
  dsimp only
  rw [hd]
  exact ⟨rfl, rfl⟩
/-- no defaults -/
theorem sh_plain {L : LawD} {f n : Nat} {ks : List Str} {pm : List (Option Nat)} (d : DD) (hd : L.defs[f]? = some d) (e1 : d.dfl = []) (e2 : d.dd = []) (nd : (pm.filterMap id).Nodup)
    (hb : ∀ (kV doc pp : Value) (an : Option Addr) (cdv ct : Value) (us ws : List Value), us.length = n → ws.length = ks.length → bindArgs (PySem.W.fnOf d.name d.qual d.params d.body d.scope .none kV doc pp an cdv ct) ⟨us, ks.zip ws⟩ = pure (d.ps.zip (arr (us ++ ws) pm (List.replicate d.ps.length Value.none)))) : ShAt L f n ks pm := by
  intro d' hd' K fd _ F
  rw [hd] at hd'
  cases hd'
  obtain ⟨w1, w2⟩ := wd_at hd
  rw [w1, w2, e2]
  obtain ⟨oc, od, dV, kV, doc, pp, an, cdv, ct, osl, rfl, lk, hcd, hD, hK⟩ := F.ex
  refine ⟨nd, by simp [dfls], List.replicate d.ps.length V.non, List.replicate d.ps.length Value.none, vals_none _, ?_, fun s us ws _ h1 h2 => ?_⟩
  · have := dflok_none (K := K) (cn := L.cn K) .nil d.ps.length
    simpa [dfls] using this
  · rcases hD with ⟨_, rfl⟩ | ⟨z, _⟩
    · exact .of_eq (hb kV doc pp an cdv ct us ws h1 h2)
    · exact absurd (by unfold DD.dvs; rw [e1]; rfl) z
/-- with defaults -/
theorem sh_dfl {L : LawD} {f n : Nat} {ks : List Str} {pm : List (Option Nat)} (d : DD) (hd : L.defs[f]? = some d) (e1 : d.dfl ≠ []) (e3 : d.dd.length ≤ d.ps.length) (nd : (pm.filterMap id).Nodup)
    (hb : ∀ (T : Addr) (kV doc pp : Value) (an : Option Addr) (cdv ct : Value) (us ws its : List Value), us.length = n → ws.length = ks.length → its.length = d.dd.length →
      ∃ k, bindArgs (PySem.W.fnOf d.name d.qual d.params d.body d.scope (.ref T) kV doc pp an cdv ct) ⟨us, ks.zip ws⟩ = seqItems? (.ref T) >>= k ∧ k (some its.toArray) = pure (d.ps.zip (arr (us ++ ws) pm (List.replicate (d.ps.length - d.dd.length) Value.none ++ its)))) : ShAt L f n ks pm := by
  intro d' hd' K fd hobs F
  rw [hd] at hd'
  cases hd'
  obtain ⟨w1, w2⟩ := wd_at hd
  rw [w1, w2]
  have ok : L.okB K = true := congrArg (fun z : He.AlD => z.1) hobs
  simp only [LawD.okB, Bool.and_eq_true] at ok
  have hdk := List.all_eq_true.mp ok.2 d (List.mem_of_getElem? hd)
  unfold DD.ok at hdk
  rw [Bool.and_eq_true] at hdk
  obtain ⟨da, dl⟩ := dflok_some (cn := L.cn K) hdk.1
  obtain ⟨oc, od, dV, kV, doc, pp, an, cdv, ct, osl, rfl, lk, hcd, hD, hK⟩ := F.ex
  rcases hD with ⟨z, _⟩ | ⟨_, T, o, its, m, rfl, lT, oT, rT⟩
  · exact absurd (by simpa [DD.dvs] using z) e1
  · have li : its.length = d.dd.length := by rw [← rT.length, dl]
    refine ⟨nd, by simp [dfls]; omega, List.replicate (d.ps.length - d.dd.length) V.non ++ d.dvs K, List.replicate (d.ps.length - d.dd.length) Value.none ++ its, (vals_none _).append rT, dflok_none da _, fun s us ws X h1 h2 => ?_⟩
    obtain ⟨k, q1, q2⟩ := hb T kV doc pp an cdv ct us ws its h1 h2 li
    refine BindsTo.of_looks fun M => ?_
    rw [q1]
    exact looks_items X lT oT (.of_pure q2)
/-- the end of a law's head -/
theorem LawD.walk {l : PySem.W.OpenLaw} {L : LawD} {q : Program} {loose : List Str} {XP : (Str → Option Value) → Heap → Prop} {d : DefRec} {x : Str} {f kk : Nat} {dd : DD} (hn : l.most = some 63) (hdf : d.params.defaults = []) (rm : Room (2 * kk) callerA) (hd : L.defs[f]? = some dd) (hat : dd.at_ = .glo d.name)
    (hps : dd.ps = [x]) (hgl : L.gl.lookup d.name = some (.fn f)) (chk : L.chk = true) (hsh : ∀ s ∈ L.shapes, ShAt L s.1 s.2.1 s.2.2.1 s.2.2.2) (e1 : dd.dfl = []) (hlaw : ∀ (kV doc pp : Value) (an : Option Addr) (cdv ct u : Value), bindArgs (PySem.W.fnOf dd.name dd.qual dd.params dd.body dd.scope .none kV doc pp an cdv ct) ⟨[u], []⟩ = pure [(x, u)])
    (sem : ∀ ns : List Int, ns.length ≤ 63 → ∃ outs, runF L.wd L.fns kk f [.val (.fro (ns.map D.int))] = .ok (.bl true) false outs) :
    PySem.W.WalkO q loose XP (fun _ h => ∃ K : PySem.W.Frag, K.In h ∧ L.obs K = L.val) l.row.toRowW d [] (fun f vs => PySem.call f vs) := by
  refine walk_G (n := 63) (k := 2 * kk) (x := x) hn (by decide) hdf rm fun w mg fa h ⟨K, KX, hobs⟩ G hmg => ?_
  have ok : L.okB K = true := congrArg (fun z : He.AlD => z.1) hobs
  simp only [LawD.okB, Bool.and_eq_true, LawD.glB] at ok
  have hg := List.all_eq_true.mp ok.1.1.1.2 _ (lookup_memS hgl)
  simp only [Bool.and_eq_true] at hg
  have efa : fa = dd.at_.ad K := by
    have := (PySem.W.mg_of KX G (He.eqO_ok hg.1)).symm.trans hmg
    cases this
    rw [hat]
    rfl
  have hfd : ∀ i : Nat, ∃ fd : FuncData, ∀ d : DD, L.defs[i]? = some d → FunD K d.name d.qual d.params d.body d.scope (d.dvs K) [] (d.at_.ad K) fd := fun i => by
    cases e : L.defs[i]? with
    | none => exact ⟨PySem.W.fnOf "" "" ⟨[], [], none, [], [], none, []⟩ [] ⟨.function, [], false, false, []⟩ .none .none .none .none none .none .none, fun d z => by cases z⟩
    | some d =>
      obtain ⟨fd, F⟩ := LawD.funD hobs e
      exact ⟨fd, fun d' z => by cases z; exact F⟩
  let fd : Nat → FuncData := fun i => Classical.choose (hfd i)
  have hF : ∀ (i : Nat) (d : DD), L.defs[i]? = some d → FunD K d.name d.qual d.params d.body d.scope (d.dvs K) [] (d.at_.ad K) (fd i) := fun i => Classical.choose_spec (hfd i)
  obtain ⟨oc, od, dV, kV, doc, pp, an, cdv, ct, osl, hfe, lk, hcd, hD, hK⟩ := (hF f dd hd).ex
  refine ⟨K, fd f, spF K (L.cn K) ⟨fun _ => 0, fun _ => []⟩ (runF L.wd L.fns kk) 1 f, KX, fun s u => ?_, fun H a ns hl _ hS => ?_, fun b Kb Gb => ?_⟩
  · rw [hfe]
    rcases hD with ⟨_, rfl⟩ | ⟨z, _⟩
    · exact .of_eq (hlaw kV doc pp an cdv ct u)
    · exact absurd (by unfold DD.dvs; rw [e1]; rfl) z
  · obtain ⟨outs, ho⟩ := sem ns hl
    exact law_sp hS ho
  · have := LawD.level (P := l.prog) (w := w) (xd := ⟨fun _ => 0, fun _ => []⟩) chk hobs Kb Gb hF (fun f n ks pm d hm hd => hsh _ hm d hd K (fd f) hobs (hF f d hd)) kk f dd hd
    rw [hps, ← efa] at this
    exact this
end
end PV
/-! ## plain laws: the evaluator's steps, their proofs -/
namespace PV
open PySem
/-- a law's numbers of defs, constants, classes -/
structure Nu where
  f : Nat → Nat
  g : Nat → Nat
  c : Nat → Nat
/-! ### data that == may ask of -/
def Sh (n : Nat) (d : D) : Prop := ∃ y, pd d = some y ∧ y.canLay0 = true ∧ y.depth ≤ n
def ShL (n : Nat) (ds : List D) : Prop := ∃ ys, pdL ds = some ys ∧ PyData.canLayAll0 ys = true ∧ PyData.depthAll ys ≤ n
theorem Sh.non {n : Nat} : Sh n .non := ⟨_, rfl, rfl, by simp [PyData.depth]⟩
theorem Sh.bl {n : Nat} {b : Bool} : Sh n (.bl b) := ⟨_, rfl, rfl, by simp [PyData.depth]⟩
theorem Sh.int {n : Nat} {i : Int} : Sh n (.int i) := ⟨_, rfl, rfl, by simp [PyData.depth]⟩
theorem Sh.str {n : Nat} {x : Str} (h : PyData.strOk x = true) : Sh n (.str x) := ⟨_, rfl, by simpa [PyData.canLay0] using h, by simp [PyData.depth]⟩
theorem ShL.nil {n : Nat} : ShL n [] := ⟨_, rfl, rfl, by simp [PyData.depthAll]⟩
theorem ShL.cons {n : Nat} {d : D} {ds : List D} : Sh n d → ShL n ds → ShL n (d :: ds) := fun ⟨y, a, b, c⟩ ⟨ys, a', b', c'⟩ => ⟨y :: ys, by simp [pdL, a, a'], by simp [PyData.canLayAll0, b, b'], by simp only [PyData.depthAll]; omega⟩
theorem ShL.all {n : Nat} : ∀ {ds : List D}, (∀ d ∈ ds, Sh n d) → ShL n ds
  | [], _ => .nil
  | _ :: _, h => .cons (h _ List.mem_cons_self) (ShL.all fun d m => h d (List.mem_cons_of_mem _ m))
theorem ShL.map {α : Type} {n : Nat} {f : α → D} {xs : List α} (h : ∀ x ∈ xs, Sh n (f x)) : ShL n (xs.map f) := .all fun d m => by
  obtain ⟨a, ha, rfl⟩ := List.mem_map.mp m
  exact h a ha
theorem Sh.tup {n : Nat} {ds : List D} : ShL n ds → Sh (n + 1) (.tup ds) := fun ⟨ys, a, b, c⟩ => ⟨.tuple ys, by simp [pd, a], by simpa [PyData.canLay0] using b, by simp only [PyData.depth]; omega⟩
theorem Sh.lst {n : Nat} {ds : List D} : ShL n ds → Sh (n + 1) (.lst ds) := fun ⟨ys, a, b, c⟩ => ⟨.list ys, by simp [pd, a], by simpa [PyData.canLay0] using b, by simp only [PyData.depth]; omega⟩
theorem Sh.mono {n m : Nat} {d : D} (h : n ≤ m) : Sh n d → Sh m d := fun ⟨y, a, b, c⟩ => ⟨y, a, b, Nat.le_trans c h⟩
theorem Sh.shp {n : Nat} {d : D} (h : Sh n d) (hn : n ≤ 64) : PV.shp d = true := by
  obtain ⟨y, a, b, c⟩ := h
  unfold PV.shp
  rw [a]
  simp only [SeqAt.shaped, b, Bool.true_and, decide_eq_true_eq]
  omega
theorem eqvL_map {α : Type} (f : α → D) (inj : ∀ a b, eqv (f a) (f b) = true ↔ a = b) : ∀ xs ys : List α, eqvL (xs.map f) (ys.map f) = true ↔ xs = ys
  | [], [] => by simp [eqvL]
  | [], _ :: _ => by simp [eqvL]
  | _ :: _, [] => by simp [eqvL]
  | x :: xs, y :: ys => by simp only [List.map_cons, eqvL, Bool.and_eq_true, inj, eqvL_map f inj xs ys, List.cons.injEq]
/-- how typed things are data -/
class Ec {α : Type} (f : α → D) : Prop where
  sh : ∀ a, Sh 20 (f a)
  inj : ∀ a b, eqv (f a) (f b) = true ↔ a = b
instance : Ec D.int := ⟨fun _ => .int, fun a b => by simp [eqv]⟩
theorem Ec.eqv {α : Type} {f : α → D} [Ec f] [DecidableEq α] (a b : α) : PV.eqv (f a) (f b) = decide (a = b) := by rw [Bool.eq_iff_iff, Ec.inj, decide_eq_true_iff]
theorem pyEq_ec {α : Type} {f : α → D} [Ec f] [DecidableEq α] (a b : α) : pyEq (f a) (f b) = some (decide (a = b)) := by
  unfold pyEq
  rw [(Ec.sh a).shp (by omega), (Ec.sh b).shp (by omega), Ec.eqv]
  rfl
theorem pyEq_tup {α : Type} {f : α → D} [Ec f] [DecidableEq α] (a b : List α) : pyEq (.tup (a.map f)) (.tup (b.map f)) = some (decide (a = b)) := by
  unfold pyEq
  rw [(Sh.tup (ShL.map fun x _ => Ec.sh x)).shp (show 20 + 1 ≤ 64 by omega), (Sh.tup (ShL.map fun x _ => Ec.sh x)).shp (show 20 + 1 ≤ 64 by omega)]
  simp only [Bool.and_true, if_true, Option.some.injEq]
  rw [Bool.eq_iff_iff, decide_eq_true_iff]
  exact eqvL_map f Ec.inj a b
theorem pyEq_lst {α : Type} {f : α → D} [Ec f] [DecidableEq α] (a b : List α) : pyEq (.lst (a.map f)) (.lst (b.map f)) = some (decide (a = b)) := by
  unfold pyEq
  rw [(Sh.lst (ShL.map fun x _ => Ec.sh x)).shp (show 20 + 1 ≤ 64 by omega), (Sh.lst (ShL.map fun x _ => Ec.sh x)).shp (show 20 + 1 ≤ 64 by omega)]
  simp only [Bool.and_true, if_true, Option.some.injEq]
  rw [Bool.eq_iff_iff, decide_eq_true_iff]
  exact eqvL_map f Ec.inj a b
theorem any_eqv {α : Type} {f : α → D} [Ec f] [DecidableEq α] (x : α) (xs : List α) : (xs.map f).any (fun z => eqv z (f x)) = decide (x ∈ xs) := by
  rw [Bool.eq_iff_iff, List.any_eq_true, decide_eq_true_iff]
  constructor
  · rintro ⟨z, hz, h⟩
    obtain ⟨a, ha, rfl⟩ := List.mem_map.mp hz
    rw [Ec.inj] at h
    exact h ▸ ha
  · exact fun h => ⟨_, List.mem_map_of_mem h, (Ec.inj _ _).mpr rfl⟩
theorem shp_lst {α : Type} {f : α → D} [Ec f] (xs : List α) : shp (.lst (xs.map f)) = true := (Sh.lst (ShL.map fun x _ => Ec.sh x)).shp (show 20 + 1 ≤ 64 by omega)
theorem in_tup {α : Type} {f : α → D} [Ec f] [DecidableEq α] (x : α) (xs : List α) : inD (f x) (.tup (xs.map f)) = some (decide (x ∈ xs)) := by
  simp only [inD, (Ec.sh x).shp (show 20 ≤ 64 by omega), shp_lst, any_eqv, Bool.and_self, if_true]
theorem in_lst {α : Type} {f : α → D} [Ec f] [DecidableEq α] (x : α) (xs : List α) : inD (f x) (.lst (xs.map f)) = some (decide (x ∈ xs)) := by
  simp only [inD, (Ec.sh x).shp (show 20 ≤ 64 by omega), shp_lst, any_eqv, Bool.and_self, if_true]
theorem len_ok {n : Nat} (h : n ≤ 1000) : n ≤ sizeLine := Nat.le_trans h (by unfold sizeLine; decide)
abbrev Xp := Nat → List D → Fm → Prop
def noX : Xp := fun _ _ _ => False
def retQ (Q : Fl → Fm → Prop) (r : Rv) (e : Fm) : Prop := match r with
  | .val d => Q (.ret false d) e
  | .fresh d => Q (.ret true d) e
  | _ => False
/-- what a turn hands on -/
def LpK (I : Fm → Prop) (Q : Fl → Fm → Prop) (f : Fl) (e : Fm) : Prop := match f with
  | .next => I e
  | .cnt => I e
  | .brk => Q .next e
  | .ret fr d => Q (.ret fr d) e
namespace W0
/-! ### what an answer is to be: a value, or an exception -/
def Wp0 {α : Type} (o : Out α) (Q : α → Fm → Prop) (X : Xp) : Prop := match o with
  | .ok a e => Q a e
  | .ex c fs e => X c fs e
  | .bad => False
section
variable {α β : Type} {W : Wd} {run : Nat → List Sl → Res} {e : Fm} {Q : Rv → Fm → Prop} {X : Xp} {a b c : E} {es ks : Es} {i j l : Nat} {d : D}
theorem wp_ok {x : α} {Q : α → Fm → Prop} (h : Q x e) : Wp0 (.ok x e) Q X := h
theorem wp_of {o : Out α} {x : α} {Q : α → Fm → Prop} (h : o = .ok x e) (q : Q x e) : Wp0 o Q X := by rw [h]; exact q
theorem wp_imp {o : Out α} {Q R : α → Fm → Prop} (h : Wp0 o Q X) (k : ∀ x e, Q x e → R x e) : Wp0 o R X := by
  cases o with
  | ok x e => exact k x e h
  | ex => exact h
  | _ => exact h.elim
/-- an answer that is known to be one -/
theorem wp_eq {o : Out α} {Q : α → Fm → Prop} (h : Wp0 o Q noX) : ∃ x e, o = .ok x e ∧ Q x e := by
  cases o with
  | ok x e => exact ⟨x, e, rfl, h⟩
  | ex => exact h.elim
  | _ => exact h.elim
theorem wp_x {o : Out α} {Q : α → Fm → Prop} (h : Wp0 o Q noX) : Wp0 o Q X := by
  cases o with
  | ok x e => exact h
  | ex => exact h.elim
  | _ => exact h.elim
theorem wp_bind {o : Out α} {f : α → Fm → Out β} {Q : β → Fm → Prop} (h : Wp0 o (fun x e1 => Wp0 (f x e1) Q X) X) : Wp0 (o.bind f) Q X := by
  cases o with
  | ok x e => exact h
  | ex => exact h
  | _ => exact h.elim
theorem wp_var (h : e[i]? = some (.val d)) (q : Q (.val d) e) : Wp0 (ev W run (.var i) e) Q X := by simp only [ev, h]; exact q
theorem wp_borO (h : e[i]? = some (.own o d)) (q : Q (.bor i) e) : Wp0 (ev W run (.bor i) e) Q X := by simp only [ev, h]; exact q
theorem wp_borV (h : e[i]? = some (.val d)) (q : Q (.val d) e) : Wp0 (ev W run (.bor i) e) Q X := by simp only [ev, h]; exact q
theorem wp_movO (h : e[i]? = some (.own none d)) (q : Q (.fresh d) (e.set i .dead)) : Wp0 (ev W run (.mov i) e) Q X := by simp only [ev, h]; exact q
theorem wp_movV (h : e[i]? = some (.val d)) (q : Q (.val d) e) : Wp0 (ev W run (.mov i) e) Q X := by simp only [ev, h]; exact q
theorem wp_frzO (h : e[i]? = some (.own none d)) (q : Q (.val d) (e.set i (.val d))) : Wp0 (ev W run (.frz i) e) Q X := by simp only [ev, h]; exact q
theorem wp_frzV (h : e[i]? = some (.val d)) (q : Q (.val d) e) : Wp0 (ev W run (.frz i) e) Q X := by simp only [ev, h]; exact q
theorem wp_lend (h : e[i]? = some (.own o d)) (q : Q (.lent i) e) : Wp0 (ev W run (.lend i) e) Q X := by simp only [ev, h]; exact q
theorem wp_con (q : Q (.val d) e) : Wp0 (ev W run (.con d) e) Q X := q
theorem wp_glo (h : W.glos[i]? = some d) (q : Q (.val d) e) : Wp0 (ev W run (.glo i) e) Q X := by simp only [ev, h]; exact q
theorem wp_bin {op : Operator} (q : Wp0 (ev W run a e) (fun x e1 => Wp0 (ev W run b e1) (fun y e2 => Wp0 (rd2 (binD op) x y e2) Q X) X) X) : Wp0 (ev W run (.bin op a b) e) Q X := by
  simp only [ev]
  exact wp_bind (wp_imp q fun x e1 h => wp_bind h)
theorem wp_cmp {op : CmpOp} (q : Wp0 (ev W run a e) (fun x e1 => Wp0 (ev W run b e1) (fun y e2 => Wp0 (rd2 (cmpF op) x y e2) Q X) X) X) : Wp0 (ev W run (.cmp op a b) e) Q X := by
  simp only [ev]
  exact wp_bind (wp_imp q fun x e1 h => wp_bind h)
theorem wp_chn {o1 o2 : CmpOp} (q : Wp0 (ev W run a e) (fun x e1 => Wp0 (ev W run b e1) (fun y e2 => Wp0 (chnR o1 o2 (ev W run c) x y e2) Q X) X) X) : Wp0 (ev W run (.chn o1 o2 a b c) e) Q X := by
  simp only [ev]
  exact wp_bind (wp_imp q fun x e1 h => wp_bind h)
theorem wp_rd2 {f : D → D → Option Rv} {x y r : Rv} {dx dy : D} (hx : x.rd e = some dx) (hy : y.rd e = some dy) (h : f dx dy = some r) (q : Q r e) : Wp0 (rd2 f x y e) Q X := by
  unfold rd2
  rw [hx, hy]
  simp only [h]
  exact q
theorem wp_rd1 {f : D → Option Rv} {x r : Rv} {dx : D} (hx : x.rd e = some dx) (h : f dx = some r) (q : Q r e) : Wp0 (rd1 f x e) Q X := by
  unfold rd1
  rw [hx]
  simp only [h]
  exact q
theorem wp_idxR {x y : Rv} {dx dy r : D} (hx : x.rd e = some dx) (hy : y.fz = some dy) (h : idxD dx dy = some r) (q : Q (.val r) e) : Wp0 (idxR x y e) Q X := by
  unfold idxR
  rw [hx, hy]
  simp only [h]
  exact q
theorem wp_neg (q : Wp0 (ev W run a e) (fun x e1 => ∃ i, x = .val (.int i) ∧ Q (.val (.int (-i))) e1) X) : Wp0 (ev W run (.neg a) e) Q X := by
  simp only [ev]
  exact wp_bind (wp_imp q fun x e1 ⟨i, h, z⟩ => by subst h; exact z)
theorem wp_tst {o : Out Rv} {Q : Bool → Fm → Prop} (q : Wp0 o (fun x e1 => ∃ b, x = .val (.bl b) ∧ Q b e1) X) : Wp0 o.tst Q X := wp_bind (wp_imp q fun x e1 ⟨i, h, z⟩ => by subst h; exact z)
theorem wp_kept {o : Out Rv} {Q : D → Fm → Prop} (q : Wp0 o (fun x e1 => ∃ d, x.fz = some d ∧ Q d e1) X) : Wp0 o.kept Q X := wp_bind (wp_imp q fun x e1 ⟨i, h, z⟩ => by unfold keptR; rw [h]; exact z)
theorem wp_not (q : Wp0 (ev W run a e) (fun x e1 => ∃ b, x = .val (.bl b) ∧ Q (.val (.bl (!b))) e1) X) : Wp0 (ev W run (.not a) e) Q X := by
  simp only [ev]
  exact wp_bind (wp_tst q)
theorem wp_ifeE (q : Wp0 (ev W run c e) (fun x e1 => ∃ t, x = .val (.bl t) ∧ Wp0 (if t = true then ev W run a e1 else ev W run b e1) Q X) X) : Wp0 (ev W run (.ife c a b) e) Q X := by
  simp only [ev]
  exact wp_bind (wp_tst q)
theorem wp_if {t : Bool} {m n : Out α} {Q : α → Fm → Prop} (h1 : t = true → Wp0 m Q X) (h2 : t = false → Wp0 n Q X) : Wp0 (if t = true then m else n) Q X := by
  cases t with
  | true => exact h1 rfl
  | false => exact h2 rfl
theorem wp_ifT {t : Bool} {m n : Out α} {Q : α → Fm → Prop} (h : t = true) (h1 : Wp0 m Q X) : Wp0 (if t = true then m else n) Q X := by
  subst h; exact h1
theorem wp_ifF {t : Bool} {m n : Out α} {Q : α → Fm → Prop} (h : t = false) (h1 : Wp0 n Q X) : Wp0 (if t = true then m else n) Q X := by
  subst h; exact h1
/-- a test without effects, its parts each worth a Bool -/
def Pb0 (W : Wd) (run : Nat → List Sl → Res) (a : E) (e : Fm) (t : Bool) : Prop := Wp0 (ev W run a e) (fun x e1 => x = .val (.bl t) ∧ e1 = e) noX
theorem wp_pb {t : Bool} (h : Pb0 W run a e t) (q : Q (.val (.bl t)) e) : Wp0 (ev W run a e) Q X := wp_x (wp_imp h fun x e1 ⟨h1, h2⟩ => by subst h1; subst h2; exact q)
theorem pb_andP {t : Bool} (h : Wp0 (evAnd W run es e) (fun x e1 => x = .val (.bl t) ∧ e1 = e) noX) : Pb0 W run (.and es) e t := h
theorem wp_and1 {t : Bool} (h : Pb0 W run a e t) : Wp0 (evAnd W run (.cons a .nil) e) (fun x e1 => x = .val (.bl t) ∧ e1 = e) noX := by
  simp only [evAnd]
  exact wp_bind (wp_tst (wp_imp h fun x e1 ⟨h1, h2⟩ => ⟨t, h1, rfl, h2⟩))
theorem wp_and2 {r : Es} {t u : Bool} (h : Pb0 W run a e t) (h2 : t = true → Wp0 (evAnd W run (.cons b r) e) (fun x e1 => x = .val (.bl u) ∧ e1 = e) noX) : Wp0 (evAnd W run (.cons a (.cons b r)) e) (fun x e1 => x = .val (.bl (t && u)) ∧ e1 = e) noX := by
  rw [evAnd]
  refine wp_bind (wp_tst (wp_imp h fun x e1 ⟨h3, h4⟩ => ⟨t, h3, ?_⟩))
  subst h4
  cases t with
  | true => exact h2 rfl
  | false => exact ⟨rfl, rfl⟩
theorem wp_or1 {t : Bool} (h : Pb0 W run a e t) : Wp0 (evOr W run (.cons a .nil) e) (fun x e1 => x = .val (.bl t) ∧ e1 = e) noX := by
  simp only [evOr]
  exact wp_bind (wp_tst (wp_imp h fun x e1 ⟨h1, h2⟩ => ⟨t, h1, rfl, h2⟩))
theorem wp_or2 {r : Es} {t u : Bool} (h : Pb0 W run a e t) (h2 : t = false → Wp0 (evOr W run (.cons b r) e) (fun x e1 => x = .val (.bl u) ∧ e1 = e) noX) : Wp0 (evOr W run (.cons a (.cons b r)) e) (fun x e1 => x = .val (.bl (t || u)) ∧ e1 = e) noX := by
  rw [evOr]
  refine wp_bind (wp_tst (wp_imp h fun x e1 ⟨h3, h4⟩ => ⟨t, h3, ?_⟩))
  subst h4
  cases t with
  | true => exact ⟨rfl, rfl⟩
  | false => exact h2 rfl
theorem wp_and {t : Bool} (h : Wp0 (evAnd W run es e) (fun x e1 => x = .val (.bl t) ∧ e1 = e) noX) (q : Q (.val (.bl t)) e) : Wp0 (ev W run (.and es) e) Q X := wp_pb (a := .and es) h q
theorem wp_or {t : Bool} (h : Wp0 (evOr W run es e) (fun x e1 => x = .val (.bl t) ∧ e1 = e) noX) (q : Q (.val (.bl t)) e) : Wp0 (ev W run (.or es) e) Q X := wp_pb (a := .or es) h q
/-- tests with effects -/
theorem wp_andE (q : Wp0 (evAnd W run es e) Q X) : Wp0 (ev W run (.and es) e) Q X := q
theorem wp_orE (q : Wp0 (evOr W run es e) Q X) : Wp0 (ev W run (.or es) e) Q X := q
theorem wp_and1E (q : Wp0 (ev W run a e) (fun x e1 => ∃ b, x = .val (.bl b) ∧ Q (.val (.bl b)) e1) X) : Wp0 (evAnd W run (.cons a .nil) e) Q X := by
  simp only [evAnd]
  exact wp_bind (wp_tst (wp_imp q fun x e1 ⟨b, h, z⟩ => ⟨b, h, z⟩))
theorem wp_and2E {r : Es} (q : Wp0 (ev W run a e) (fun x e1 => ∃ t, x = .val (.bl t) ∧ if t = true then Wp0 (evAnd W run (.cons b r) e1) Q X else Q (.val (.bl false)) e1) X) : Wp0 (evAnd W run (.cons a (.cons b r)) e) Q X := by
  rw [evAnd]
  refine wp_bind (wp_tst (wp_imp q fun x e1 ⟨t, h, z⟩ => ⟨t, h, ?_⟩))
  cases t with
  | true => exact z
  | false => exact z
theorem wp_or1E (q : Wp0 (ev W run a e) (fun x e1 => ∃ b, x = .val (.bl b) ∧ Q (.val (.bl b)) e1) X) : Wp0 (evOr W run (.cons a .nil) e) Q X := by
  simp only [evOr]
  exact wp_bind (wp_tst (wp_imp q fun x e1 ⟨b, h, z⟩ => ⟨b, h, z⟩))
theorem wp_or2E {r : Es} (q : Wp0 (ev W run a e) (fun x e1 => ∃ t, x = .val (.bl t) ∧ if t = true then Q (.val (.bl true)) e1 else Wp0 (evOr W run (.cons b r) e1) Q X) X) : Wp0 (evOr W run (.cons a (.cons b r)) e) Q X := by
  rw [evOr]
  refine wp_bind (wp_tst (wp_imp q fun x e1 ⟨t, h, z⟩ => ⟨t, h, ?_⟩))
  cases t with
  | true => exact z
  | false => exact z
theorem wp_tup (q : Wp0 (evs W run es e) (fun rs e1 => Wp0 (tupR rs e1) Q X) X) : Wp0 (ev W run (.tup es) e) Q X := by simp only [ev]; exact wp_bind q
theorem wp_lst (q : Wp0 (evs W run es e) (fun rs e1 => Wp0 (lstR rs e1) Q X) X) : Wp0 (ev W run (.lst es) e) Q X := by simp only [ev]; exact wp_bind q
theorem wp_dic {t : Bool} (q : Wp0 (evs W run es e) (fun rs e1 => Wp0 (dicR t rs e1) Q X) X) : Wp0 (ev W run (.dic t es) e) Q X := by simp only [ev]; exact wp_bind q
theorem wp_tupR {rs : List Rv} {ds : List D} (h : keep rs = some ds) (n : ds.length ≤ 1000) (q : Q (.val (.tup ds)) e) : Wp0 (tupR rs e) Q X := by
  unfold tupR
  rw [h]
  simp only [len_ok n, if_true]
  exact q
theorem wp_lstR {rs : List Rv} {ds : List D} (h : keep rs = some ds) (n : ds.length ≤ 1000) (q : Q (.fresh (.lst ds)) e) : Wp0 (lstR rs e) Q X := by
  unfold lstR
  rw [h]
  simp only [len_ok n, if_true]
  exact q
theorem wp_dic0 {t : Bool} (q : Q (.fresh (.dct t [])) e) : Wp0 (dicR t [] e) Q X := by
  unfold dicR
  simp [keep, pairs]
  exact q
theorem wp_dic1 {k v : Rv} {dk dv : D} (hk : k.fz = some dk) (hv : v.fz = some dv) (ok : keyOk false dk = true) (q : Q (.fresh (.dct false [(dk, dv)])) e) : Wp0 (dicR false [k, v] e) Q X := by
  unfold dicR
  simp [keep, pairs, hk, hv, ok, dput]
  exact q
theorem wp_nil {Q : List Rv → Fm → Prop} (q : Q [] e) : Wp0 (evs W run .nil e) Q X := q
theorem wp_cons {r : Es} {Q : List Rv → Fm → Prop} (q : Wp0 (ev W run a e) (fun x e1 => Wp0 (evs W run r e1) (fun xs e2 => Q (x :: xs) e2) X) X) : Wp0 (evs W run (.cons a r) e) Q X := by
  simp only [evs]
  exact wp_bind (wp_imp q fun x e1 h => wp_bind h)
theorem wp_star {r : Es} {Q : List Rv → Fm → Prop} (q : Wp0 (ev W run a e) (fun x e1 => ∃ ds, (x.rd e1).bind starD = some ds ∧ Wp0 (evs W run r e1) (fun xs e2 => Q (ds.map .val ++ xs) e2) X) X) : Wp0 (evs W run (.star a r) e) Q X := by
  simp only [evs]
  exact wp_bind (wp_imp q fun x e1 ⟨ds, h, z⟩ => by rw [h]; exact wp_bind z)
theorem wp_idx (q : Wp0 (ev W run a e) (fun x e1 => Wp0 (ev W run b e1) (fun y e2 => Wp0 (idxR x y e2) Q X) X) X) : Wp0 (ev W run (.idx a b) e) Q X := by
  simp only [ev]
  exact wp_bind (wp_imp q fun x e1 h => wp_bind h)
theorem wp_slc {lo hi : E} (q : Wp0 (ev W run a e) (fun x e1 => Wp0 (partF lo.isNop (fun e => ev W run lo e) e1) (fun l e2 => Wp0 (partF hi.isNop (fun e => ev W run hi e) e2) (fun h e3 => Wp0 (slcR l h x e3) Q X) X) X) X) : Wp0 (ev W run (.slc a lo hi) e) Q X := by
  simp only [ev]
  exact wp_bind (wp_imp q fun x e1 h => wp_bind (wp_imp h fun l e2 h => wp_bind h))
theorem wp_part0 {Q : Option Int → Fm → Prop} (q : Q none e) : Wp0 (partF (E.isNop .nop) (fun e => ev W run .nop e) e) Q X := q
theorem wp_part1 {Q : Option Int → Fm → Prop} (hn : a.isNop = false) (q : Wp0 (ev W run a e) (fun x e1 => ∃ i, x = .val (.int i) ∧ Q (some i) e1) X) : Wp0 (partF a.isNop (fun e => ev W run a e) e) Q X := by
  rw [hn]
  exact wp_bind (wp_imp q fun x e1 ⟨i, h, z⟩ => by subst h; exact z)
theorem wp_slcR {lo hi : Option Int} {x r : Rv} {dx : D} (hx : x.rd e = some dx) (h : slcD dx lo hi = some r) (q : Q r e) : Wp0 (slcR lo hi x e) Q X := wp_rd1 hx h q
theorem wp_rev (q : Wp0 (ev W run a e) (fun x e1 => Wp0 (rd1 revD x e1) Q X) X) : Wp0 (ev W run (.rev a) e) Q X := by simp only [ev]; exact wp_bind q
theorem wp_fld {f : Str} (q : Wp0 (ev W run a e) (fun x e1 => Wp0 (fldR W f x e1) Q X) X) : Wp0 (ev W run (.fld a f) e) Q X := by simp only [ev]; exact wp_bind q
theorem wp_fldR {f : Str} {x : Rv} {c : Nat} {fs : List (Str × D)} (hx : x.rd e = some (.obj c fs)) (hf : W.fl c f = true) (h : fs.lookup f = some d) (q : Q (.val d) e) : Wp0 (fldR W f x e) Q X := by
  refine wp_rd1 hx (r := .val d) ?_ q
  simp only [flOk, hf, if_true, fldD, h, Option.map_some]
theorem wp_give (q : Wp0 (ev W run a e) (fun x e1 => ∃ d, x = .fresh d ∧ Q (.give d) e1) X) : Wp0 (ev W run (.give a) e) Q X := by
  simp only [ev]
  exact wp_bind (wp_imp q fun x e1 ⟨i, h, z⟩ => by subst h; exact z)
theorem wp_blt {bl : Blt} (q : Wp0 (evs W run es e) (fun rs e1 => Wp0 (bltR bl rs e1) Q X) X) : Wp0 (ev W run (.blt bl es) e) Q X := by simp only [ev]; exact wp_bind q
theorem wp_bltR {bl : Blt} {rs : List Rv} {ds : List D} {r : Rv} (h : reads rs e = some ds) (h2 : bltD bl ds = some r) (q : Q r e) : Wp0 (bltR bl rs e) Q X := by
  unfold bltR
  rw [h]
  simp only [h2]
  exact q
theorem wp_isi {cs : List Cl} (q : Wp0 (ev W run a e) (fun x e1 => Wp0 (isiR W cs x e1) Q X) X) : Wp0 (ev W run (.isi a cs) e) Q X := by simp only [ev]; exact wp_bind q
theorem wp_isiR {cl : Cl} {x : Rv} {t : Bool} (hx : x.rd e = some d) (h : isi1 W d cl = some t) (q : Q (.val (.bl t)) e) : Wp0 (isiR W [cl] x e) Q X := by
  refine wp_rd1 hx (r := .val (.bl t)) ?_ q
  rw [h]
  rfl
theorem wp_bmt {m : Bmt} (q : Wp0 (ev W run a e) (fun x e1 => bmtOk m (x.rd e1) = true ∧ Wp0 (evs W run es e1) (fun rs e2 => Wp0 (bmtR m x rs e2) Q X) X) X) : Wp0 (ev W run (.bmt m a es) e) Q X := by
  simp only [ev]
  exact wp_bind (wp_imp q fun x e1 h => by rw [if_pos h.1]; exact wp_bind h.2)
theorem wp_bmtR {m : Bmt} {x : Rv} {rs : List Rv} {dx : D} {ds : List D} {y : Rv × Option D} (h1 : x.rd e = some dx) (h2 : keep rs = some ds) (h3 : bmtD m dx ds = some y) (q : Wp0 (mtOut x y e) Q X) : Wp0 (bmtR m x rs e) Q X := by
  unfold bmtR
  rw [h1, h2]
  simp only [h3]
  exact q
theorem wp_mt0 {x r : Rv} (q : Q r e) : Wp0 (mtOut x (r, none) e) Q X := q
theorem wp_mt1 {r : Rv} {z : D} (h : e[i]? = some (.own o d)) (q : Q r (e.set i (.own o z))) : Wp0 (mtOut (.bor i) (r, some z) e) Q X := by
  unfold mtOut
  simp only [h]
  exact q
/-- a chained test without effects -/
theorem wp_chnP {o1 o2 : CmpOp} {third : Fm → Out Rv} {dx dy dz : D} {t : Bool} {u : Bool} (h1 : cmpD o1 dx dy = some t) (h2 : Wp0 (third e) (fun z e1 => z = .val dz ∧ e1 = e) noX) (h3 : cmpF o2 dy dz = some (.val (.bl u))) (q : Q (.val (.bl (t && u))) e) : Wp0 (chnR o1 o2 third (.val dx) (.val dy) e) Q X := by
  unfold chnR
  simp only [h1]
  cases t with
  | false => exact q
  | true =>
    refine wp_bind (wp_x (wp_imp h2 fun z e1 ⟨a, b⟩ => ?_))
    subst a b
    unfold chnE
    simp only [h3]
    exact q
/-! ### calls -/
theorem wp_cal {f : Nat} {pm : List (Option Nat)} (q : Wp0 (evs W run es e) (fun rs e1 => Wp0 (evs W run ks e1) (fun qs e2 => Wp0 (callR run W f (rs ++ qs) pm e2) Q X) X) X) : Wp0 (ev W run (.cal f es ks pm) e) Q X := by
  simp only [ev]
  exact wp_bind (wp_bind (wp_imp q fun rs e1 h => wp_bind (wp_imp h fun qs e2 h => h)))
theorem wp_callR {f : Nat} {rs : List Rv} {pm : List (Option Nat)} {as : List Sl} {ls : List Nat} {outs : List D} {r : D} {fr : Bool} {dv : List (Option D)} (hd : dfls (W.npar f) (W.dfl f) = dv) (ha : argsOf rs e dv pm = some (as, ls)) (hn : ls.Nodup) (hr : run f as = .ok r fr outs)
    (q : Q (if fr = true then .fresh r else .val r) (putBack e ls outs)) : Wp0 (callR run W f rs pm e) Q X := by
  unfold callR callG
  rw [hd, ha]
  simp only [hr, if_pos hn]
  exact q
theorem wp_callX {f : Nat} {rs : List Rv} {pm : List (Option Nat)} {as : List Sl} {ls : List Nat} {outs : List D} {c : Nat} {fs : List D} {dv : List (Option D)} (hd : dfls (W.npar f) (W.dfl f) = dv) (ha : argsOf rs e dv pm = some (as, ls)) (hn : ls.Nodup) (hr : run f as = .ex c fs outs)
    (q : X c fs (putBack e ls outs)) : Wp0 (callR run W f rs pm e) Q X := by
  unfold callR callG
  rw [hd, ha]
  simp only [hr, if_pos hn]
  exact q
theorem wp_prp {f : Str} (q : Wp0 (ev W run a e) (fun x e1 => Wp0 (prpR W run f x e1) Q X) X) : Wp0 (ev W run (.prp a f) e) Q X := by simp only [ev]; exact wp_bind q
theorem wp_sure {o : Out α} {Q : α → Fm → Prop} (q : Wp0 o Q noX) : Wp0 o.sure Q X := by
  cases o with
  | ok x e => exact q
  | ex => exact q.elim
  | _ => exact q.elim
theorem wp_prpR {f : Str} {x : Rv} {c g : Nat} {fs : List (Str × D)} (h : x.rd e = some (.obj c fs)) (hg : W.prp c f = some g) (q : Wp0 (callR run W g [selfR x] [some 0] e) Q noX) : Wp0 (prpR W run f x e) Q X := by
  unfold prpR
  rw [h]
  simp only [Option.bind_some, obj1, hg]
  exact wp_sure q
theorem wp_mth {m : Str} {pm : List (Option Nat)} (q : Wp0 (ev W run a e) (fun x e1 => ∃ g, mthG W m x e1 = some g ∧ Wp0 (evs W run es e1) (fun rs e2 => Wp0 (evs W run ks e2) (fun qs e3 => Wp0 (callR run W g (selfR x :: (rs ++ qs)) pm e3) Q X) X) X) X) : Wp0 (ev W run (.mth a m es ks pm) e) Q X := by
  simp only [ev]
  exact wp_bind (wp_imp q fun x e1 ⟨g, h, z⟩ => by
    simp only [h]
    exact wp_bind (wp_bind (wp_imp z fun rs e1 h => wp_bind (wp_imp h fun qs e2 h => h))))
theorem wp_mak {c g : Nat} {pm : List (Option Nat)} (hg : W.ini c = some g) (q : Wp0 (evs W run es e) (fun rs e1 => Wp0 (evs W run ks e1) (fun qs e2 => Wp0 (makR W run c g pm (rs ++ qs) e2) Q X) X) X) : Wp0 (ev W run (.mak c es ks pm) e) Q X := by
  simp only [ev, hg]
  exact wp_bind (wp_bind (wp_imp q fun rs e1 h => wp_bind (wp_imp h fun qs e2 h => h)))
theorem wp_makR {c g : Nat} {rs : List Rv} {pm : List (Option Nat)} {as : List Sl} {ls : List Nat} {outs : List D} {o : D} {dv : List (Option D)} (hd : dfls (W.npar g) (W.dfl g) = dv) (ha : argsOf (.val .non :: rs) e dv pm = some (as, ls)) (hn : ls.Nodup) (hp : pm.head? = some (some 0)) (hr : run g (makA c as) = .ok .non false (o :: outs))
    (q : Q (.fresh o) (putBack e ls outs)) : Wp0 (makR W run c g pm rs e) Q X := by
  unfold makR
  rw [hd, ha]
  simp only [hr, if_pos (And.intro hn hp)]
  exact q
theorem wp_makX {c g k : Nat} {rs : List Rv} {pm : List (Option Nat)} {as : List Sl} {ls : List Nat} {fs outs : List D} {o : D} {dv : List (Option D)} (hd : dfls (W.npar g) (W.dfl g) = dv) (ha : argsOf (.val .non :: rs) e dv pm = some (as, ls)) (hn : ls.Nodup) (hp : pm.head? = some (some 0)) (hr : run g (makA c as) = .ex k fs (o :: outs))
    (q : X k fs (putBack e ls outs)) : Wp0 (makR W run c g pm rs e) Q X := by
  unfold makR
  rw [hd, ha]
  simp only [hr, if_pos (And.intro hn hp)]
  exact q
end
/-! ### comprehensions without effects -/
section
variable {α β : Type} {W : Wd} {run : Nat → List Sl → Res} {e : Fm} {Q : Rv → Fm → Prop} {X : Xp}
theorem lcL_pure {own : List Nat} {tg : Tg} {cond : Fm → Out Bool} {el : Fm → Out D} {f : α → D} {p : α → Bool} {g : α → D} {w : Fm} {bt : α → Fm} :
    ∀ (xs : List α) (acc : List D) (e : Fm), wipeE e own = w → (∀ x ∈ xs, bindT tg (f x) w = some (bt x)) → (∀ x ∈ xs, wipeE (bt x) own = w) → (∀ x ∈ xs, cond (bt x) = .ok (p x) (bt x)) → (∀ x ∈ xs, p x = true → el (bt x) = .ok (g x) (bt x)) → acc.length + xs.length ≤ 1000000 →
      ∃ e', lcL own tg cond el (xs.map f) acc e = .ok (acc ++ (xs.filter p).map g) e' ∧ (e' = e ∨ ∃ x ∈ xs, e' = bt x)
  | [], acc, e, _, _, _, _, _, _ => ⟨e, by simp [lcL], .inl rfl⟩
  | x :: xs, acc, e, hw, hb, hr, hc, he, hl => by
    simp only [List.map_cons, lcL, hw, hb x List.mem_cons_self, hc x List.mem_cons_self]
    simp only [List.length_cons] at hl
    have rc := fun acc' (hl' : acc'.length + xs.length ≤ 1000000) => lcL_pure (cond := cond) (el := el) (p := p) (g := g) xs acc' (bt x) (hr x List.mem_cons_self) (fun y m => hb y (List.mem_cons_of_mem _ m)) (fun y m => hr y (List.mem_cons_of_mem _ m)) (fun y m => hc y (List.mem_cons_of_mem _ m)) (fun y m => he y (List.mem_cons_of_mem _ m)) hl'
    cases hp : p x with
    | false =>
      obtain ⟨e', h1, h2⟩ := rc acc (by omega)
      refine ⟨e', ?_, ?_⟩
      · simp only [List.filter_cons, hp]
        exact h1
      · rcases h2 with h2 | ⟨y, m, h2⟩
        · exact .inr ⟨x, List.mem_cons_self, h2⟩
        · exact .inr ⟨y, List.mem_cons_of_mem _ m, h2⟩
    | true =>
      have : acc.length < sizeLine := Nat.lt_of_lt_of_le (by omega : acc.length < 1000000) (by unfold sizeLine; decide)
      obtain ⟨e', h1, h2⟩ := rc (acc ++ [g x]) (by simp; omega)
      refine ⟨e', ?_, ?_⟩
      · simp only [he x List.mem_cons_self hp, this, if_true, List.filter_cons, hp, List.map_cons]
        rw [h1]
        simp
      · rcases h2 with h2 | ⟨y, m, h2⟩
        · exact .inr ⟨x, List.mem_cons_self, h2⟩
        · exact .inr ⟨y, List.mem_cons_of_mem _ m, h2⟩
/-- a list comprehension whose turns only read -/
theorem wp_lc {tg : Tg} {sk : SrcK} {src : Es} {own : List Nat} {cond el : E} {f : α → D} {p : α → Bool} {g : α → D} {bt : α → Fm} {ys : List D} (xs : List α)
    (hsrc : Wp0 (evs W run src e) (fun rs e1 => e1 = e ∧ (keep rs).bind (srcD sk) = some ys) noX) (hys : ys = xs.map f) (hno : noOwn e own = true)
    (hb : ∀ x ∈ xs, bindT tg (f x) (wipeE e own) = some (bt x)) (hr : ∀ x ∈ xs, wipeE (bt x) own = wipeE e own) (hq : ∀ x ∈ xs, restore e (bt x) own = e) (hq0 : restore e e own = e)
    (hc : ∀ x ∈ xs, Wp0 (condF cond.isNop (fun e => ev W run cond e) (bt x)) (fun t e1 => t = p x ∧ e1 = bt x) noX)
    (he : ∀ x ∈ xs, p x = true → Wp0 (ev W run el (bt x)) (fun r e1 => r.fz = some (g x) ∧ e1 = bt x) noX) (hl : xs.length ≤ 1000000)
    (q : Q (.fresh (.lst ((xs.filter p).map g))) e) : Wp0 (ev W run (.lc tg sk src own cond el) e) Q X := by
  simp only [ev]
  refine wp_bind (wp_x (wp_imp hsrc fun rs e1 ⟨h1, h2⟩ => ?_))
  subst h1
  rw [h2, hys]
  dsimp only
  rw [if_pos hno]
  have hc' : ∀ x ∈ xs, condF cond.isNop (fun e => ev W run cond e) (bt x) = .ok (p x) (bt x) := fun x m => by
    obtain ⟨t, e2, h, h3, h4⟩ := wp_eq (hc x m)
    rw [h, h3, h4]
  have he' : ∀ x ∈ xs, p x = true → (fun e => (ev W run el e).kept) (bt x) = .ok (g x) (bt x) := fun x m hp => by
    obtain ⟨t, e2, h, h3, h4⟩ := wp_eq (he x m hp)
    dsimp only
    rw [h, h4]
    show Out.of t.fz _ = _
    rw [h3]
    rfl
  obtain ⟨e', h3, h4⟩ := lcL_pure (own := own) (tg := tg) (cond := condF cond.isNop fun e => ev W run cond e) (el := fun e => (ev W run el e).kept) (p := p) (g := g) (w := wipeE e1 own) xs [] e1 rfl hb hr hc' he' (by simpa using hl)
  rw [h3]
  simp only [Out.bind_ok, fcR, List.nil_append]
  rcases h4 with rfl | ⟨x, m, rfl⟩
  · show Q _ (restore e' e' own)
    rw [hq0]; exact q
  · show Q _ (restore _ (bt x) own)
    rw [hq x m]; exact q
theorem wp_cond0 {e : Fm} {Q : Bool → Fm → Prop} (q : Q true e) : Wp0 (condF (E.isNop .nop) (fun e => ev W run .nop e) e) Q X := q
theorem wp_cond1 {a : E} {e : Fm} {Q : Bool → Fm → Prop} (hn : a.isNop = false) (q : Wp0 (ev W run a e) (fun x e1 => ∃ b, x = .val (.bl b) ∧ Q b e1) X) : Wp0 (condF a.isNop (fun e => ev W run a e) e) Q X := by
  rw [hn]
  exact wp_tst q
end
/-! ### statements -/
section
variable {α : Type} {W : Wd} {run : Nat → List Sl → Res} {e : Fm} {Q : Fl → Fm → Prop} {X : Xp} {a b c : E} {es : Es} {i j : Nat} {d : D} {s : S} {r : Ss}
theorem ws_nil (q : Q .next e) : Wp0 (exs W run .nil e) Q X := q
/-- what follows a statement -/
def Nx0 (W : Wd) (run : Nat → List Sl → Res) (r : Ss) (Q : Fl → Fm → Prop) (X : Xp) (f : Fl) (e : Fm) : Prop := match f with
  | .next => Wp0 (exs W run r e) Q X
  | f => Q f e
theorem ws_cons (q : Wp0 (ex W run s e) (Nx0 W run r Q X) X) : Wp0 (exs W run (.cons s r) e) Q X := by
  simp only [exs]
  refine wp_bind (wp_imp q fun f e1 h => ?_)
  cases f <;> exact h
theorem nx_next (q : Wp0 (exs W run r e) Q X) : Nx0 W run r Q X .next e := q
theorem nx_ret {fr : Bool} (q : Q (.ret fr d) e) : Nx0 W run r Q X (.ret fr d) e := q
theorem nx_cnt (q : Q .cnt e) : Nx0 W run r Q X .cnt e := q
theorem nx_brk (q : Q .brk e) : Nx0 W run r Q X .brk e := q
theorem ws_asg {o : Bool} (q : Wp0 (ev W run a e) (fun x e1 => Wp0 (asgR i o x e1) Q X) X) : Wp0 (ex W run (.asg i o a) e) Q X := by simp only [ex]; exact wp_bind q
theorem ws_asgV (q : Q .next (e.set i (.val d))) : Wp0 (asgR i false (.val d) e) Q X := q
theorem ws_asgF (q : Q .next (e.set i (.val d))) : Wp0 (asgR i false (.fresh d) e) Q X := q
theorem ws_asgO (q : Q .next (e.set i (.own none d))) : Wp0 (asgR i true (.fresh d) e) Q X := q
theorem ws_asgW (q : Q .next (e.set i (.val d))) : Wp0 (asgR i true (.val d) e) Q X := q
theorem ws_par {ts : List (Nat × Bool)} (q : Wp0 (evs W run es e) (fun rs e1 => (rs.all fun r => r.fz.isSome) = true ∧ Wp0 (parR ts rs e1) Q X) X) : Wp0 (ex W run (.par ts es) e) Q X := by
  simp only [ex]
  exact wp_bind (wp_imp q fun rs e1 h => by rw [if_pos h.1]; exact h.2)
theorem ws_par0 (q : Q .next e) : Wp0 (parR [] [] e) Q X := q
theorem ws_par1 {o : Bool} {ts : List (Nat × Bool)} {x : Rv} {rs : List Rv} (q : Wp0 (asgR i o x e) (fun _ e1 => Wp0 (parR ts rs e1) Q X) X) : Wp0 (parR ((i, o) :: ts) (x :: rs) e) Q X := by
  simp only [parR]
  exact wp_bind q
theorem ws_unp {ts : List Tu} (q : Wp0 (ev W run a e) (fun x e1 => ∃ ds, x = .val (.tup ds) ∧ ds.length = ts.length ∧ Wp0 (unpL W run ts ds e1) Q X) X) : Wp0 (ex W run (.unp ts a) e) Q X := by
  simp only [ex]
  exact wp_bind (wp_imp q fun x e1 ⟨ds, h, n, z⟩ => by subst h; simp only [n, if_true]; exact z)
theorem ws_unp0 (q : Q .next e) : Wp0 (unpL W run [] [] e) Q X := q
theorem ws_unpN {ts : List Tu} {ds : List D} (q : Wp0 (unpL W run ts ds (e.set i (.val d))) Q X) : Wp0 (unpL W run (.nam i :: ts) (d :: ds) e) Q X := q
theorem ws_unpS {ts : List Tu} {ds : List D} (q : Wp0 (subR W run j a d e) (fun _ e1 => Wp0 (unpL W run ts ds e1) Q X) X) : Wp0 (unpL W run (.sub j a :: ts) (d :: ds) e) Q X := by
  simp only [unpL]
  exact wp_bind q
theorem ws_sub {o : Option Nat} {x : D} (h : e[j]? = some (.own o x)) (q : Wp0 (ev W run a e) (fun r e1 => ∃ k, r.fz = some k ∧ Wp0 (stoR j k d e1) Q X) X) : Wp0 (subR W run j a d e) Q X := by
  unfold subR
  rw [if_pos (by unfold ownAt; rw [h])]
  exact wp_bind (wp_kept q)
theorem ws_stoR {o : Option Nat} {x y k v : D} (h : e[j]? = some (.own o x)) (h2 : stoD x k v = some y) (q : Q .next (e.set j (.own o y))) : Wp0 (stoR j k v e) Q X := by
  unfold stoR
  simp only [h, h2]
  exact q
theorem ws_sto (q : Wp0 (ev W run b e) (fun r e1 => ∃ d, r.fz = some d ∧ Wp0 (subR W run j a d e1) Q X) X) : Wp0 (ex W run (.sto j a b) e) Q X := by
  simp only [ex]
  exact wp_bind (wp_kept q)
theorem ws_att {f : Str} (q : Wp0 (ev W run a e) (fun r e1 => ∃ v o c fs, r.fz = some v ∧ e1[j]? = some (.own o (.obj c fs)) ∧ fs.length < 999 ∧ W.fl c f = true ∧ Q .next (e1.set j (.own o (.obj c (putF f v fs))))) X) : Wp0 (ex W run (.att j f a) e) Q X := by
  simp only [ex]
  refine wp_bind (wp_kept (wp_imp q fun r e1 ⟨v, o, c, fs, h1, h2, h3, h4, z⟩ => ⟨v, h1, ?_⟩))
  simp only [h2, h3, h4, and_self, if_true]
  exact z
theorem ws_exp (q : Wp0 (ev W run a e) (fun _ e1 => Q .next e1) X) : Wp0 (ex W run (.exp a) e) Q X := by
  simp only [ex]
  exact wp_bind (wp_imp q fun _ _ h => h)

theorem ws_ret (q : Wp0 (ev W run a e) (retQ Q) X) : Wp0 (ex W run (.ret a) e) Q X := by
  simp only [ex]
  refine wp_bind (wp_imp q fun r e1 h => ?_)
  cases r with
  | val d => exact h
  | fresh d => exact h
  | _ => exact h.elim
theorem ws_retV (q : Q (.ret false d) e) : retQ Q (.val d) e := q
theorem ws_retF (q : Q (.ret true d) e) : retQ Q (.fresh d) e := q
theorem ws_retN (q : Q (.ret false .non) e) : Wp0 (ex W run .retN e) Q X := q
theorem ws_pas (q : Q .next e) : Wp0 (ex W run .pas e) Q X := q
theorem ws_brk (q : Q .brk e) : Wp0 (ex W run .brk e) Q X := q
theorem ws_cnt (q : Q .cnt e) : Wp0 (ex W run .cnt e) Q X := q
theorem ws_ife {x y : Ss} (q : Wp0 (ev W run c e) (fun r e1 => ∃ t, r = .val (.bl t) ∧ Wp0 (if t = true then exs W run x e1 else exs W run y e1) Q X) X) : Wp0 (ex W run (.ife c x y) e) Q X := by
  simp only [ex]
  exact wp_bind (wp_tst q)
theorem ws_for {tg : Tg} {sk : SrcK} {src : Es} {b : Ss} (q : Wp0 (evs W run src e) (fun rs e1 => ∃ ds, (keep rs).bind (srcD sk) = some ds ∧ Wp0 (forL tg (exs W run b) ds e1) Q X) X) : Wp0 (ex W run (.for tg sk src b) e) Q X := by
  simp only [ex]
  exact wp_bind (wp_imp q fun rs e1 ⟨ds, h, z⟩ => by rw [h]; exact z)
theorem ws_whl {b : Ss} (q : Wp0 (whlL (fun e => (ev W run c e).tst) (exs W run b) most e) Q X) : Wp0 (ex W run (.whl c b) e) Q X := by simp only [ex]; exact q

theorem lpk_next {I : Fm → Prop} (h : I e) : LpK I Q .next e := h
theorem lpk_cnt {I : Fm → Prop} (h : I e) : LpK I Q .cnt e := h
theorem lpk_brk {I : Fm → Prop} (h : Q .next e) : LpK I Q .brk e := h
theorem lpk_ret {I : Fm → Prop} {fr : Bool} (h : Q (.ret fr d) e) : LpK I Q (.ret fr d) e := h
/-- a for, by an invariant over what is done -/
theorem wp_forL' {tg : Tg} {body : Fm → Out Fl} {f : α → D} {all : List α} (I : List α → Fm → Prop)
    (step : ∀ done x rest, all = done ++ x :: rest → ∀ e, I done e → ∃ e1, bindT tg (f x) e = some e1 ∧ Wp0 (body e1) (LpK (I (done ++ [x])) Q) X) (hQ : ∀ e, I all e → Q .next e) :
    ∀ (rest done : List α) (e : Fm), all = done ++ rest → I done e → Wp0 (forL tg body (rest.map f) e) Q X
  | [], done, e, h, hi => by
    simp only [List.append_nil] at h
    subst h
    exact hQ e hi
  | x :: rest, done, e, h, hi => by
    obtain ⟨e1, h1, h2⟩ := step done x rest h e hi
    have ih := fun e2 (hi2 : I (done ++ [x]) e2) => wp_forL' I step hQ rest (done ++ [x]) e2 (by rw [h]; simp) hi2
    rw [List.map_cons]
    unfold forL
    simp only [h1]
    revert h2
    cases body e1 with
    | ok fl e2 =>
      intro h2
      cases fl with
      | next => exact ih e2 h2
      | cnt => exact ih e2 h2
      | brk => exact h2
      | ret fr d => exact h2
    | ex c fs e2 => exact fun h2 => h2
    | bad => exact fun h2 => h2.elim
theorem wp_forL {tg : Tg} {body : Fm → Out Fl} {f : α → D} {ds : List D} (all : List α) (hds : ds = all.map f) (I : List α → Fm → Prop) (h0 : I [] e)
    (step : ∀ done x rest, all = done ++ x :: rest → ∀ e, I done e → ∃ e1, bindT tg (f x) e = some e1 ∧ Wp0 (body e1) (LpK (I (done ++ [x])) Q) X) (hQ : ∀ e, I all e → Q .next e) :
    Wp0 (forL tg body ds e) Q X := by
  subst hds
  exact wp_forL' I step hQ all [] e rfl h0
theorem wp_forE' {tg : Tg} {body : Fm → Out Fl} {g : α → D} {all : List α} (I : List α → Fm → Prop)
    (step : ∀ done x rest, all = done ++ x :: rest → ∀ e, I done e → ∃ e1, bindT tg (.tup [.int (done.length : Nat), g x]) e = some e1 ∧ Wp0 (body e1) (LpK (I (done ++ [x])) Q) X) (hQ : ∀ e, I all e → Q .next e) :
    ∀ (rest done : List α) (e : Fm), all = done ++ rest → I done e → Wp0 (forL tg body ((rest.map g).mapIdx fun i x => D.tup [.int ((i + done.length : Nat) : Int), x]) e) Q X
  | [], done, e, h, hi => by
    simp only [List.append_nil] at h
    subst h
    exact hQ e hi
  | x :: rest, done, e, h, hi => by
    obtain ⟨e1, h1, h2⟩ := step done x rest h e hi
    have ih := fun e2 (hi2 : I (done ++ [x]) e2) => wp_forE' I step hQ rest (done ++ [x]) e2 (by rw [h]; simp) hi2
    simp only [List.length_append, List.length_cons, List.length_nil] at ih
    rw [List.map_cons, List.mapIdx_cons]
    unfold forL
    simp only [Nat.zero_add, h1]
    revert h2
    have e3 : (fun (i : Nat) (x : D) => D.tup [.int ((i + (done.length + (0 + 1)) : Nat) : Int), x]) = fun (i : Nat) (x : D) => D.tup [.int ((i + 1 + done.length : Nat) : Int), x] := by
      funext i x
      congr 4
      omega
    cases body e1 with
    | ok fl e2 =>
      intro h2
      cases fl with
      | next => have := ih e2 h2; simpa only [e3] using this
      | cnt => have := ih e2 h2; simpa only [e3] using this
      | brk => exact h2
      | ret fr d => exact h2
    | ex c fs e2 => exact fun h2 => h2
    | bad => exact fun h2 => h2.elim
/-- a for over an enumeration -/
theorem wp_forE {tg : Tg} {body : Fm → Out Fl} {g : α → D} (xs : List α) (I : List α → Fm → Prop) (h0 : I [] e)
    (step : ∀ done x rest, xs = done ++ x :: rest → ∀ e, I done e → ∃ e1, bindT tg (.tup [.int (done.length : Nat), g x]) e = some e1 ∧ Wp0 (body e1) (LpK (I (done ++ [x])) Q) X) (hQ : ∀ e, I xs e → Q .next e) :
    Wp0 (forL tg body ((xs.map g).mapIdx fun i x => D.tup [.int i, x]) e) Q X := by
  have := wp_forE' I step hQ xs [] e rfl h0
  simpa using this
theorem wp_forR' {tg : Tg} {body : Fm → Out Fl} {n : Nat} (I : Nat → Fm → Prop)
    (step : ∀ i, i < n → ∀ e, I i e → ∃ e1, bindT tg (.int (i : Nat)) e = some e1 ∧ Wp0 (body e1) (LpK (I (i + 1)) Q) X) (hQ : ∀ e, I n e → Q .next e) :
    ∀ (m i : Nat) (e : Fm), i + m = n → I i e → Wp0 (forL tg body ((List.range' i m).map fun i => D.int (i : Nat)) e) Q X
  | 0, i, e, h, hi => by
    simp only [Nat.add_zero] at h
    subst h
    exact hQ e hi
  | m + 1, i, e, h, hi => by
    obtain ⟨e1, h1, h2⟩ := step i (by omega) e hi
    have ih := fun e2 (hi2 : I (i + 1) e2) => wp_forR' I step hQ m (i + 1) e2 (by omega) hi2
    rw [List.range'_succ, List.map_cons]
    unfold forL
    simp only [h1]
    revert h2
    cases body e1 with
    | ok fl e2 =>
      intro h2
      cases fl with
      | next => exact ih e2 h2
      | cnt => exact ih e2 h2
      | brk => exact h2
      | ret fr d => exact h2
    | ex c fs e2 => exact fun h2 => h2
    | bad => exact fun h2 => h2.elim
/-- a for over a range -/
theorem wp_forR {tg : Tg} {body : Fm → Out Fl} {n : Nat} (I : Nat → Fm → Prop) (h0 : I 0 e)
    (step : ∀ i, i < n → ∀ e, I i e → ∃ e1, bindT tg (.int (i : Nat)) e = some e1 ∧ Wp0 (body e1) (LpK (I (i + 1)) Q) X) (hQ : ∀ e, I n e → Q .next e) :
    Wp0 (forL tg body ((List.range n).map fun i => D.int (i : Nat)) e) Q X := by
  rw [List.range_eq_range']
  exact wp_forR' I step hQ n 0 e (by omega) h0
/-- a while, by an invariant with a measure -/
theorem wp_whlL' {cond : Fm → Out Bool} {body : Fm → Out Fl} (I : Nat → Fm → Prop)
    (step : ∀ m e, I m e → Wp0 (cond e) (fun t e1 => if t = true then Wp0 (body e1) (LpK (fun e2 => ∃ m', m' < m ∧ I m' e2) Q) X else Q .next e1) X) : ∀ (n m : Nat) (e : Fm), I m e → m < n → Wp0 (whlL cond body n e) Q X
  | 0, m, _, _, hn => absurd hn (by omega)
  | n + 1, m, e, h0, hn => by
    have h := step m e h0
    unfold whlL
    revert h
    cases cond e with
    | ok t e1 =>
      intro h
      cases t with
      | false => exact h
      | true =>
        simp only [Wp0, if_true] at h
        dsimp only
        revert h
        cases body e1 with
        | ok fl e2 =>
          intro h
          cases fl with
          | next => obtain ⟨m', hm, hi⟩ := h; exact wp_whlL' I step n m' e2 hi (by omega)
          | cnt => obtain ⟨m', hm, hi⟩ := h; exact wp_whlL' I step n m' e2 hi (by omega)
          | brk => exact h
          | ret fr d => exact h
        | ex c fs e2 => exact fun h => h
        | bad => exact fun h => h.elim
    | ex c fs e1 => exact fun h => h
    | bad => exact fun h => h.elim
theorem wp_whlL {cond : Fm → Out Bool} {body : Fm → Out Fl} (I : Nat → Fm → Prop) (m : Nat) (hm : m < 2 ^ 64) (h0 : I m e)
    (step : ∀ m e, I m e → Wp0 (cond e) (fun t e1 => if t = true then Wp0 (body e1) (LpK (fun e2 => ∃ m', m' < m ∧ I m' e2) Q) X else Q .next e1) X) : Wp0 (whlL cond body most e) Q X := wp_whlL' I step most m e h0 hm
end
/-! ### defs -/
section
variable {W : Wd} {fns : Nat → Option Fn} {f k : Nat} {F : Fn} {as : List Sl}
/-- a def's answer, whatever is asked of it -/
theorem run_post {P : Res → Prop} (h : fns f = some F) (hk : 1 ≤ k) (q : Wp0 (exs W (runF W fns (k - 1)) F.body (start F.n as)) (fun fl e => P (endR as (.ok fl e))) (fun c fs e => P (endR as (.ex c fs e)))) : P (runF W fns k f as) := by
  obtain ⟨k, rfl⟩ : ∃ j, k = j + 1 := ⟨k - 1, by omega⟩
  simp only [Nat.add_sub_cancel] at q
  simp only [runF, h]
  revert q
  cases exs W (runF W fns k) F.body (start F.n as) with
  | ok fl e => exact fun q => q
  | ex c fs e => exact fun q => q
  | bad => exact fun q => q.elim
theorem run_ok {r : D} {fr : Bool} {outs : List D} (h : fns f = some F) (hk : 1 ≤ k) (q : Wp0 (exs W (runF W fns (k - 1)) F.body (start F.n as)) (fun fl e => endR as (.ok fl e) = .ok r fr outs) noX) : runF W fns k f as = .ok r fr outs :=
  run_post (P := fun z => z = .ok r fr outs) h hk (wp_x q)
end
end W0
end PV
/-! ## plain laws: the evaluator's steps, locked -/
namespace PV
open PySem
/-! ### what an answer is to be: a value, or an exception -/
@[irreducible] def Wp {α : Type} (o : Out α) (Q : α → Fm → Prop) (X : Xp) : Prop := W0.Wp0 o Q X
section
variable {α β : Type} {W : Wd} {run : Nat → List Sl → Res} {e : Fm} {Q : Rv → Fm → Prop} {X : Xp} {a b c : E} {es ks : Es} {i j l : Nat} {d : D}
theorem wp_ok {x : α} {Q : α → Fm → Prop} (h : Q x e) : Wp (.ok x e) Q X := by with_unfolding_all exact W0.wp_ok h
theorem wp_of {o : Out α} {x : α} {Q : α → Fm → Prop} (h : o = .ok x e) (q : Q x e) : Wp o Q X := by with_unfolding_all exact W0.wp_of h q
theorem wp_imp {o : Out α} {Q R : α → Fm → Prop} (h : Wp o Q X) (k : ∀ x e, Q x e → R x e) : Wp o R X := by with_unfolding_all exact W0.wp_imp h k
/-- an answer that is known to be one -/
theorem wp_eq {o : Out α} {Q : α → Fm → Prop} (h : Wp o Q noX) : ∃ x e, o = .ok x e ∧ Q x e := by with_unfolding_all exact W0.wp_eq h
theorem wp_x {o : Out α} {Q : α → Fm → Prop} (h : Wp o Q noX) : Wp o Q X := by with_unfolding_all exact W0.wp_x h
theorem wp_bind {o : Out α} {f : α → Fm → Out β} {Q : β → Fm → Prop} (h : Wp o (fun x e1 => Wp (f x e1) Q X) X) : Wp (o.bind f) Q X := by with_unfolding_all exact W0.wp_bind h
theorem wp_var (h : e[i]? = some (.val d)) (q : Q (.val d) e) : Wp (ev W run (.var i) e) Q X := by with_unfolding_all exact W0.wp_var h q
theorem wp_borO (h : e[i]? = some (.own o d)) (q : Q (.bor i) e) : Wp (ev W run (.bor i) e) Q X := by with_unfolding_all exact W0.wp_borO h q
theorem wp_borV (h : e[i]? = some (.val d)) (q : Q (.val d) e) : Wp (ev W run (.bor i) e) Q X := by with_unfolding_all exact W0.wp_borV h q
theorem wp_movO (h : e[i]? = some (.own none d)) (q : Q (.fresh d) (e.set i .dead)) : Wp (ev W run (.mov i) e) Q X := by with_unfolding_all exact W0.wp_movO h q
theorem wp_movV (h : e[i]? = some (.val d)) (q : Q (.val d) e) : Wp (ev W run (.mov i) e) Q X := by with_unfolding_all exact W0.wp_movV h q
theorem wp_frzO (h : e[i]? = some (.own none d)) (q : Q (.val d) (e.set i (.val d))) : Wp (ev W run (.frz i) e) Q X := by with_unfolding_all exact W0.wp_frzO h q
theorem wp_frzV (h : e[i]? = some (.val d)) (q : Q (.val d) e) : Wp (ev W run (.frz i) e) Q X := by with_unfolding_all exact W0.wp_frzV h q
theorem wp_lend (h : e[i]? = some (.own o d)) (q : Q (.lent i) e) : Wp (ev W run (.lend i) e) Q X := by with_unfolding_all exact W0.wp_lend h q
theorem wp_con (q : Q (.val d) e) : Wp (ev W run (.con d) e) Q X := by with_unfolding_all exact W0.wp_con q
theorem wp_glo (h : W.glos[i]? = some d) (q : Q (.val d) e) : Wp (ev W run (.glo i) e) Q X := by with_unfolding_all exact W0.wp_glo h q
theorem wp_bin {op : Operator} (q : Wp (ev W run a e) (fun x e1 => Wp (ev W run b e1) (fun y e2 => Wp (rd2 (binD op) x y e2) Q X) X) X) : Wp (ev W run (.bin op a b) e) Q X := by with_unfolding_all exact W0.wp_bin q
theorem wp_cmp {op : CmpOp} (q : Wp (ev W run a e) (fun x e1 => Wp (ev W run b e1) (fun y e2 => Wp (rd2 (cmpF op) x y e2) Q X) X) X) : Wp (ev W run (.cmp op a b) e) Q X := by with_unfolding_all exact W0.wp_cmp q
theorem wp_chn {o1 o2 : CmpOp} (q : Wp (ev W run a e) (fun x e1 => Wp (ev W run b e1) (fun y e2 => Wp (chnR o1 o2 (ev W run c) x y e2) Q X) X) X) : Wp (ev W run (.chn o1 o2 a b c) e) Q X := by with_unfolding_all exact W0.wp_chn q
theorem wp_rd2 {f : D → D → Option Rv} {x y r : Rv} {dx dy : D} (hx : x.rd e = some dx) (hy : y.rd e = some dy) (h : f dx dy = some r) (q : Q r e) : Wp (rd2 f x y e) Q X := by with_unfolding_all exact W0.wp_rd2 hx hy h q
theorem wp_rd1 {f : D → Option Rv} {x r : Rv} {dx : D} (hx : x.rd e = some dx) (h : f dx = some r) (q : Q r e) : Wp (rd1 f x e) Q X := by with_unfolding_all exact W0.wp_rd1 hx h q
theorem wp_idxR {x y : Rv} {dx dy r : D} (hx : x.rd e = some dx) (hy : y.fz = some dy) (h : idxD dx dy = some r) (q : Q (.val r) e) : Wp (idxR x y e) Q X := by with_unfolding_all exact W0.wp_idxR hx hy h q
theorem wp_neg (q : Wp (ev W run a e) (fun x e1 => ∃ i, x = .val (.int i) ∧ Q (.val (.int (-i))) e1) X) : Wp (ev W run (.neg a) e) Q X := by with_unfolding_all exact W0.wp_neg q
theorem wp_tst {o : Out Rv} {Q : Bool → Fm → Prop} (q : Wp o (fun x e1 => ∃ b, x = .val (.bl b) ∧ Q b e1) X) : Wp o.tst Q X := by with_unfolding_all exact W0.wp_tst q
theorem wp_kept {o : Out Rv} {Q : D → Fm → Prop} (q : Wp o (fun x e1 => ∃ d, x.fz = some d ∧ Q d e1) X) : Wp o.kept Q X := by with_unfolding_all exact W0.wp_kept q
theorem wp_not (q : Wp (ev W run a e) (fun x e1 => ∃ b, x = .val (.bl b) ∧ Q (.val (.bl (!b))) e1) X) : Wp (ev W run (.not a) e) Q X := by with_unfolding_all exact W0.wp_not q
theorem wp_ifeE (q : Wp (ev W run c e) (fun x e1 => ∃ t, x = .val (.bl t) ∧ Wp (if t = true then ev W run a e1 else ev W run b e1) Q X) X) : Wp (ev W run (.ife c a b) e) Q X := by with_unfolding_all exact W0.wp_ifeE q
theorem wp_if {t : Bool} {m n : Out α} {Q : α → Fm → Prop} (h1 : t = true → Wp m Q X) (h2 : t = false → Wp n Q X) : Wp (if t = true then m else n) Q X := by with_unfolding_all exact W0.wp_if h1 h2
theorem wp_ifT {t : Bool} {m n : Out α} {Q : α → Fm → Prop} (h : t = true) (h1 : Wp m Q X) : Wp (if t = true then m else n) Q X := by with_unfolding_all exact W0.wp_ifT h h1
theorem wp_ifF {t : Bool} {m n : Out α} {Q : α → Fm → Prop} (h : t = false) (h1 : Wp n Q X) : Wp (if t = true then m else n) Q X := by with_unfolding_all exact W0.wp_ifF h h1
/-- a test without effects, its parts each worth a Bool -/
def Pb (W : Wd) (run : Nat → List Sl → Res) (a : E) (e : Fm) (t : Bool) : Prop := Wp (ev W run a e) (fun x e1 => x = .val (.bl t) ∧ e1 = e) noX
theorem wp_pb {t : Bool} (h : Pb W run a e t) (q : Q (.val (.bl t)) e) : Wp (ev W run a e) Q X := by with_unfolding_all exact W0.wp_pb h q
theorem pb_andP {t : Bool} (h : Wp (evAnd W run es e) (fun x e1 => x = .val (.bl t) ∧ e1 = e) noX) : Pb W run (.and es) e t := by with_unfolding_all exact W0.pb_andP h
theorem wp_and1 {t : Bool} (h : Pb W run a e t) : Wp (evAnd W run (.cons a .nil) e) (fun x e1 => x = .val (.bl t) ∧ e1 = e) noX := by with_unfolding_all exact W0.wp_and1 h
theorem wp_and2 {r : Es} {t u : Bool} (h : Pb W run a e t) (h2 : t = true → Wp (evAnd W run (.cons b r) e) (fun x e1 => x = .val (.bl u) ∧ e1 = e) noX) : Wp (evAnd W run (.cons a (.cons b r)) e) (fun x e1 => x = .val (.bl (t && u)) ∧ e1 = e) noX := by with_unfolding_all exact W0.wp_and2 h h2
theorem wp_or1 {t : Bool} (h : Pb W run a e t) : Wp (evOr W run (.cons a .nil) e) (fun x e1 => x = .val (.bl t) ∧ e1 = e) noX := by with_unfolding_all exact W0.wp_or1 h
theorem wp_or2 {r : Es} {t u : Bool} (h : Pb W run a e t) (h2 : t = false → Wp (evOr W run (.cons b r) e) (fun x e1 => x = .val (.bl u) ∧ e1 = e) noX) : Wp (evOr W run (.cons a (.cons b r)) e) (fun x e1 => x = .val (.bl (t || u)) ∧ e1 = e) noX := by with_unfolding_all exact W0.wp_or2 h h2
theorem wp_and {t : Bool} (h : Wp (evAnd W run es e) (fun x e1 => x = .val (.bl t) ∧ e1 = e) noX) (q : Q (.val (.bl t)) e) : Wp (ev W run (.and es) e) Q X := by with_unfolding_all exact W0.wp_and h q
theorem wp_or {t : Bool} (h : Wp (evOr W run es e) (fun x e1 => x = .val (.bl t) ∧ e1 = e) noX) (q : Q (.val (.bl t)) e) : Wp (ev W run (.or es) e) Q X := by with_unfolding_all exact W0.wp_or h q
/-- tests with effects -/
theorem wp_andE (q : Wp (evAnd W run es e) Q X) : Wp (ev W run (.and es) e) Q X := by with_unfolding_all exact W0.wp_andE q
theorem wp_orE (q : Wp (evOr W run es e) Q X) : Wp (ev W run (.or es) e) Q X := by with_unfolding_all exact W0.wp_orE q
theorem wp_and1E (q : Wp (ev W run a e) (fun x e1 => ∃ b, x = .val (.bl b) ∧ Q (.val (.bl b)) e1) X) : Wp (evAnd W run (.cons a .nil) e) Q X := by with_unfolding_all exact W0.wp_and1E q
theorem wp_and2E {r : Es} (q : Wp (ev W run a e) (fun x e1 => ∃ t, x = .val (.bl t) ∧ if t = true then Wp (evAnd W run (.cons b r) e1) Q X else Q (.val (.bl false)) e1) X) : Wp (evAnd W run (.cons a (.cons b r)) e) Q X := by with_unfolding_all exact W0.wp_and2E q
theorem wp_or1E (q : Wp (ev W run a e) (fun x e1 => ∃ b, x = .val (.bl b) ∧ Q (.val (.bl b)) e1) X) : Wp (evOr W run (.cons a .nil) e) Q X := by with_unfolding_all exact W0.wp_or1E q
theorem wp_or2E {r : Es} (q : Wp (ev W run a e) (fun x e1 => ∃ t, x = .val (.bl t) ∧ if t = true then Q (.val (.bl true)) e1 else Wp (evOr W run (.cons b r) e1) Q X) X) : Wp (evOr W run (.cons a (.cons b r)) e) Q X := by with_unfolding_all exact W0.wp_or2E q
theorem wp_tup (q : Wp (evs W run es e) (fun rs e1 => Wp (tupR rs e1) Q X) X) : Wp (ev W run (.tup es) e) Q X := by with_unfolding_all exact W0.wp_tup q
theorem wp_lst (q : Wp (evs W run es e) (fun rs e1 => Wp (lstR rs e1) Q X) X) : Wp (ev W run (.lst es) e) Q X := by with_unfolding_all exact W0.wp_lst q
theorem wp_dic {t : Bool} (q : Wp (evs W run es e) (fun rs e1 => Wp (dicR t rs e1) Q X) X) : Wp (ev W run (.dic t es) e) Q X := by with_unfolding_all exact W0.wp_dic q
theorem wp_tupR {rs : List Rv} {ds : List D} (h : keep rs = some ds) (n : ds.length ≤ 1000) (q : Q (.val (.tup ds)) e) : Wp (tupR rs e) Q X := by with_unfolding_all exact W0.wp_tupR h n q
theorem wp_lstR {rs : List Rv} {ds : List D} (h : keep rs = some ds) (n : ds.length ≤ 1000) (q : Q (.fresh (.lst ds)) e) : Wp (lstR rs e) Q X := by with_unfolding_all exact W0.wp_lstR h n q
theorem wp_dic0 {t : Bool} (q : Q (.fresh (.dct t [])) e) : Wp (dicR t [] e) Q X := by with_unfolding_all exact W0.wp_dic0 q
theorem wp_dic1 {k v : Rv} {dk dv : D} (hk : k.fz = some dk) (hv : v.fz = some dv) (ok : keyOk false dk = true) (q : Q (.fresh (.dct false [(dk, dv)])) e) : Wp (dicR false [k, v] e) Q X := by with_unfolding_all exact W0.wp_dic1 hk hv ok q
theorem wp_nil {Q : List Rv → Fm → Prop} (q : Q [] e) : Wp (evs W run .nil e) Q X := by with_unfolding_all exact W0.wp_nil q
theorem wp_cons {r : Es} {Q : List Rv → Fm → Prop} (q : Wp (ev W run a e) (fun x e1 => Wp (evs W run r e1) (fun xs e2 => Q (x :: xs) e2) X) X) : Wp (evs W run (.cons a r) e) Q X := by with_unfolding_all exact W0.wp_cons q
theorem wp_star {r : Es} {Q : List Rv → Fm → Prop} (q : Wp (ev W run a e) (fun x e1 => ∃ ds, (x.rd e1).bind starD = some ds ∧ Wp (evs W run r e1) (fun xs e2 => Q (ds.map .val ++ xs) e2) X) X) : Wp (evs W run (.star a r) e) Q X := by with_unfolding_all exact W0.wp_star q
theorem wp_idx (q : Wp (ev W run a e) (fun x e1 => Wp (ev W run b e1) (fun y e2 => Wp (idxR x y e2) Q X) X) X) : Wp (ev W run (.idx a b) e) Q X := by with_unfolding_all exact W0.wp_idx q
theorem wp_slc {lo hi : E} (q : Wp (ev W run a e) (fun x e1 => Wp (partF lo.isNop (fun e => ev W run lo e) e1) (fun l e2 => Wp (partF hi.isNop (fun e => ev W run hi e) e2) (fun h e3 => Wp (slcR l h x e3) Q X) X) X) X) : Wp (ev W run (.slc a lo hi) e) Q X := by with_unfolding_all exact W0.wp_slc q
theorem wp_part0 {Q : Option Int → Fm → Prop} (q : Q none e) : Wp (partF (E.isNop .nop) (fun e => ev W run .nop e) e) Q X := by with_unfolding_all exact W0.wp_part0 q
theorem wp_part1 {Q : Option Int → Fm → Prop} (hn : a.isNop = false) (q : Wp (ev W run a e) (fun x e1 => ∃ i, x = .val (.int i) ∧ Q (some i) e1) X) : Wp (partF a.isNop (fun e => ev W run a e) e) Q X := by with_unfolding_all exact W0.wp_part1 hn q
theorem wp_slcR {lo hi : Option Int} {x r : Rv} {dx : D} (hx : x.rd e = some dx) (h : slcD dx lo hi = some r) (q : Q r e) : Wp (slcR lo hi x e) Q X := by with_unfolding_all exact W0.wp_slcR hx h q
theorem wp_rev (q : Wp (ev W run a e) (fun x e1 => Wp (rd1 revD x e1) Q X) X) : Wp (ev W run (.rev a) e) Q X := by with_unfolding_all exact W0.wp_rev q
theorem wp_fld {f : Str} (q : Wp (ev W run a e) (fun x e1 => Wp (fldR W f x e1) Q X) X) : Wp (ev W run (.fld a f) e) Q X := by with_unfolding_all exact W0.wp_fld q
theorem wp_fldR {f : Str} {x : Rv} {c : Nat} {fs : List (Str × D)} (hx : x.rd e = some (.obj c fs)) (hf : W.fl c f = true) (h : fs.lookup f = some d) (q : Q (.val d) e) : Wp (fldR W f x e) Q X := by with_unfolding_all exact W0.wp_fldR hx hf h q
theorem wp_give (q : Wp (ev W run a e) (fun x e1 => ∃ d, x = .fresh d ∧ Q (.give d) e1) X) : Wp (ev W run (.give a) e) Q X := by with_unfolding_all exact W0.wp_give q
theorem wp_blt {bl : Blt} (q : Wp (evs W run es e) (fun rs e1 => Wp (bltR bl rs e1) Q X) X) : Wp (ev W run (.blt bl es) e) Q X := by with_unfolding_all exact W0.wp_blt q
theorem wp_bltR {bl : Blt} {rs : List Rv} {ds : List D} {r : Rv} (h : reads rs e = some ds) (h2 : bltD bl ds = some r) (q : Q r e) : Wp (bltR bl rs e) Q X := by with_unfolding_all exact W0.wp_bltR h h2 q
theorem wp_isi {cs : List Cl} (q : Wp (ev W run a e) (fun x e1 => Wp (isiR W cs x e1) Q X) X) : Wp (ev W run (.isi a cs) e) Q X := by with_unfolding_all exact W0.wp_isi q
theorem wp_isiR {cl : Cl} {x : Rv} {t : Bool} (hx : x.rd e = some d) (h : isi1 W d cl = some t) (q : Q (.val (.bl t)) e) : Wp (isiR W [cl] x e) Q X := by with_unfolding_all exact W0.wp_isiR hx h q
theorem wp_bmt {m : Bmt} (q : Wp (ev W run a e) (fun x e1 => bmtOk m (x.rd e1) = true ∧ Wp (evs W run es e1) (fun rs e2 => Wp (bmtR m x rs e2) Q X) X) X) : Wp (ev W run (.bmt m a es) e) Q X := by with_unfolding_all exact W0.wp_bmt q
theorem wp_bmtR {m : Bmt} {x : Rv} {rs : List Rv} {dx : D} {ds : List D} {y : Rv × Option D} (h1 : x.rd e = some dx) (h2 : keep rs = some ds) (h3 : bmtD m dx ds = some y) (q : Wp (mtOut x y e) Q X) : Wp (bmtR m x rs e) Q X := by with_unfolding_all exact W0.wp_bmtR h1 h2 h3 q
theorem wp_mt0 {x r : Rv} (q : Q r e) : Wp (mtOut x (r, none) e) Q X := by with_unfolding_all exact W0.wp_mt0 q
theorem wp_mt1 {r : Rv} {z : D} (h : e[i]? = some (.own o d)) (q : Q r (e.set i (.own o z))) : Wp (mtOut (.bor i) (r, some z) e) Q X := by with_unfolding_all exact W0.wp_mt1 h q
/-- a chained test without effects -/
theorem wp_chnP {o1 o2 : CmpOp} {third : Fm → Out Rv} {dx dy dz : D} {t : Bool} {u : Bool} (h1 : cmpD o1 dx dy = some t) (h2 : Wp (third e) (fun z e1 => z = .val dz ∧ e1 = e) noX) (h3 : cmpF o2 dy dz = some (.val (.bl u))) (q : Q (.val (.bl (t && u))) e) : Wp (chnR o1 o2 third (.val dx) (.val dy) e) Q X := by with_unfolding_all exact W0.wp_chnP h1 h2 h3 q
/-! ### calls -/
theorem wp_cal {f : Nat} {pm : List (Option Nat)} (q : Wp (evs W run es e) (fun rs e1 => Wp (evs W run ks e1) (fun qs e2 => Wp (callR run W f (rs ++ qs) pm e2) Q X) X) X) : Wp (ev W run (.cal f es ks pm) e) Q X := by with_unfolding_all exact W0.wp_cal q
theorem wp_callR {f : Nat} {rs : List Rv} {pm : List (Option Nat)} {as : List Sl} {ls : List Nat} {outs : List D} {r : D} {fr : Bool} {dv : List (Option D)} (hd : dfls (W.npar f) (W.dfl f) = dv) (ha : argsOf rs e dv pm = some (as, ls)) (hn : ls.Nodup) (hr : run f as = .ok r fr outs)
    (q : Q (if fr = true then .fresh r else .val r) (putBack e ls outs)) : Wp (callR run W f rs pm e) Q X := by with_unfolding_all exact W0.wp_callR hd ha hn hr q
theorem wp_callX {f : Nat} {rs : List Rv} {pm : List (Option Nat)} {as : List Sl} {ls : List Nat} {outs : List D} {c : Nat} {fs : List D} {dv : List (Option D)} (hd : dfls (W.npar f) (W.dfl f) = dv) (ha : argsOf rs e dv pm = some (as, ls)) (hn : ls.Nodup) (hr : run f as = .ex c fs outs)
    (q : X c fs (putBack e ls outs)) : Wp (callR run W f rs pm e) Q X := by with_unfolding_all exact W0.wp_callX hd ha hn hr q
theorem wp_prp {f : Str} (q : Wp (ev W run a e) (fun x e1 => Wp (prpR W run f x e1) Q X) X) : Wp (ev W run (.prp a f) e) Q X := by with_unfolding_all exact W0.wp_prp q
theorem wp_sure {o : Out α} {Q : α → Fm → Prop} (q : Wp o Q noX) : Wp o.sure Q X := by with_unfolding_all exact W0.wp_sure q
theorem wp_prpR {f : Str} {x : Rv} {c g : Nat} {fs : List (Str × D)} (h : x.rd e = some (.obj c fs)) (hg : W.prp c f = some g) (q : Wp (callR run W g [selfR x] [some 0] e) Q noX) : Wp (prpR W run f x e) Q X := by with_unfolding_all exact W0.wp_prpR h hg q
theorem wp_mth {m : Str} {pm : List (Option Nat)} (q : Wp (ev W run a e) (fun x e1 => ∃ g, mthG W m x e1 = some g ∧ Wp (evs W run es e1) (fun rs e2 => Wp (evs W run ks e2) (fun qs e3 => Wp (callR run W g (selfR x :: (rs ++ qs)) pm e3) Q X) X) X) X) : Wp (ev W run (.mth a m es ks pm) e) Q X := by with_unfolding_all exact W0.wp_mth q
theorem wp_mak {c g : Nat} {pm : List (Option Nat)} (hg : W.ini c = some g) (q : Wp (evs W run es e) (fun rs e1 => Wp (evs W run ks e1) (fun qs e2 => Wp (makR W run c g pm (rs ++ qs) e2) Q X) X) X) : Wp (ev W run (.mak c es ks pm) e) Q X := by with_unfolding_all exact W0.wp_mak hg q
theorem wp_makR {c g : Nat} {rs : List Rv} {pm : List (Option Nat)} {as : List Sl} {ls : List Nat} {outs : List D} {o : D} {dv : List (Option D)} (hd : dfls (W.npar g) (W.dfl g) = dv) (ha : argsOf (.val .non :: rs) e dv pm = some (as, ls)) (hn : ls.Nodup) (hp : pm.head? = some (some 0)) (hr : run g (makA c as) = .ok .non false (o :: outs))
    (q : Q (.fresh o) (putBack e ls outs)) : Wp (makR W run c g pm rs e) Q X := by with_unfolding_all exact W0.wp_makR hd ha hn hp hr q
theorem wp_makX {c g k : Nat} {rs : List Rv} {pm : List (Option Nat)} {as : List Sl} {ls : List Nat} {fs outs : List D} {o : D} {dv : List (Option D)} (hd : dfls (W.npar g) (W.dfl g) = dv) (ha : argsOf (.val .non :: rs) e dv pm = some (as, ls)) (hn : ls.Nodup) (hp : pm.head? = some (some 0)) (hr : run g (makA c as) = .ex k fs (o :: outs))
    (q : X k fs (putBack e ls outs)) : Wp (makR W run c g pm rs e) Q X := by with_unfolding_all exact W0.wp_makX hd ha hn hp hr q
end
/-! ### comprehensions without effects -/
section
variable {α β : Type} {W : Wd} {run : Nat → List Sl → Res} {e : Fm} {Q : Rv → Fm → Prop} {X : Xp}
theorem lcL_pure {own : List Nat} {tg : Tg} {cond : Fm → Out Bool} {el : Fm → Out D} {f : α → D} {p : α → Bool} {g : α → D} {w : Fm} {bt : α → Fm} :
    ∀ (xs : List α) (acc : List D) (e : Fm), wipeE e own = w → (∀ x ∈ xs, bindT tg (f x) w = some (bt x)) → (∀ x ∈ xs, wipeE (bt x) own = w) → (∀ x ∈ xs, cond (bt x) = .ok (p x) (bt x)) → (∀ x ∈ xs, p x = true → el (bt x) = .ok (g x) (bt x)) → acc.length + xs.length ≤ 1000000 →
      ∃ e', lcL own tg cond el (xs.map f) acc e = .ok (acc ++ (xs.filter p).map g) e' ∧ (e' = e ∨ ∃ x ∈ xs, e' = bt x) := by with_unfolding_all exact W0.lcL_pure 
/-- a list comprehension whose turns only read -/
theorem wp_lc {tg : Tg} {sk : SrcK} {src : Es} {own : List Nat} {cond el : E} {f : α → D} {p : α → Bool} {g : α → D} {bt : α → Fm} {ys : List D} (xs : List α)
    (hsrc : Wp (evs W run src e) (fun rs e1 => e1 = e ∧ (keep rs).bind (srcD sk) = some ys) noX) (hys : ys = xs.map f) (hno : noOwn e own = true)
    (hb : ∀ x ∈ xs, bindT tg (f x) (wipeE e own) = some (bt x)) (hr : ∀ x ∈ xs, wipeE (bt x) own = wipeE e own) (hq : ∀ x ∈ xs, restore e (bt x) own = e) (hq0 : restore e e own = e)
    (hc : ∀ x ∈ xs, Wp (condF cond.isNop (fun e => ev W run cond e) (bt x)) (fun t e1 => t = p x ∧ e1 = bt x) noX)
    (he : ∀ x ∈ xs, p x = true → Wp (ev W run el (bt x)) (fun r e1 => r.fz = some (g x) ∧ e1 = bt x) noX) (hl : xs.length ≤ 1000000)
    (q : Q (.fresh (.lst ((xs.filter p).map g))) e) : Wp (ev W run (.lc tg sk src own cond el) e) Q X := by with_unfolding_all exact W0.wp_lc xs hsrc hys hno hb hr hq hq0 hc he hl q
theorem wp_cond0 {e : Fm} {Q : Bool → Fm → Prop} (q : Q true e) : Wp (condF (E.isNop .nop) (fun e => ev W run .nop e) e) Q X := by with_unfolding_all exact W0.wp_cond0 q
theorem wp_cond1 {a : E} {e : Fm} {Q : Bool → Fm → Prop} (hn : a.isNop = false) (q : Wp (ev W run a e) (fun x e1 => ∃ b, x = .val (.bl b) ∧ Q b e1) X) : Wp (condF a.isNop (fun e => ev W run a e) e) Q X := by with_unfolding_all exact W0.wp_cond1 hn q
end
/-! ### statements -/
section
variable {α : Type} {W : Wd} {run : Nat → List Sl → Res} {e : Fm} {Q : Fl → Fm → Prop} {X : Xp} {a b c : E} {es : Es} {i j : Nat} {d : D} {s : S} {r : Ss}
theorem ws_nil (q : Q .next e) : Wp (exs W run .nil e) Q X := by with_unfolding_all exact W0.ws_nil q
/-- what follows a statement -/
def Nx (W : Wd) (run : Nat → List Sl → Res) (r : Ss) (Q : Fl → Fm → Prop) (X : Xp) (f : Fl) (e : Fm) : Prop := match f with
  | .next => Wp (exs W run r e) Q X
  | f => Q f e
theorem ws_cons (q : Wp (ex W run s e) (Nx W run r Q X) X) : Wp (exs W run (.cons s r) e) Q X := by with_unfolding_all exact W0.ws_cons q
theorem nx_next (q : Wp (exs W run r e) Q X) : Nx W run r Q X .next e := by with_unfolding_all exact W0.nx_next q
theorem nx_ret {fr : Bool} (q : Q (.ret fr d) e) : Nx W run r Q X (.ret fr d) e := q
theorem nx_cnt (q : Q .cnt e) : Nx W run r Q X .cnt e := q
theorem nx_brk (q : Q .brk e) : Nx W run r Q X .brk e := q
theorem ws_asg {o : Bool} (q : Wp (ev W run a e) (fun x e1 => Wp (asgR i o x e1) Q X) X) : Wp (ex W run (.asg i o a) e) Q X := by with_unfolding_all exact W0.ws_asg q
theorem ws_asgV (q : Q .next (e.set i (.val d))) : Wp (asgR i false (.val d) e) Q X := by with_unfolding_all exact W0.ws_asgV q
theorem ws_asgF (q : Q .next (e.set i (.val d))) : Wp (asgR i false (.fresh d) e) Q X := by with_unfolding_all exact W0.ws_asgF q
theorem ws_asgO (q : Q .next (e.set i (.own none d))) : Wp (asgR i true (.fresh d) e) Q X := by with_unfolding_all exact W0.ws_asgO q
theorem ws_asgW (q : Q .next (e.set i (.val d))) : Wp (asgR i true (.val d) e) Q X := by with_unfolding_all exact W0.ws_asgW q
theorem ws_par {ts : List (Nat × Bool)} (q : Wp (evs W run es e) (fun rs e1 => (rs.all fun r => r.fz.isSome) = true ∧ Wp (parR ts rs e1) Q X) X) : Wp (ex W run (.par ts es) e) Q X := by with_unfolding_all exact W0.ws_par q
theorem ws_par0 (q : Q .next e) : Wp (parR [] [] e) Q X := by with_unfolding_all exact W0.ws_par0 q
theorem ws_par1 {o : Bool} {ts : List (Nat × Bool)} {x : Rv} {rs : List Rv} (q : Wp (asgR i o x e) (fun _ e1 => Wp (parR ts rs e1) Q X) X) : Wp (parR ((i, o) :: ts) (x :: rs) e) Q X := by with_unfolding_all exact W0.ws_par1 q
theorem ws_unp {ts : List Tu} (q : Wp (ev W run a e) (fun x e1 => ∃ ds, x = .val (.tup ds) ∧ ds.length = ts.length ∧ Wp (unpL W run ts ds e1) Q X) X) : Wp (ex W run (.unp ts a) e) Q X := by with_unfolding_all exact W0.ws_unp q
theorem ws_unp0 (q : Q .next e) : Wp (unpL W run [] [] e) Q X := by with_unfolding_all exact W0.ws_unp0 q
theorem ws_unpN {ts : List Tu} {ds : List D} (q : Wp (unpL W run ts ds (e.set i (.val d))) Q X) : Wp (unpL W run (.nam i :: ts) (d :: ds) e) Q X := by with_unfolding_all exact W0.ws_unpN q
theorem ws_unpS {ts : List Tu} {ds : List D} (q : Wp (subR W run j a d e) (fun _ e1 => Wp (unpL W run ts ds e1) Q X) X) : Wp (unpL W run (.sub j a :: ts) (d :: ds) e) Q X := by with_unfolding_all exact W0.ws_unpS q
theorem ws_sub {o : Option Nat} {x : D} (h : e[j]? = some (.own o x)) (q : Wp (ev W run a e) (fun r e1 => ∃ k, r.fz = some k ∧ Wp (stoR j k d e1) Q X) X) : Wp (subR W run j a d e) Q X := by with_unfolding_all exact W0.ws_sub h q
theorem ws_stoR {o : Option Nat} {x y k v : D} (h : e[j]? = some (.own o x)) (h2 : stoD x k v = some y) (q : Q .next (e.set j (.own o y))) : Wp (stoR j k v e) Q X := by with_unfolding_all exact W0.ws_stoR h h2 q
theorem ws_sto (q : Wp (ev W run b e) (fun r e1 => ∃ d, r.fz = some d ∧ Wp (subR W run j a d e1) Q X) X) : Wp (ex W run (.sto j a b) e) Q X := by with_unfolding_all exact W0.ws_sto q
theorem ws_att {f : Str} (q : Wp (ev W run a e) (fun r e1 => ∃ v o c fs, r.fz = some v ∧ e1[j]? = some (.own o (.obj c fs)) ∧ fs.length < 999 ∧ W.fl c f = true ∧ Q .next (e1.set j (.own o (.obj c (putF f v fs))))) X) : Wp (ex W run (.att j f a) e) Q X := by with_unfolding_all exact W0.ws_att q
theorem ws_exp (q : Wp (ev W run a e) (fun _ e1 => Q .next e1) X) : Wp (ex W run (.exp a) e) Q X := by with_unfolding_all exact W0.ws_exp q
theorem ws_ret (q : Wp (ev W run a e) (retQ Q) X) : Wp (ex W run (.ret a) e) Q X := by with_unfolding_all exact W0.ws_ret q
theorem ws_retV (q : Q (.ret false d) e) : retQ Q (.val d) e := by with_unfolding_all exact W0.ws_retV q
theorem ws_retF (q : Q (.ret true d) e) : retQ Q (.fresh d) e := by with_unfolding_all exact W0.ws_retF q
theorem ws_retN (q : Q (.ret false .non) e) : Wp (ex W run .retN e) Q X := by with_unfolding_all exact W0.ws_retN q
theorem ws_pas (q : Q .next e) : Wp (ex W run .pas e) Q X := by with_unfolding_all exact W0.ws_pas q
theorem ws_brk (q : Q .brk e) : Wp (ex W run .brk e) Q X := by with_unfolding_all exact W0.ws_brk q
theorem ws_cnt (q : Q .cnt e) : Wp (ex W run .cnt e) Q X := by with_unfolding_all exact W0.ws_cnt q
theorem ws_ife {x y : Ss} (q : Wp (ev W run c e) (fun r e1 => ∃ t, r = .val (.bl t) ∧ Wp (if t = true then exs W run x e1 else exs W run y e1) Q X) X) : Wp (ex W run (.ife c x y) e) Q X := by with_unfolding_all exact W0.ws_ife q
theorem ws_for {tg : Tg} {sk : SrcK} {src : Es} {b : Ss} (q : Wp (evs W run src e) (fun rs e1 => ∃ ds, (keep rs).bind (srcD sk) = some ds ∧ Wp (forL tg (exs W run b) ds e1) Q X) X) : Wp (ex W run (.for tg sk src b) e) Q X := by with_unfolding_all exact W0.ws_for q
theorem ws_whl {b : Ss} (q : Wp (whlL (fun e => (ev W run c e).tst) (exs W run b) most e) Q X) : Wp (ex W run (.whl c b) e) Q X := by with_unfolding_all exact W0.ws_whl q
/-- what a turn hands on -/
theorem lpk_next {I : Fm → Prop} (h : I e) : LpK I Q .next e := by with_unfolding_all exact W0.lpk_next h
theorem lpk_cnt {I : Fm → Prop} (h : I e) : LpK I Q .cnt e := by with_unfolding_all exact W0.lpk_cnt h
theorem lpk_brk {I : Fm → Prop} (h : Q .next e) : LpK I Q .brk e := by with_unfolding_all exact W0.lpk_brk h
theorem lpk_ret {I : Fm → Prop} {fr : Bool} (h : Q (.ret fr d) e) : LpK I Q (.ret fr d) e := by with_unfolding_all exact W0.lpk_ret h
/-- a for, by an invariant over what is done -/
theorem wp_forL' {tg : Tg} {body : Fm → Out Fl} {f : α → D} {all : List α} (I : List α → Fm → Prop)
    (step : ∀ done x rest, all = done ++ x :: rest → ∀ e, I done e → ∃ e1, bindT tg (f x) e = some e1 ∧ Wp (body e1) (LpK (I (done ++ [x])) Q) X) (hQ : ∀ e, I all e → Q .next e) :
    ∀ (rest done : List α) (e : Fm), all = done ++ rest → I done e → Wp (forL tg body (rest.map f) e) Q X := by with_unfolding_all exact W0.wp_forL' I step hQ
theorem wp_forL {tg : Tg} {body : Fm → Out Fl} {f : α → D} {ds : List D} (all : List α) (hds : ds = all.map f) (I : List α → Fm → Prop) (h0 : I [] e)
    (step : ∀ done x rest, all = done ++ x :: rest → ∀ e, I done e → ∃ e1, bindT tg (f x) e = some e1 ∧ Wp (body e1) (LpK (I (done ++ [x])) Q) X) (hQ : ∀ e, I all e → Q .next e) :
    Wp (forL tg body ds e) Q X := by with_unfolding_all exact W0.wp_forL all hds I h0 step hQ
theorem wp_forE' {tg : Tg} {body : Fm → Out Fl} {g : α → D} {all : List α} (I : List α → Fm → Prop)
    (step : ∀ done x rest, all = done ++ x :: rest → ∀ e, I done e → ∃ e1, bindT tg (.tup [.int (done.length : Nat), g x]) e = some e1 ∧ Wp (body e1) (LpK (I (done ++ [x])) Q) X) (hQ : ∀ e, I all e → Q .next e) :
    ∀ (rest done : List α) (e : Fm), all = done ++ rest → I done e → Wp (forL tg body ((rest.map g).mapIdx fun i x => D.tup [.int ((i + done.length : Nat) : Int), x]) e) Q X := by with_unfolding_all exact W0.wp_forE' I step hQ
/-- a for over an enumeration -/
theorem wp_forE {tg : Tg} {body : Fm → Out Fl} {g : α → D} (xs : List α) (I : List α → Fm → Prop) (h0 : I [] e)
    (step : ∀ done x rest, xs = done ++ x :: rest → ∀ e, I done e → ∃ e1, bindT tg (.tup [.int (done.length : Nat), g x]) e = some e1 ∧ Wp (body e1) (LpK (I (done ++ [x])) Q) X) (hQ : ∀ e, I xs e → Q .next e) :
    Wp (forL tg body ((xs.map g).mapIdx fun i x => D.tup [.int i, x]) e) Q X := by with_unfolding_all exact W0.wp_forE xs I h0 step hQ
theorem wp_forR' {tg : Tg} {body : Fm → Out Fl} {n : Nat} (I : Nat → Fm → Prop)
    (step : ∀ i, i < n → ∀ e, I i e → ∃ e1, bindT tg (.int (i : Nat)) e = some e1 ∧ Wp (body e1) (LpK (I (i + 1)) Q) X) (hQ : ∀ e, I n e → Q .next e) :
    ∀ (m i : Nat) (e : Fm), i + m = n → I i e → Wp (forL tg body ((List.range' i m).map fun i => D.int (i : Nat)) e) Q X := by with_unfolding_all exact W0.wp_forR' I step hQ
/-- a for over a range -/
theorem wp_forR {tg : Tg} {body : Fm → Out Fl} {n : Nat} (I : Nat → Fm → Prop) (h0 : I 0 e)
    (step : ∀ i, i < n → ∀ e, I i e → ∃ e1, bindT tg (.int (i : Nat)) e = some e1 ∧ Wp (body e1) (LpK (I (i + 1)) Q) X) (hQ : ∀ e, I n e → Q .next e) :
    Wp (forL tg body ((List.range n).map fun i => D.int (i : Nat)) e) Q X := by with_unfolding_all exact W0.wp_forR I h0 step hQ
/-- a while, by an invariant with a measure -/
theorem wp_whlL' {cond : Fm → Out Bool} {body : Fm → Out Fl} (I : Nat → Fm → Prop)
    (step : ∀ m e, I m e → Wp (cond e) (fun t e1 => if t = true then Wp (body e1) (LpK (fun e2 => ∃ m', m' < m ∧ I m' e2) Q) X else Q .next e1) X) : ∀ (n m : Nat) (e : Fm), I m e → m < n → Wp (whlL cond body n e) Q X := by with_unfolding_all exact W0.wp_whlL' I step
theorem wp_whlL {cond : Fm → Out Bool} {body : Fm → Out Fl} (I : Nat → Fm → Prop) (m : Nat) (hm : m < 2 ^ 64) (h0 : I m e)
    (step : ∀ m e, I m e → Wp (cond e) (fun t e1 => if t = true then Wp (body e1) (LpK (fun e2 => ∃ m', m' < m ∧ I m' e2) Q) X else Q .next e1) X) : Wp (whlL cond body most e) Q X := by with_unfolding_all exact W0.wp_whlL I m hm h0 step
end
/-! ### defs -/
section
variable {W : Wd} {fns : Nat → Option Fn} {f k : Nat} {F : Fn} {as : List Sl}
/-- a def's answer, whatever is asked of it -/
theorem run_post {P : Res → Prop} (h : fns f = some F) (hk : 1 ≤ k) (q : Wp (exs W (runF W fns (k - 1)) F.body (start F.n as)) (fun fl e => P (endR as (.ok fl e))) (fun c fs e => P (endR as (.ex c fs e)))) : P (runF W fns k f as) := by with_unfolding_all exact W0.run_post h hk q
theorem run_ok {r : D} {fr : Bool} {outs : List D} (h : fns f = some F) (hk : 1 ≤ k) (q : Wp (exs W (runF W fns (k - 1)) F.body (start F.n as)) (fun fl e => endR as (.ok fl e) = .ok r fr outs) noX) : runF W fns k f as = .ok r fr outs := by with_unfolding_all exact W0.run_ok h hk q
end
end PV
/-! ## plain laws: data -/
namespace PV
open PySem
/-- what is_name says of a text -/
def nameB (x : Str) : Bool := decide (0 < x.length) && decide (x.length < 9) && x.cps.toList.all fun c => !(Builtin.Str.occurrences "abcdefghijklmnopqrstuvwxyz" ⟨#[c]⟩ 0 (Str.length "abcdefghijklmnopqrstuvwxyz") 1).isEmpty
/-- a name: a text of which == may ask, and a name of a town -/
structure Nm where
  s : Str
  ok : PyData.strOk s = true
  nb : nameB s = true
theorem Nm.ext' {a b : Nm} (h : a.s = b.s) : a = b := by
  cases a; cases b; cases h; rfl
instance : DecidableEq Nm := fun a b => if h : a.s = b.s then isTrue (Nm.ext' h) else isFalse fun z => h (by rw [z])
def nm (a : Nm) : D := .str a.s
instance : Ec nm := ⟨fun a => .str a.ok, fun a b => by simp only [nm, eqv, beq_iff_eq]; exact ⟨Nm.ext', fun h => by rw [h]⟩⟩
def tie (p : Nm × Nm) : D := .tup [nm p.1, nm p.2]
instance : Ec tie := ⟨fun a => Sh.mono (by omega : 1 ≤ 20) (.tup (.cons (.str a.1.ok) (.cons (.str a.2.ok) .nil))), fun a b => by
  simp only [tie, eqv, eqvL, Bool.and_true, Bool.and_eq_true, Ec.inj]
  exact ⟨fun h => Prod.ext h.1 h.2, fun h => by rw [h]; exact ⟨rfl, rfl⟩⟩⟩
def nms (ts : List Nm) : D := .tup (ts.map nm)
instance : Ec nms := ⟨fun a => Sh.mono (by omega : 1 ≤ 20) (.tup (.map fun x _ => .str x.ok)), fun a b => eqvL_map nm Ec.inj a b⟩
def ties (ks : List (Nm × Nm)) : D := .tup (ks.map tie)
theorem nms_def (ts : List Nm) : D.tup (ts.map nm) = nms ts := rfl
/-! ### tests -/
theorem c_inT {α : Type} {f : α → D} [Ec f] [DecidableEq α] (x : α) (xs : List α) [dd : Decidable (x ∈ xs)] : cmpF .In (f x) (.tup (xs.map f)) = some (.val (.bl (decide (x ∈ xs)))) := by simp only [cmpF, cmpD, in_tup, Option.map_some]; congr
theorem c_inL {α : Type} {f : α → D} [Ec f] [DecidableEq α] (x : α) (xs : List α) [dd : Decidable (x ∈ xs)] : cmpF .In (f x) (.lst (xs.map f)) = some (.val (.bl (decide (x ∈ xs)))) := by simp only [cmpF, cmpD, in_lst, Option.map_some]; congr
theorem c_ninT {α : Type} {f : α → D} [Ec f] [DecidableEq α] (x : α) (xs : List α) [dd : Decidable (x ∈ xs)] : cmpF .NotIn (f x) (.tup (xs.map f)) = some (.val (.bl (!decide (x ∈ xs)))) := by simp only [cmpF, cmpD, in_tup, Option.map_some]; congr
theorem c_ninL {α : Type} {f : α → D} [Ec f] [DecidableEq α] (x : α) (xs : List α) [dd : Decidable (x ∈ xs)] : cmpF .NotIn (f x) (.lst (xs.map f)) = some (.val (.bl (!decide (x ∈ xs)))) := by simp only [cmpF, cmpD, in_lst, Option.map_some]; congr
theorem c_inN (x : Nm) (xs : List Nm) : cmpF .In (nm x) (nms xs) = some (.val (.bl (decide (x ∈ xs)))) := c_inT x xs
theorem c_ninN (x : Nm) (xs : List Nm) : cmpF .NotIn (nm x) (nms xs) = some (.val (.bl (!decide (x ∈ xs)))) := c_ninT x xs
theorem c_inK (x : Nm × Nm) (xs : List (Nm × Nm)) : cmpF .In (tie x) (ties xs) = some (.val (.bl (decide (x ∈ xs)))) := c_inT (f := tie) x xs
theorem c_ninK (x : Nm × Nm) (xs : List (Nm × Nm)) : cmpF .NotIn (tie x) (ties xs) = some (.val (.bl (!decide (x ∈ xs)))) := c_ninT (f := tie) x xs
theorem c_inK' (x y : Nm) (xs : List (Nm × Nm)) : cmpF .In (.tup [nm x, nm y]) (ties xs) = some (.val (.bl (decide ((x, y) ∈ xs)))) := c_inT (f := tie) (x, y) xs
theorem c_eq {α : Type} {f : α → D} [Ec f] [DecidableEq α] (x y : α) [dd : Decidable (x = y)] : cmpF .Eq (f x) (f y) = some (.val (.bl (decide (x = y)))) := by simp only [cmpF, cmpD, pyEq_ec, Option.map_some]; congr
theorem c_ne {α : Type} {f : α → D} [Ec f] [DecidableEq α] (x y : α) [dd : Decidable (x = y)] : cmpF .NotEq (f x) (f y) = some (.val (.bl (!decide (x = y)))) := by simp only [cmpF, cmpD, pyEq_ec, Option.map_some]; congr
theorem c_eqT {α : Type} {f : α → D} [Ec f] [DecidableEq α] (x y : List α) [dd : Decidable (x = y)] : cmpF .Eq (.tup (x.map f)) (.tup (y.map f)) = some (.val (.bl (decide (x = y)))) := by simp only [cmpF, cmpD, pyEq_tup, Option.map_some]; congr
theorem c_neT {α : Type} {f : α → D} [Ec f] [DecidableEq α] (x y : List α) [dd : Decidable (x = y)] : cmpF .NotEq (.tup (x.map f)) (.tup (y.map f)) = some (.val (.bl (!decide (x = y)))) := by simp only [cmpF, cmpD, pyEq_tup, Option.map_some]; congr
theorem c_eqL {α : Type} {f : α → D} [Ec f] [DecidableEq α] (x y : List α) [dd : Decidable (x = y)] : cmpF .Eq (.lst (x.map f)) (.lst (y.map f)) = some (.val (.bl (decide (x = y)))) := by simp only [cmpF, cmpD, pyEq_lst, Option.map_some]; congr
theorem c_neL {α : Type} {f : α → D} [Ec f] [DecidableEq α] (x y : List α) [dd : Decidable (x = y)] : cmpF .NotEq (.lst (x.map f)) (.lst (y.map f)) = some (.val (.bl (!decide (x = y)))) := by simp only [cmpF, cmpD, pyEq_lst, Option.map_some]; congr
theorem c_in2 {α : Type} {f : α → D} [Ec f] [DecidableEq α] (x y z : α) [dd : Decidable (x ∈ [y, z])] : cmpF .In (f x) (.tup [f y, f z]) = some (.val (.bl (decide (x ∈ [y, z])))) := c_inT x [y, z]
theorem rev_tie (q : Nm × Nm) : revD (tie q) = some (.val (tie (q.2, q.1))) := rfl
theorem bind2 {i j : Nat} {a b : D} {e : Fm} : bindT (.many [i, j]) (.tup [a, b]) e = some ((e.set i (.val a)).set j (.val b)) := rfl
theorem c_eqT0 {α : Type} {f : α → D} [Ec f] (x : List α) : cmpF .Eq (.tup (x.map f)) (.tup []) = some (.val (.bl x.isEmpty)) := by
  classical
  have := c_eqT (f := f) x []
  rw [List.map_nil] at this
  rw [this]
  cases x <;> simp
theorem c_neT0 {α : Type} {f : α → D} [Ec f] (x : List α) : cmpF .NotEq (.tup (x.map f)) (.tup []) = some (.val (.bl (!x.isEmpty))) := by
  classical
  have := c_neT (f := f) x []
  rw [List.map_nil] at this
  rw [this]
  cases x <;> simp
theorem c_eqL0 {α : Type} {f : α → D} [Ec f] (x : List α) : cmpF .Eq (.lst (x.map f)) (.lst []) = some (.val (.bl x.isEmpty)) := by
  classical
  have := c_eqL (f := f) x []
  rw [List.map_nil] at this
  rw [this]
  cases x <;> simp
theorem c_neL0 {α : Type} {f : α → D} [Ec f] (x : List α) : cmpF .NotEq (.lst (x.map f)) (.lst []) = some (.val (.bl (!x.isEmpty))) := by
  classical
  have := c_neL (f := f) x []
  rw [List.map_nil] at this
  rw [this]
  cases x <;> simp
theorem c_eqI (i j : Int) : cmpF .Eq (.int i) (.int j) = some (.val (.bl (decide (i = j)))) := c_eq (f := D.int) i j
theorem c_neI (i j : Int) : cmpF .NotEq (.int i) (.int j) = some (.val (.bl (!decide (i = j)))) := c_ne (f := D.int) i j
theorem c_lt (i j : Int) : cmpF .Lt (.int i) (.int j) = some (.val (.bl (decide (i < j)))) := rfl
theorem c_le (i j : Int) : cmpF .LtE (.int i) (.int j) = some (.val (.bl (decide (i ≤ j)))) := rfl
theorem c_gt (i j : Int) : cmpF .Gt (.int i) (.int j) = some (.val (.bl (decide (j < i)))) := rfl
theorem c_ge (i j : Int) : cmpF .GtE (.int i) (.int j) = some (.val (.bl (decide (j ≤ i)))) := rfl
theorem c_is (x : D) : cmpF .Is x .non = some (.val (.bl (isNon x))) := rfl
theorem c_isn (x : D) : cmpF .IsNot x .non = some (.val (.bl (!isNon x))) := rfl
/-! ### arithmetic -/
theorem b_add (i j : Int) : binD .Add (.int i) (.int j) = some (.val (.int (i + j))) := rfl
theorem b_sub (i j : Int) : binD .Sub (.int i) (.int j) = some (.val (.int (i - j))) := rfl
theorem b_mod {i j : Int} (h : 0 < j) : binD .Mod (.int i) (.int j) = some (.val (.int (i % j))) := by simp [binD, h]
theorem b_div {i j : Int} (h : 0 < j) (h2 : j < 1073741824) : binD .FloorDiv (.int i) (.int j) = some (.val (.int (i / j))) := by simp [binD, h, h2]
theorem b_mulR {i j : Int} (h : -(2 ^ 64) < j) (h2 : j < 2 ^ 64) : binD .Mult (.int i) (.int j) = some (.val (.int (i * j))) := by simp only [binD, mulOk, h, h2, decide_true, Bool.and_self, Bool.or_true, if_true]
theorem b_mulL {i j : Int} (h : -(2 ^ 64) < i) (h2 : i < 2 ^ 64) : binD .Mult (.int i) (.int j) = some (.val (.int (i * j))) := by simp only [binD, mulOk, h, h2, decide_true, Bool.and_self, Bool.true_or, if_true]
theorem len_ok' {n : Nat} (h : n ≤ 10000000) : n ≤ sizeLine := Nat.le_trans h (by unfold sizeLine; decide)
theorem b_addT {a b : List D} (h : a.length + b.length ≤ 10000000) : binD .Add (.tup a) (.tup b) = some (.val (.tup (a ++ b))) := by
  simp only [binD, okLen, decide_eq_true (len_ok' h), if_true]
theorem b_addL {a b : List D} (h : a.length + b.length ≤ 10000000) : binD .Add (.lst a) (.lst b) = some (.fresh (.lst (a ++ b))) := by
  simp only [binD, okLen, decide_eq_true (len_ok' h), if_true]
theorem b_dvm {i j : Int} (h : 0 < j) (h2 : j < 1073741824) : bltD .divmod [.int i, .int j] = some (.val (.tup [.int (i / j), .int (i % j)])) := by simp [bltD, h, h2]
theorem idx_at {xs : List D} {i : Nat} {d : D} (h : xs[i]? = some d) : L2.atI xs (i : Int) = some d := by
  have hl : i < xs.length := by
    rcases Nat.lt_or_ge i xs.length with h1 | h1
    · exact h1
    · rw [List.getElem?_eq_none h1] at h; cases h
  simp only [L2.atI, L2.ixN]
  rw [if_pos (by omega), if_pos (by omega)]
  simpa using h
theorem idx_last {xs : List D} {d : D} : L2.atI (xs ++ [d]) (-1 : Int) = some d := by
  simp only [L2.atI, L2.ixN]
  rw [if_neg (by omega), if_pos (by simp; omega)]
  have : ((-1 : Int) + ((xs ++ [d]).length : Nat)).toNat = xs.length := by simp; omega
  rw [this]
  simp
/-! ### methods -/
section
variable {W : Wd} {run : Nat → List Sl → Res} {e : Fm} {Q : Rv → Fm → Prop} {X : Xp} {i : Nat} {d : D}
theorem wp_append {o : Option Nat} {xs : List D} {r : Rv} (h : e[i]? = some (.own o (.lst xs))) (hr : r.fz = some d) (hl : xs.length < 10000000) (q : Q (.val .non) (e.set i (.own o (.lst (xs ++ [d]))))) : Wp (bmtR .append (.bor i) [r] e) Q X := by
  refine wp_bmtR (dx := .lst xs) (ds := [d]) (y := (.val .non, some (.lst (xs ++ [d])))) (by simp [Rv.rd, h]) (by simp [keep, hr]) ?_ (wp_mt1 h q)
  have : xs.length < sizeLine := Nat.lt_of_lt_of_le hl (by unfold sizeLine; decide)
  simp only [bmtD, this, if_true]
theorem wp_extend {o : Option Nat} {xs ys : List D} {r : Rv} (h : e[i]? = some (.own o (.lst xs))) (hr : r.fz = some (.lst ys)) (hl : xs.length + ys.length ≤ 10000000) (q : Q (.val .non) (e.set i (.own o (.lst (xs ++ ys))))) : Wp (bmtR .extend (.bor i) [r] e) Q X := by
  refine wp_bmtR (dx := .lst xs) (ds := [.lst ys]) (y := (.val .non, some (.lst (xs ++ ys)))) (by simp [Rv.rd, h]) (by simp [keep, hr]) ?_ (wp_mt1 h q)
  have : xs.length + ys.length ≤ sizeLine := Nat.le_trans hl (by unfold sizeLine; decide)
  simp only [bmtD, this, if_true]
theorem wp_insert {o : Option Nat} {xs : List D} {r z : Rv} {j : Int} (h : e[i]? = some (.own o (.lst xs))) (hz : z.fz = some (.int j)) (hr : r.fz = some d) (h0 : 0 ≤ j) (h1 : j ≤ xs.length) (hl : xs.length < 10000000) (q : Q (.val .non) (e.set i (.own o (.lst (xs.take j.toNat ++ d :: xs.drop j.toNat))))) : Wp (bmtR .insert (.bor i) [z, r] e) Q X := by
  refine wp_bmtR (dx := .lst xs) (ds := [.int j, d]) (y := (.val .non, some (.lst (xs.take j.toNat ++ d :: xs.drop j.toNat)))) (by simp [Rv.rd, h]) (by simp [keep, hr, hz]) ?_ (wp_mt1 h q)
  have : xs.length < sizeLine := Nat.lt_of_lt_of_le hl (by unfold sizeLine; decide)
  simp only [bmtD]
  rw [if_pos ⟨h0, h1, this⟩]
theorem wp_pop0 {o : Option Nat} {xs : List D} (h : e[i]? = some (.own o (.lst (xs ++ [d])))) (q : Q (.val d) (e.set i (.own o (.lst xs)))) : Wp (bmtR .pop0 (.bor i) [] e) Q X := by
  refine wp_bmtR (dx := .lst (xs ++ [d])) (ds := []) (y := (.val d, some (.lst xs))) (by simp [Rv.rd, h]) (by simp [keep]) ?_ (wp_mt1 h q)
  simp [bmtD]
theorem wp_pop1 {o : Option Nat} {xs : List D} {z : Rv} {j : Int} (h : e[i]? = some (.own o (.lst xs))) (hz : z.fz = some (.int j)) (h0 : 0 ≤ j) (h1 : j < 2 ^ 63) (hd : xs[j.toNat]? = some d) (q : Q (.val d) (e.set i (.own o (.lst (xs.eraseIdx j.toNat))))) : Wp (bmtR .pop1 (.bor i) [z] e) Q X := by
  refine wp_bmtR (dx := .lst xs) (ds := [.int j]) (y := (.val d, some (.lst (xs.eraseIdx j.toNat)))) (by simp [Rv.rd, h]) (by simp [keep, hz]) ?_ (wp_mt1 h q)
  simp only [bmtD]
  rw [if_pos ⟨h0, h1⟩, hd]
end
/-! ### calls, by what is promised of the def -/
/-- what a call hands on -/
@[irreducible] def CallK (Q : Rv → Fm → Prop) (X : Xp) (e : Fm) (ls : List Nat) (z : Res) : Prop := match z with
  | .ok r fr outs => Q (if fr = true then .fresh r else .val r) (putBack e ls outs)
  | .ex c fs outs => X c fs (putBack e ls outs)
  | .bad => False
section
variable {α β : Type} {W : Wd} {run : Nat → List Sl → Res} {e : Fm} {Q : Rv → Fm → Prop} {X : Xp} {i j : Nat} {d r : D}
theorem wp_callK {f : Nat} {rs : List Rv} {pm : List (Option Nat)} {as : List Sl} {ls : List Nat} {dv : List (Option D)} (hd : dfls (W.npar f) (W.dfl f) = dv) (ha : argsOf rs e dv pm = some (as, ls)) (hn : ls.Nodup) (q : CallK Q X e ls (run f as)) : Wp (callR run W f rs pm e) Q X := by
  unfold callR callG
  rw [hd, ha]
  simp only [if_pos hn]
  revert q
  unfold CallK
  cases run f as <;> with_unfolding_all exact fun q => q
theorem ck_v {ls : List Nat} (hl : ls = []) (q : Q (.val r) e) : CallK Q X e ls (.ok r false []) := by subst hl; with_unfolding_all exact q
theorem ck_f {ls : List Nat} (hl : ls = []) (q : Q (.fresh r) e) : CallK Q X e ls (.ok r true []) := by subst hl; with_unfolding_all exact q
theorem ck_v1 {ls : List Nat} {l : Option Nat} {d0 : D} (hl : ls = [i]) (h : e[i]? = some (.own l d0)) (q : Q (.val r) (e.set i (.own l d))) : CallK Q X e ls (.ok r false [d]) := by
  subst hl
  unfold CallK
  simp only [putBack, h]
  exact q
theorem ck_f1 {ls : List Nat} {l : Option Nat} {d0 : D} (hl : ls = [i]) (h : e[i]? = some (.own l d0)) (q : Q (.fresh r) (e.set i (.own l d))) : CallK Q X e ls (.ok r true [d]) := by
  subst hl
  unfold CallK
  simp only [putBack, h]
  exact q
theorem ck_vg {j : Nat} {ls : List Nat} {fr : Bool} {outs : List D} {e' : Fm} {x : Rv} (h : putBack e ls outs = e') (hx : (if fr = true then Rv.fresh r else .val r) = x) (q : Q x e') : CallK Q X e ls (.ok r fr outs) := by
  unfold CallK
  simp only [h, hx]
  exact q
theorem ck_x {ls : List Nat} {c : Nat} {fs : List D} (hl : ls = []) (q : X c fs e) : CallK Q X e ls (.ex c fs []) := by subst hl; with_unfolding_all exact q
/-- what a maker's call hands on -/
@[irreducible] def MakK (Q : Rv → Fm → Prop) (X : Xp) (e : Fm) (ls : List Nat) (z : Res) : Prop := match z with
  | .ok .non false (o :: outs) => Q (.fresh o) (putBack e ls outs)
  | .ex c fs (_ :: outs) => X c fs (putBack e ls outs)
  | _ => False
theorem wp_makK {c g : Nat} {rs : List Rv} {pm : List (Option Nat)} {as : List Sl} {ls : List Nat} {dv : List (Option D)} (hd : dfls (W.npar g) (W.dfl g) = dv) (ha : argsOf (.val .non :: rs) e dv pm = some (as, ls)) (hn : ls.Nodup) (hp : pm.head? = some (some 0)) (q : MakK Q X e ls (run g (makA c as))) : Wp (makR W run c g pm rs e) Q X := by
  unfold makR
  rw [hd, ha]
  simp only [if_pos (And.intro hn hp)]
  revert q
  unfold MakK
  split <;> rename_i hz <;> (try simp only [hz]) <;> with_unfolding_all exact fun q => q
theorem mk_v {ls : List Nat} (hl : ls = []) (q : Q (.fresh d) e) : MakK Q X e ls (.ok .non false [d]) := by subst hl; with_unfolding_all exact q
theorem mk_x {ls : List Nat} {c : Nat} {fs : List D} (hl : ls = []) (q : X c fs e) : MakK Q X e ls (.ex c fs [d]) := by subst hl; with_unfolding_all exact q
/-- the end of a def -/
theorem end_ret0 {as : List Sl} {fr : Bool} {P : Res → Prop} {l : List D} (h : outsOf 0 as e = some l) (q : P (.ok d fr l)) : P (endR as (.ok (.ret fr d) e)) := by
  simp only [endR, h]
  exact q
theorem end_next {as : List Sl} {P : Res → Prop} {l : List D} (h : outsOf 0 as e = some l) (q : P (.ok .non false l)) : P (endR as (.ok .next e)) := by
  simp only [endR, h]
  exact q
theorem end_ex {as : List Sl} {c : Nat} {fs : List D} {P : Res → Prop} {l : List D} (h : outsOf 0 as e = some l) (q : P (.ex c fs l)) : P (endR (as) (.ex c fs e : Out Fl)) := by
  simp only [endR, h]
  exact q
end
/-! ### forms of goals -/
section
variable {α β : Type} {W : Wd} {run : Nat → List Sl → Res} {e : Fm} {X : Xp}
/-- a list comprehension without a test -/
theorem wp_lc0 {γ : Type} {tg : Tg} {sk : SrcK} {src : Es} {own : List Nat} {el : E} {f : γ → D} {g : γ → D} {bt : γ → Fm} {ys : List D} {xs : List γ} {run : Nat → List Sl → Res} {Q : Rv → Fm → Prop}
    (hsrc : Wp (evs W run src e) (fun rs e1 => e1 = e ∧ (keep rs).bind (srcD sk) = some ys) noX) (hys : ys = xs.map f) (hno : noOwn e own = true)
    (hb : ∀ x ∈ xs, bindT tg (f x) (wipeE e own) = some (bt x)) (hr : ∀ x ∈ xs, wipeE (bt x) own = wipeE e own) (hq : ∀ x ∈ xs, restore e (bt x) own = e) (hq0 : restore e e own = e)
    (he : ∀ x ∈ xs, Wp (ev W run el (bt x)) (fun r e1 => r.fz = some (g x) ∧ e1 = bt x) noX) (hl : xs.length ≤ 1000000)
    (q : Q (.fresh (.lst (xs.map g))) e) : Wp (ev W run (.lc tg sk src own .nop el) e) Q X := by
  refine wp_lc (p := fun _ => true) (g := g) xs hsrc hys hno hb hr hq hq0 (fun x m => wp_cond0 ⟨rfl, rfl⟩) (fun x m _ => he x m) hl ?_
  rw [List.filter_eq_self.mpr (fun _ _ => rfl)]
  exact q
theorem map1 {γ : Type} (f : γ → D) (x : γ) : [f x] = List.map f [x] := rfl
theorem map2 {γ : Type} (f : γ → D) (x y : γ) : [f x, f y] = List.map f [x, y] := rfl
theorem map3 {γ : Type} (f : γ → D) (x y z : γ) : [f x, f y, f z] = List.map f [x, y, z] := rfl
theorem bools_map {γ : Type} (b : γ → Bool) : ∀ xs : List γ, bools (xs.map fun x => D.bl (b x)) = some (xs.map b)
  | [] => rfl
  | x :: xs => by simp only [List.map_cons, bools, bools_map b xs]
theorem blt_all {γ : Type} (b : γ → Bool) (xs : List γ) : bltD .all [.lst (xs.map fun x => D.bl (b x))] = some (.val (.bl (xs.all b))) := by
  simp only [bltD, bools_map, Option.map_some]
  rw [List.all_map]
  rfl
theorem blt_any {γ : Type} (b : γ → Bool) (xs : List γ) : bltD .any [.lst (xs.map fun x => D.bl (b x))] = some (.val (.bl (xs.any b))) := by
  simp only [bltD, bools_map, Option.map_some]
  rw [List.any_map]
  rfl
theorem src1 {sk : SrcK} {rs : List Rv} {d0 ds : List D} (h : keep rs = some d0) (h2 : srcD sk d0 = some ds) : (keep rs).bind (srcD sk) = some ds := by rw [h]; exact h2
theorem src_pT (xs : List D) : srcD .plain [.tup xs] = some xs := rfl
theorem src_pL (xs : List D) : srcD .plain [.lst xs] = some xs := rfl
theorem src_pF (xs : List D) : srcD .plain [.fro xs] = some xs := rfl
theorem src_pS (z : Str) : srcD .plain [.str z] = some (z.cps.toList.map fun c => .str ⟨#[c]⟩) := rfl
theorem src_eT (xs : List D) : srcD .enum [.tup xs] = some (xs.mapIdx fun i x => .tup [.int i, x]) := rfl
theorem src_eL (xs : List D) : srcD .enum [.lst xs] = some (xs.mapIdx fun i x => .tup [.int i, x]) := rfl
theorem tgSr {sk : SrcK} {rs : List Rv} {p : List D → Prop} (h : ∃ ds, (keep rs).bind (srcD sk) = some ds ∧ p ds) : ∃ ds, (keep rs).bind (srcD sk) = some ds ∧ p ds := h
theorem src_range {i : Int} (h : -(2 ^ 62) ≤ i) (h2 : i < 2 ^ 62) : srcD .range1 [.int i] = some ((List.range i.toNat).map fun i => D.int (i : Nat)) := by
  simp only [srcD]
  rw [if_pos ⟨h, h2⟩]
theorem tgFl {f : Str} {x : Rv} {Q : Rv → Fm → Prop} (h : Wp (fldR W f x e) Q X) : Wp (fldR W f x e) Q X := h
theorem ne_sk : ("spots" : Str) ≠ "knots" := by decide +kernel
theorem ne_ss : ("spots" : Str) ≠ "sides" := by decide +kernel
theorem ne_ks : ("knots" : Str) ≠ "sides" := by decide +kernel
theorem lk_spots (a b c : D) : List.lookup ("spots" : Str) [(("spots" : Str), a), (("knots" : Str), b), (("sides" : Str), c)] = some a := by simp [List.lookup]
theorem lk_knots (a b c : D) : List.lookup ("knots" : Str) [("spots", a), ("knots", b), ("sides", c)] = some b := by simp [List.lookup, beq_false_of_ne ne_sk.symm]
theorem lk_sides (a b c : D) : List.lookup ("sides" : Str) [("spots", a), ("knots", b), ("sides", c)] = some c := by simp [List.lookup, beq_false_of_ne ne_ss.symm, beq_false_of_ne ne_ks.symm]
theorem put_web (a b c : D) : putF "sides" c (putF "knots" b (putF "spots" a [])) = [(("spots" : Str), a), (("knots" : Str), b), (("sides" : Str), c)] := by simp [putF, ne_sk, ne_ss, ne_ks]
theorem tgXb {x : Rv} {p : Bool → Prop} (h : ∃ b, x = .val (.bl b) ∧ p b) : ∃ b, x = .val (.bl b) ∧ p b := h
theorem tgXi {x : Rv} {p : Int → Prop} (h : ∃ b, x = .val (.int b) ∧ p b) : ∃ b, x = .val (.int b) ∧ p b := h
theorem tgXt {x : Rv} {p : List D → Prop} (h : ∃ b, x = .val (.tup b) ∧ p b) : ∃ b, x = .val (.tup b) ∧ p b := h
theorem tgXr {x : Rv} {p : D → Prop} (h : ∃ b, x = .fresh b ∧ p b) : ∃ b, x = .fresh b ∧ p b := h
theorem tgXf {x : Rv} {p : D → Prop} (h : ∃ b, x.fz = some b ∧ p b) : ∃ b, x.fz = some b ∧ p b := h
theorem tgXs {x : Rv} {p : List D → Prop} (h : ∃ b, (x.rd e).bind starD = some b ∧ p b) : ∃ b, (x.rd e).bind starD = some b ∧ p b := h
theorem tgXm {m : Str} {x : Rv} {p : Nat → Prop} (h : ∃ b, mthG W m x e = some b ∧ p b) : ∃ b, mthG W m x e = some b ∧ p b := h
theorem tgSp {rs : List Rv} {p : List D → Prop} (h : ∃ ds, (keep rs).bind (srcD .plain) = some ds ∧ p ds) : ∃ ds, (keep rs).bind (srcD .plain) = some ds ∧ p ds := h
theorem tgSe {rs : List Rv} {p : List D → Prop} (h : ∃ ds, (keep rs).bind (srcD .enum) = some ds ∧ p ds) : ∃ ds, (keep rs).bind (srcD .enum) = some ds ∧ p ds := h
theorem tgS1 {rs : List Rv} {p : List D → Prop} (h : ∃ ds, (keep rs).bind (srcD .range1) = some ds ∧ p ds) : ∃ ds, (keep rs).bind (srcD .range1) = some ds ∧ p ds := h
theorem tgTp {xs : List D} {o : Option (List D)} (h : srcD .plain xs = o) : srcD .plain xs = o := h
theorem tgTe {xs : List D} {o : Option (List D)} (h : srcD .enum xs = o) : srcD .enum xs = o := h
theorem tgT1 {xs : List D} {o : Option (List D)} (h : srcD .range1 xs = o) : srcD .range1 xs = o := h
theorem tgBm {m : Bmt} {o : Option D} {p : Prop} (h : bmtOk m o = true ∧ p) : bmtOk m o = true ∧ p := h
theorem tgRs {rs : List Rv} {q : Rv → Bool} {p : Prop} (h : rs.all q = true ∧ p) : rs.all q = true ∧ p := h
theorem tgLn {ds : List D} {ts : List Tu} {p : Prop} (h : ds.length = ts.length ∧ p) : ds.length = ts.length ∧ p := h
theorem tgK {f : Nat} {rs : List Rv} {pm : List (Option Nat)} {Q : Rv → Fm → Prop} {run : Nat → List Sl → Res} (h : Wp (callR run W f rs pm e) Q X) : Wp (callR run W f rs pm e) Q X := h
theorem tgM {c g : Nat} {rs : List Rv} {pm : List (Option Nat)} {Q : Rv → Fm → Prop} (h : Wp (makR W run c g pm rs e) Q X) : Wp (makR W run c g pm rs e) Q X := h
theorem tgP {f : Str} {x : Rv} {Q : Rv → Fm → Prop} (h : Wp (prpR W run f x e) Q X) : Wp (prpR W run f x e) Q X := h
theorem mthG_ok {m : Str} {x : Rv} {c g : Nat} {fs : List (Str × D)} (h : x.rd e = some (.obj c fs)) (h2 : fs.lookup m = none) (h3 : W.mth c m = some g) : mthG W m x e = some g := by
  unfold mthG
  rw [h]
  simp only [h2, Option.isSome_none, h3]
  rfl
theorem isi_own {c : Nat} {fs : List (Str × D)} (h : c < W.nc) : isi1 W (.obj c fs) (.own c) = some true := by
  simp only [isi1, h, and_self, if_true, decide_true]
theorem tgPb {a : E} {t : Bool} (h : Pb W run a e t) : Pb W run a e t := h
theorem tgPq {x y : Rv} {e1 e2 : Fm} (h : x = y ∧ e1 = e2) : x = y ∧ e1 = e2 := h
theorem tgE {a : E} {Q : Rv → Fm → Prop} (h : Wp (ev W run a e) Q X) : Wp (ev W run a e) Q X := h
theorem tgEs {a : Es} {Q : List Rv → Fm → Prop} (h : Wp (evs W run a e) Q X) : Wp (evs W run a e) Q X := h
theorem tgS {s : S} {Q : Fl → Fm → Prop} (h : Wp (ex W run s e) Q X) : Wp (ex W run s e) Q X := h
theorem tgR {f : D → D → Option Rv} {x y : Rv} {Q : Rv → Fm → Prop} (h : Wp (rd2 f x y e) Q X) : Wp (rd2 f x y e) Q X := h
theorem tgI {x y : Rv} {Q : Rv → Fm → Prop} (h : Wp (idxR x y e) Q X) : Wp (idxR x y e) Q X := h
theorem tgBl {b : Blt} {rs : List Rv} {Q : Rv → Fm → Prop} (h : Wp (bltR b rs e) Q X) : Wp (bltR b rs e) Q X := h
theorem tgD {rs : List Rv} {Q : Rv → Fm → Prop} (h : Wp (bltR .divmod rs e) Q X) : Wp (bltR .divmod rs e) Q X := h
theorem tgAll {rs : List Rv} {Q : Rv → Fm → Prop} (h : Wp (bltR .all rs e) Q X) : Wp (bltR .all rs e) Q X := h
theorem tgAny {rs : List Rv} {Q : Rv → Fm → Prop} (h : Wp (bltR .any rs e) Q X) : Wp (bltR .any rs e) Q X := h
theorem tgC {cs : List Cl} {x : Rv} {Q : Rv → Fm → Prop} (h : Wp (isiR W cs x e) Q X) : Wp (isiR W cs x e) Q X := h
theorem tgL {l r : Option Int} {x : Rv} {Q : Rv → Fm → Prop} (h : Wp (slcR l r x e) Q X) : Wp (slcR l r x e) Q X := h
theorem tg1 {f : D → Option Rv} {x : Rv} {Q : Rv → Fm → Prop} (h : Wp (rd1 f x e) Q X) : Wp (rd1 f x e) Q X := h
theorem tgO {j : Nat} {k v : D} {Q : Fl → Fm → Prop} (h : Wp (stoR j k v e) Q X) : Wp (stoR j k v e) Q X := h
theorem tgA {i : Nat} {r : Rv} {Q : Rv → Fm → Prop} (h : Wp (bmtR .append (.bor i) [r] e) Q X) : Wp (bmtR .append (.bor i) [r] e) Q X := h
theorem tgX {p : α → Prop} {x : α} {q : α → β} {y : β} (h : ∃ x, y = q x ∧ p x) : ∃ x, y = q x ∧ p x := h
theorem tgN {x y : β} {p : Prop} (h : x = y ∧ p) : x = y ∧ p := h
end
end PV
/-! ## plain laws: loops, slices -/
namespace PV
open PySem
section
variable {α : Type} {W : Wd} {run : Nat → List Sl → Res} {e : Fm} {Q : Fl → Fm → Prop} {X : Xp}
theorem cut_pre {β : Type} (xs ys : List β) : cut (xs ++ ys) none (some (xs.length : Nat)) = xs := by
  unfold cut
  rw [HT.sIx_nat, HT.sIx_none]
  simp
theorem cut_preM {β : Type} (f : α → β) (xs ys : List α) : cut ((xs ++ ys).map f) none (some (xs.length : Nat)) = xs.map f := by
  rw [List.map_append]
  have := cut_pre (xs.map f) (ys.map f)
  rwa [List.length_map] at this
theorem cut_take {β : Type} (xs : List β) (i : Nat) : cut xs none (some (i : Nat)) = xs.take i := by
  unfold cut
  rw [HT.sIx_nat, HT.sIx_none]
  simp [List.take_eq_take_iff]
theorem cut_drop {β : Type} (xs : List β) (i : Nat) : cut xs (some (i : Nat)) none = xs.drop i := by
  unfold cut
  rw [HT.sIx_nat, HT.sIx_none, List.take_of_length_le (by simp)]
  rcases Nat.le_total i xs.length with h | h
  · rw [Nat.min_eq_left h]
  · rw [Nat.min_eq_right h]; simp [List.drop_eq_nil_of_le h]
end
section
variable {W : Wd} {run : Nat → List Sl → Res} {e : Fm} {Q : Rv → Fm → Prop} {X : Xp}
theorem tgCh {o1 o2 : CmpOp} {third : Fm → Out Rv} {x y : Rv} (h : Wp (chnR o1 o2 third x y e) Q X) : Wp (chnR o1 o2 third x y e) Q X := h
theorem blt_lenN (x : Nm) : bltD .len [nm x] = some (.val (.int x.s.length)) := by
  have h : x.s.length ≤ sizeLine := by
    have := x.nb
    simp only [nameB, Bool.and_eq_true, decide_eq_true_eq] at this
    exact len_ok (by omega)
  simp only [bltD, nm, okLen, h, decide_true, if_true]
end
/-! ### slices, places -/
section
variable {α : Type}
theorem slc_pre (f : α → D) (xs ys : List α) : slcD (.tup ((xs ++ ys).map f)) none (some (xs.length : Nat)) = some (.val (.tup (xs.map f))) := by simp only [slcD, cut_preM]
theorem slc_take (f : α → D) (xs : List α) (i : Nat) : slcD (.tup (xs.map f)) none (some (i : Nat)) = some (.val (.tup ((xs.take i).map f))) := by simp only [slcD, cut_take, List.map_take]
theorem slc_drop (f : α → D) (xs : List α) (i : Nat) : slcD (.tup (xs.map f)) (some (i : Nat)) none = some (.val (.tup ((xs.drop i).map f))) := by simp only [slcD, cut_drop, List.map_drop]
theorem slc_drop1 (f : α → D) (xs : List α) (i : Nat) : slcD (.tup (xs.map f)) (some ((i : Nat) + 1 : Int)) none = some (.val (.tup ((xs.drop (i + 1)).map f))) := slc_drop f xs (i + 1)
theorem slc_drop2 (f : α → D) (xs : List α) (i : Nat) : slcD (.tup (xs.map f)) (some ((i : Nat) + 2 : Int)) none = some (.val (.tup ((xs.drop (i + 2)).map f))) := slc_drop f xs (i + 2)
theorem slc_init (f : α → D) (xs : List α) : slcD (.tup (xs.map f)) none (some (-1)) = some (.val (.tup (xs.dropLast.map f))) := by
  simp only [slcD]
  congr 3
  unfold cut
  rw [HT.sIx_none]
  show List.take (((-1 : Int) + ((xs.map f).length : Nat)).toNat - 0) (List.drop 0 (xs.map f)) = _
  rw [List.drop_zero, List.map_dropLast, List.dropLast_eq_take]
  congr 1
  omega
theorem idx_atM {f : α → D} {xs : List α} {i : Nat} {x : α} (h : xs[i]? = some x) : idxD (.tup (xs.map f)) (.int (i : Nat)) = some (f x) := idx_at (by rw [List.getElem?_map, h]; rfl)
theorem idx_atL {f : α → D} {xs : List α} {i : Nat} {x : α} (h : xs[i]? = some x) : idxD (.lst (xs.map f)) (.int (i : Nat)) = some (f x) := idx_at (by rw [List.getElem?_map, h]; rfl)
theorem idx_lastM {f : α → D} {xs : List α} {x : α} (h : xs.getLast? = some x) : idxD (.tup (xs.map f)) (.int (-1)) = some (f x) := by
  obtain ⟨ys, rfl⟩ := List.getLast?_eq_some_iff.mp h
  simp only [idxD, List.map_append, List.map_cons, List.map_nil]
  exact idx_last
theorem erase_map {β : Type} (f : α → β) : ∀ (xs : List α) (i : Nat), (xs.map f).eraseIdx i = (xs.eraseIdx i).map f
  | [], _ => by simp
  | _ :: _, 0 => by simp
  | x :: xs, i + 1 => by simp [erase_map f xs i]
/-! ### dicts -/
def aput {β : Type} [DecidableEq α] (l : List (α × β)) (a : α) (b : β) : List (α × β) := if a ∈ l.map (·.1) then l.map (fun q => if q.1 = a then (q.1, b) else q) else l ++ [(a, b)]
def kvD {β : Type} (f : α → D) (g : β → D) (q : α × β) : D × D := (f q.1, g q.2)
theorem dget_map {β : Type} {f : α → D} [Ec f] [DecidableEq α] {g : β → D} (a : α) : ∀ l : List (α × β), dget (l.map (kvD f g)) (f a) = (l.find? fun q => decide (q.1 = a)).map fun q => g q.2
  | [] => rfl
  | q :: l => by
    have ih := dget_map (f := f) (g := g) a l
    unfold dget at ih ⊢
    rw [List.map_cons, List.find?_cons, List.find?_cons]
    simp only [kvD, Ec.eqv] at ih ⊢
    cases decide (q.1 = a) with
    | true => rfl
    | false => exact ih
theorem any_map {β : Type} {f : α → D} [Ec f] [DecidableEq α] {g : β → D} (a : α) (l : List (α × β)) : ((l.map (kvD f g)).any fun p => eqv p.1 (f a)) = decide (a ∈ l.map (·.1)) := by
  rw [List.any_map, Bool.eq_iff_iff, List.any_eq_true, decide_eq_true_iff, List.mem_map]
  simp only [Function.comp, kvD, Ec.inj]
theorem dput_map {β : Type} {f : α → D} [Ec f] [DecidableEq α] {g : β → D} (a : α) (b : β) (l : List (α × β)) : dput (l.map (kvD f g)) (f a) (g b) = (aput l a b).map (kvD f g) := by
  unfold dput aput
  rw [any_map]
  by_cases h : a ∈ l.map (·.1)
  · rw [if_pos (by simpa using h), if_pos h, List.map_map, List.map_map]
    refine List.map_congr_left fun q _ => ?_
    simp only [Function.comp, kvD, Ec.inj]
    by_cases e : q.1 = a
    · simp [e]
    · simp [e]
  · rw [if_neg (by simpa using h), if_neg h, List.map_append]
    rfl
theorem in_dct {β : Type} {f : α → D} [Ec f] [DecidableEq α] {g : β → D} {t : Bool} (a : α) (l : List (α × β)) (h : keyOk t (f a) = true) : inD (f a) (.dct t (l.map (kvD f g))) = some (decide (a ∈ l.map (·.1))) := by
  have e : inD (f a) (.dct t (l.map (kvD f g))) = if keyOk t (f a) = true then some ((l.map (kvD f g)).any fun p => eqv p.1 (f a)) else none := by cases f a <;> rfl
  rw [e, if_pos h, any_map]
theorem mem_aput {β : Type} [DecidableEq α] {l : List (α × β)} {a : α} {b : β} {x : α} : x ∈ (aput l a b).map (·.1) ↔ x ∈ l.map (·.1) ∨ x = a := by
  unfold aput
  by_cases h : a ∈ l.map (·.1)
  · rw [if_pos h, List.map_map]
    have : l.map ((fun q : α × β => q.1) ∘ fun q => if q.1 = a then (q.1, b) else q) = l.map (·.1) := List.map_congr_left fun q _ => by
      simp only [Function.comp]
      split <;> rfl
    rw [this]
    exact ⟨.inl, fun z => z.elim id fun e => e ▸ h⟩
  · rw [if_neg h]
    simp
theorem length_aput {β : Type} [DecidableEq α] (l : List (α × β)) (a : α) (b : β) : (aput l a b).length ≤ l.length + 1 := by
  unfold aput
  split <;> simp
/-- what is under a key behind a store -/
theorem find_aput {β : Type} [DecidableEq α] (a x : α) (b : β) : ∀ l : List (α × β), ((aput l a b).find? fun q => decide (q.1 = x)) = if x = a then some (a, b) else l.find? fun q => decide (q.1 = x) := by
  intro l
  unfold aput
  by_cases h : a ∈ l.map (·.1)
  · rw [if_pos h]
    induction l with
    | nil => simp at h
    | cons q l ih =>
      rw [List.map_cons, List.find?_cons, List.find?_cons]
      by_cases e : q.1 = a
      · by_cases ex : x = a
        · simp [e, ex]
        · have : ¬ a = x := fun z => ex z.symm
          simp only [e, if_true, this, decide_false, if_neg ex]
          rw [List.find?_map]
          by_cases h' : a ∈ l.map (·.1)
          · have := ih h'
            rw [if_neg ex, List.find?_map] at this
            exact this
          · have hm : ∀ q ∈ l, (if q.1 = a then (q.1, b) else q) = q := fun q m => by
              rw [if_neg]
              exact fun z => h' (List.mem_map.mpr ⟨q, m, z⟩)
            rw [← List.find?_map]
            rw [List.map_congr_left (g := id) (fun q m => hm q m), List.map_id]
      · have h' : a ∈ l.map (·.1) := by
          rcases List.mem_map.mp h with ⟨z, hz, hz2⟩
          rcases List.mem_cons.mp hz with rfl | hz
          · exact absurd hz2 e
          · exact List.mem_map.mpr ⟨z, hz, hz2⟩
        simp only [if_neg e]
        by_cases e2 : q.1 = x
        · have : ¬ x = a := fun z => e (e2.trans z)
          simp only [e2, decide_true, if_neg this]
        · simp only [e2, decide_false]
          exact ih h'
  · rw [if_neg h, List.find?_append]
    by_cases ex : x = a
    · subst ex
      have : (l.find? fun q => decide (q.1 = x)) = none := by
        rw [List.find?_eq_none]
        intro q m z
        exact h (List.mem_map.mpr ⟨q, m, of_decide_eq_true z⟩)
      rw [this, if_pos rfl]
      simp
    · rw [if_neg ex]
      have : ¬ a = x := fun z => ex z.symm
      simp [this]
end
section
variable {W : Wd} {run : Nat → List Sl → Res} {e : Fm} {Q : Rv → Fm → Prop} {X : Xp}
theorem wp_stoD {α β : Type} {f : α → D} [Ec f] [DecidableEq α] {g : β → D} {e : Fm} {j : Nat} {o : Option Nat} {t : Bool} {l : List (α × β)} {a : α} {b : β} {Q : Fl → Fm → Prop} (h : e[j]? = some (.own o (.dct t (l.map (kvD f g))))) (hk : keyOk t (f a) = true) (hl : l.length < 1000000) (q : Q .next (e.set j (.own o (.dct t ((aput l a b).map (kvD f g)))))) : Wp (stoR j (f a) (g b) e) Q X := by
  refine ws_stoR h ?_ q
  have : (l.map (kvD f g)).length < sizeLine := Nat.lt_of_lt_of_le (by simpa using hl) (by unfold sizeLine; decide)
  simp only [stoD]
  rw [if_pos ⟨this, hk⟩, dput_map]
theorem c_inD {α β : Type} {f : α → D} [Ec f] [DecidableEq α] {g : β → D} {t : Bool} (a : α) (l : List (α × β)) (h : keyOk t (f a) = true) [dd : Decidable (a ∈ l.map (·.1))] : cmpF .In (f a) (.dct t (l.map (kvD f g))) = some (.val (.bl (decide (a ∈ l.map (·.1))))) := by
  simp only [cmpF, cmpD, in_dct a l h, Option.map_some]; congr
theorem c_ninD {α β : Type} {f : α → D} [Ec f] [DecidableEq α] {g : β → D} {t : Bool} (a : α) (l : List (α × β)) (h : keyOk t (f a) = true) [dd : Decidable (a ∈ l.map (·.1))] : cmpF .NotIn (f a) (.dct t (l.map (kvD f g))) = some (.val (.bl (!decide (a ∈ l.map (·.1))))) := by
  simp only [cmpF, cmpD, in_dct a l h, Option.map_some]; congr
theorem dcL_pure {α : Type} {own : List Nat} {tg : Tg} {cond : Fm → Out Bool} {kx vx : Fm → Out D} {f : α → D} {ff : α → D} [Ec f] {g : α → D} {w : Fm} {bt : α → Fm} :
    ∀ (xs done : List α) (e : Fm), wipeE e own = w → (done ++ xs).Nodup → (∀ x ∈ xs, bindT tg (ff x) w = some (bt x)) → (∀ x ∈ xs, wipeE (bt x) own = w) → (∀ x ∈ xs, cond (bt x) = .ok true (bt x)) → (∀ x ∈ xs, kx (bt x) = .ok (f x) (bt x)) → (∀ x ∈ xs, vx (bt x) = .ok (g x) (bt x)) → (∀ x ∈ xs, keyOk false (f x) = true) → done.length + xs.length ≤ 1000000 →
      ∃ e', dcL own tg cond kx vx (xs.map ff) (done.map fun x => (f x, g x)) e = .ok ((done ++ xs).map fun x => (f x, g x)) e' ∧ (e' = e ∨ ∃ x ∈ xs, e' = bt x)
  | [], done, e, _, _, _, _, _, _, _, _, _ => ⟨e, by simp [dcL], .inl rfl⟩
  | x :: xs, done, e, hw, hn, hb, hr, hc, hk, hv, ho, hl => by
    simp only [List.length_cons] at hl
    have : (done.map fun x => (f x, g x)).length < sizeLine := Nat.lt_of_lt_of_le (by simp; omega : _ < 1000000) (by unfold sizeLine; decide)
    simp only [List.map_cons, dcL, hw, hb x List.mem_cons_self, hc x List.mem_cons_self, hk x List.mem_cons_self, hv x List.mem_cons_self, this, ho x List.mem_cons_self, true_and, if_true]
    have hx : x ∉ done := by
      intro m
      rw [List.nodup_append] at hn
      exact hn.2.2 x m x List.mem_cons_self rfl
    have ed : dput (done.map fun x => (f x, g x)) (f x) (g x) = (done ++ [x]).map fun x => (f x, g x) := by
      unfold dput
      rw [if_neg]
      · simp
      · intro z
        rw [List.any_map, List.any_eq_true] at z
        obtain ⟨y, hy, h⟩ := z
        simp only [Function.comp, Ec.inj] at h
        exact hx (h ▸ hy)
    rw [ed]
    obtain ⟨e', h1, h2⟩ := dcL_pure (cond := cond) (kx := kx) (vx := vx) (f := f) (g := g) xs (done ++ [x]) (bt x) (hr x List.mem_cons_self) (by simpa using hn) (fun y m => hb y (List.mem_cons_of_mem _ m)) (fun y m => hr y (List.mem_cons_of_mem _ m)) (fun y m => hc y (List.mem_cons_of_mem _ m)) (fun y m => hk y (List.mem_cons_of_mem _ m)) (fun y m => hv y (List.mem_cons_of_mem _ m)) (fun y m => ho y (List.mem_cons_of_mem _ m)) (by simp; omega)
    refine ⟨e', by rw [h1]; simp, ?_⟩
    rcases h2 with h2 | ⟨y, m, h2⟩
    · exact .inr ⟨x, List.mem_cons_self, h2⟩
    · exact .inr ⟨y, List.mem_cons_of_mem _ m, h2⟩
/-- a dict comprehension without a test, its keys all different -/
theorem wp_dc0 {α : Type} {tg : Tg} {sk : SrcK} {src : Es} {own : List Nat} {k v : E} {ff f : α → D} {g : α → D} {bt : α → Fm} {ys : List D} {xs : List α}
    (hsrc : Wp (evs W run src e) (fun rs e1 => e1 = e ∧ (keep rs).bind (srcD sk) = some ys) noX) (hys : ys = xs.map ff) (hno : noOwn e own = true) (hnd : xs.Nodup)
    (hb : ∀ x ∈ xs, bindT tg (ff x) (wipeE e own) = some (bt x)) (hr : ∀ x ∈ xs, wipeE (bt x) own = wipeE e own) (hq : ∀ x ∈ xs, restore e (bt x) own = e) (hq0 : restore e e own = e)
    (hk : ∀ x ∈ xs, Wp (ev W run k (bt x)) (fun r e1 => r.fz = some (f x) ∧ e1 = bt x) noX)
    (hv : ∀ x ∈ xs, Wp (ev W run v (bt x)) (fun r e1 => r.fz = some (g x) ∧ e1 = bt x) noX) (hec : Ec f) (ho : ∀ x ∈ xs, keyOk false (f x) = true) (hl : xs.length ≤ 1000000)
    (q : Q (.fresh (.dct false (xs.map fun x => (f x, g x)))) e) : Wp (ev W run (.dc tg sk src own .nop k v) e) Q X := by
  simp only [ev]
  refine wp_bind (wp_x (wp_imp hsrc fun rs e1 ⟨h1, h2⟩ => ?_))
  subst h1
  rw [h2, hys]
  dsimp only
  rw [if_pos hno]
  have hk' : ∀ x ∈ xs, (fun e => (ev W run k e).kept) (bt x) = .ok (f x) (bt x) := fun x m => by
    obtain ⟨t, e2, h, h3, h4⟩ := wp_eq (hk x m)
    dsimp only
    rw [h, h4]
    show Out.of t.fz _ = _
    rw [h3]
    rfl
  have hv' : ∀ x ∈ xs, (fun e => (ev W run v e).kept) (bt x) = .ok (g x) (bt x) := fun x m => by
    obtain ⟨t, e2, h, h3, h4⟩ := wp_eq (hv x m)
    dsimp only
    rw [h, h4]
    show Out.of t.fz _ = _
    rw [h3]
    rfl
  haveI := hec
  obtain ⟨e', h3, h4⟩ := dcL_pure (own := own) (tg := tg) (cond := condF (E.isNop .nop) fun e => ev W run .nop e) (kx := fun e => (ev W run k e).kept) (vx := fun e => (ev W run v e).kept) (f := f) (g := g) (w := wipeE e1 own) xs [] e1 rfl (by simpa using hnd) hb hr (fun x m => rfl) hk' hv' ho (by simpa using hl)
  rw [List.map_nil] at h3
  simp only [ev] at h3
  rw [h3]
  simp only [Out.bind_ok, dcR, List.nil_append]
  rcases h4 with rfl | ⟨x, m, rfl⟩
  · refine wp_ok ?_
    show Q _ (restore e' e' own)
    rw [hq0]; exact q
  · refine wp_ok ?_
    show Q _ (restore _ (bt x) own)
    rw [hq x m]; exact q
end
end PV
/-! ## plain laws: more of dicts -/
namespace PV
open PySem
section
variable {W : Wd} {run : Nat → List Sl → Res} {e : Fm} {Q : Rv → Fm → Prop} {X : Xp}
theorem tgDi {t : Bool} {rs : List Rv} (h : Wp (dicR t rs e) Q X) : Wp (dicR t rs e) Q X := h
theorem ifP {t : Bool} {p q : Prop} (h1 : t = true → p) (h2 : t = false → q) : if t = true then p else q := by
  cases t with
  | true => exact h1 rfl
  | false => exact h2 rfl
theorem aput_new {α β : Type} [DecidableEq α] {l : List (α × β)} {a : α} {b : β} (h : a ∉ l.map (·.1)) : aput l a b = l ++ [(a, b)] := if_neg h
theorem idx_dct {α β : Type} {f : α → D} [Ec f] [DecidableEq α] {g : β → D} {t : Bool} {a : α} {b : β} {l : List (α × β)} (hn : (l.map (·.1)).Nodup) (h : (a, b) ∈ l) (hk : keyOk t (f a) = true) : idxD (.dct t (l.map (kvD f g))) (f a) = some (g b) := by
  have e : idxD (.dct t (l.map (kvD f g))) (f a) = if keyOk t (f a) = true then dget (l.map (kvD f g)) (f a) else none := by cases f a <;> rfl
  rw [e, if_pos hk, dget_map]
  have : (l.find? fun q => decide (q.1 = a)) = some (a, b) := by
    clear e hk
    induction l with
    | nil => simp at h
    | cons q l ih =>
      rw [List.map_cons, List.nodup_cons] at hn
      rw [List.find?_cons]
      rcases List.mem_cons.mp h with h | h
      · subst h; simp
      · have : q.1 ≠ a := fun z => hn.1 (z ▸ List.mem_map.mpr ⟨(a, b), h, rfl⟩)
        simp only [this, decide_false]
        exact ih hn.2 h
  rw [this]
  rfl
theorem find_none {α β : Type} [DecidableEq α] {a : α} {l : List (α × β)} (h : a ∉ l.map (·.1)) : (l.find? fun q => decide (q.1 = a)) = none := by
  rw [List.find?_eq_none]
  intro q m z
  exact h (List.mem_map.mpr ⟨q, m, of_decide_eq_true z⟩)
theorem find_some {α β : Type} [DecidableEq α] {a : α} {b : β} {l : List (α × β)} (hn : (l.map (·.1)).Nodup) (h : (a, b) ∈ l) : (l.find? fun q => decide (q.1 = a)) = some (a, b) := by
  induction l with
  | nil => simp at h
  | cons q l ih =>
    rw [List.map_cons, List.nodup_cons] at hn
    rw [List.find?_cons]
    rcases List.mem_cons.mp h with h | h
    · subst h; simp
    · have : q.1 ≠ a := fun z => hn.1 (z ▸ List.mem_map.mpr ⟨(a, b), h, rfl⟩)
      simp only [this, decide_false]
      exact ih hn.2 h
end
end PV
/-! ## plain laws: places told by figures; texts -/
namespace PV
open PySem
theorem idx_0M {α : Type} {f : α → D} {xs : List α} {x : α} (h : xs[0]? = some x) : idxD (.tup (xs.map f)) (.int 0) = some (f x) := idx_atM (i := 0) h
theorem idx_1M {α : Type} {f : α → D} {xs : List α} {x : α} (h : xs[1]? = some x) : idxD (.tup (xs.map f)) (.int 1) = some (f x) := idx_atM (i := 1) h
theorem idx_2M {α : Type} {f : α → D} {xs : List α} {x : α} (h : xs[2]? = some x) : idxD (.tup (xs.map f)) (.int 2) = some (f x) := idx_atM (i := 2) h
theorem idx_3M {α : Type} {f : α → D} {xs : List α} {x : α} (h : xs[3]? = some x) : idxD (.tup (xs.map f)) (.int 3) = some (f x) := idx_atM (i := 3) h
/-- two texts told of the same thing -/
theorem repr_same {d : D} (h : (match shownD d with
    | some s => PyData.strOk s
    | none => false) = true) : ∃ s : Str, bltD .repr [d] = some (.val (.str s)) ∧ cmpF .NotEq (.str s) (.str s) = some (.val (.bl false)) ∧ cmpF .Eq (.str s) (.str s) = some (.val (.bl true)) := by
  cases hs : shownD d with
  | none => rw [hs] at h; cases h
  | some s =>
    rw [hs] at h
    have e : pyEq (.str s) (.str s) = some true := by
      unfold pyEq
      rw [(Sh.str (n := 0) h).shp (by omega)]
      simp [eqv]
    refine ⟨s, by simp only [bltD, hs, Option.map_some], ?_, ?_⟩
    · simp only [cmpF, cmpD, e, Option.map_some]; rfl
    · simp only [cmpF, cmpD, e, Option.map_some]
/-- two Bools -/
theorem c_neB (a b : Bool) : cmpF .NotEq (.bl a) (.bl b) = some (.val (.bl (a != b))) := by
  cases a <;> cases b <;> rfl
theorem c_eqB (a b : Bool) : cmpF .Eq (.bl a) (.bl b) = some (.val (.bl (a == b))) := by
  cases a <;> cases b <;> rfl
end PV
/-! ## plain laws: comprehensions whose tests draw; slices of lists -/
namespace PV
open PySem
theorem slcL_take {α : Type} (f : α → D) (xs : List α) (i : Nat) : slcD (.lst (xs.map f)) none (some (i : Nat)) = some (.fresh (.lst ((xs.take i).map f))) := by simp only [slcD, cut_take, List.map_take]
theorem slcL_drop {α : Type} (f : α → D) (xs : List α) (i : Nat) : slcD (.lst (xs.map f)) (some (i : Nat)) none = some (.fresh (.lst ((xs.drop i).map f))) := by simp only [slcD, cut_drop, List.map_drop]
theorem slcL_drop1 {α : Type} (f : α → D) (xs : List α) (i : Nat) : slcD (.lst (xs.map f)) (some ((i : Nat) + 1 : Int)) none = some (.fresh (.lst ((xs.drop (i + 1)).map f))) := slcL_drop f xs (i + 1)
theorem idx_0L {α : Type} {f : α → D} {xs : List α} {x : α} (h : xs[0]? = some x) : idxD (.lst (xs.map f)) (.int 0) = some (f x) := idx_atL (i := 0) h
theorem c_inKL (x y : Nm) (xs : List (Nm × Nm)) : cmpF .In (.tup [nm x, nm y]) (.lst (xs.map tie)) = some (.val (.bl (decide ((x, y) ∈ xs)))) := c_inL (f := tie) (x, y) xs
theorem src_range2 {i j : Nat} (h : i ≤ j) (h2 : j < 2 ^ 62) : srcD .range2 [.int i, .int j] = some ((List.range (j - i)).map fun k => D.int ((k + i : Nat) : Int)) := by
  simp only [srcD]
  rw [if_pos ⟨by omega, by omega, by omega, by omega⟩]
  have e : ((j : Int) - (i : Int)).toNat = j - i := by omega
  rw [e]
  congr 1
  refine List.map_congr_left fun k _ => ?_
  congr 1
  omega
theorem range_split {m x : Nat} {done rest : List Nat} (h : List.range m = done ++ x :: rest) : x = done.length ∧ x < m := by
  have h1 : (List.range m)[done.length]? = some x := by rw [h]; simp
  rw [List.getElem?_range] at h1
  · simp only [Option.some.injEq] at h1
    have h2 := congrArg List.length h
    simp at h2
    exact ⟨h1.symm, by omega⟩
  · have h2 := congrArg List.length h
    simp at h2
    omega
theorem len_okN {n : Nat} (h : n < 10000000) : n < sizeLine := Nat.lt_of_lt_of_le h (by unfold sizeLine; decide)
/-- the turns of a comprehension, by an invariant -/
theorem lcL_inv {α : Type} {own : List Nat} {tg : Tg} {cond : Fm → Out Bool} {el : Fm → Out D} {f : α → D} (all : List α) (I : List α → List D → Fm → Prop)
    (step : ∀ done x rest acc e, all = done ++ x :: rest → I done acc e → ∃ e1, bindT tg (f x) (wipeE e own) = some e1 ∧ ∃ t e2, cond e1 = .ok t e2 ∧ (if t = true then ∃ d e3, el e2 = .ok d e3 ∧ acc.length < 10000000 ∧ I (done ++ [x]) (acc ++ [d]) e3 else I (done ++ [x]) acc e2)) :
    ∀ (rest done : List α) (acc : List D) (e : Fm), all = done ++ rest → I done acc e → ∃ acc' e', lcL own tg cond el (rest.map f) acc e = .ok acc' e' ∧ I all acc' e'
  | [], done, acc, e, h, hi => ⟨acc, e, rfl, by rw [h, List.append_nil]; exact hi⟩
  | x :: rest, done, acc, e, h, hi => by
    obtain ⟨e1, h1, t, e2, h2, h3⟩ := step done x rest acc e h hi
    rw [List.map_cons]
    unfold lcL
    simp only [h1, h2]
    cases t with
    | true =>
      simp only [if_true] at h3
      obtain ⟨d, e3, h4, h5, h6⟩ := h3
      simp only [h4, len_okN h5, if_true]
      exact lcL_inv all I step rest (done ++ [x]) (acc ++ [d]) e3 (by rw [h]; simp) h6
    | false =>
      simp only [Bool.false_eq_true, if_false] at h3
      exact lcL_inv all I step rest (done ++ [x]) acc e2 (by rw [h]; simp) h3
section
variable {W : Wd} {run : Nat → List Sl → Res} {e : Fm} {Q : Rv → Fm → Prop} {X : Xp}
/-- a comprehension, by an invariant -/
theorem wp_lcI {α : Type} {tg : Tg} {sk : SrcK} {src : Es} {own : List Nat} {cond el : E} {f : α → D} {ys : List D} {e0 : Fm} (xs : List α) (I : List α → List D → Fm → Prop)
    (hsrc : Wp (evs W run src e) (fun rs e1 => e1 = e0 ∧ (keep rs).bind (srcD sk) = some ys) noX) (hys : ys = xs.map f) (hno : noOwn e0 own = true) (h0 : I [] [] e0)
    (step : ∀ done x rest acc e, xs = done ++ x :: rest → I done acc e → ∃ e1, bindT tg (f x) (wipeE e own) = some e1 ∧ Wp (condF cond.isNop (fun e => ev W run cond e) e1) (fun t e2 => if t = true then Wp (ev W run el e2) (fun r e3 => ∃ d, r.fz = some d ∧ acc.length < 10000000 ∧ I (done ++ [x]) (acc ++ [d]) e3) noX else I (done ++ [x]) acc e2) noX)
    (q : ∀ acc e', I xs acc e' → Q (.fresh (.lst acc)) (restore e0 e' own)) : Wp (ev W run (.lc tg sk src own cond el) e) Q X := by
  simp only [ev]
  refine wp_bind (wp_x (wp_imp hsrc fun rs e1 ⟨h1, h2⟩ => ?_))
  subst h1
  rw [h2, hys]
  try dsimp only
  rw [if_pos hno]
  obtain ⟨acc, e', h3, h4⟩ := lcL_inv (own := own) (tg := tg) (cond := condF cond.isNop fun e => ev W run cond e) (el := fun e => (ev W run el e).kept) (f := f) xs I (fun done x rest acc e h hi => by
    obtain ⟨e1', b1, b2⟩ := step done x rest acc e h hi
    obtain ⟨t, e2, b3, b4⟩ := wp_eq b2
    refine ⟨e1', b1, t, e2, b3, ?_⟩
    cases t with
    | true =>
      simp only [if_true] at b4 ⊢
      obtain ⟨r, e3, b5, d, b6, b7, b8⟩ := wp_eq b4
      refine ⟨d, e3, ?_, b7, b8⟩
      try dsimp only
      rw [b5]
      show Out.of r.fz _ = _
      rw [b6]
      rfl
    | false =>
      simp only [Bool.false_eq_true, if_false] at b4 ⊢
      exact b4) xs [] [] e1 rfl h0
  rw [h3]
  simp only [Out.bind_ok, fcR]
  exact wp_ok (q acc e' h4)
end
end PV
/-! ## the defs' terms: B0 -/
namespace PV.F
open PySem PV
/-- _law_sip (_law_pool_here, _law_top); slots: 0:_law_pool_here 1:_law_top 2:_law_digit 3:_law_level 4:_law_factor -/
def b_law_sip (n : Nu) : Ss :=
  (.cons (.sto 0 (.con (.int 1)) (.bin .Add (.idx (.bor 0) (.con (.int 1))) (.con (.int 1))))
  (.cons (.ife (.cmp .Gt (.idx (.bor 0) (.con (.int 2))) (.con (.int 0)))
    (.cons (.unp [.sub 0 (.con (.int 2)), .nam 2] (.blt .divmod (.cons (.blt .int (.cons (.idx (.bor 0) (.con (.int 2))) .nil)) (.cons (.var 1) .nil))))
    (.cons (.ret (.var 2))
    .nil))
    .nil)
  (.cons (.asg 3 false (.blt .int (.cons (.idx (.bor 0) (.con (.int 0))) .nil)))
  (.cons (.asg 4 false (.bin .Add (.bin .Mod (.blt .int (.cons (.var 3) .nil)) (.con (.int 19013))) (.con (.int 51001))))
  (.cons (.sto 0 (.con (.int 0)) (.bin .Mod (.blt .int (.cons (.bin .Add (.bin .Add (.bin .Mult (.var 3) (.var 4)) (.bin .Mult (.con (.int 80021)) (.idx (.bor 0) (.con (.int 1))))) (.con (.int 5))) .nil)) (.con (.int 2147483353))))
  (.cons (.ret (.bin .Mod (.blt .int (.cons (.bin .FloorDiv (.idx (.bor 0) (.con (.int 0))) (.con (.int 8101))) .nil)) (.var 1)))
  .nil))))))
structure H_law_sip (W : Wd) (fns : Nat → Option Fn) (n : Nu) : Prop where
  at_ : fns (n.f 0) = some ⟨5, b_law_sip n⟩
  dv : dfls (W.npar (n.f 0)) (W.dfl (n.f 0)) = [none, none]
/-- _law_names (_law_pool_here, _law_many); slots: 0:_law_pool_here 1:_law_many 2:_law_menu 3:_law_found 4:_law_k -/
def b_law_names (n : Nu) : Ss :=
  (.cons (.par [(2, true), (3, true)] (.cons (.lst (.cons (.con (.str "a")) (.cons (.con (.str "b")) (.cons (.con (.str "c")) (.cons (.con (.str "d")) (.cons (.con (.str "e")) (.cons (.con (.str "q")) (.cons (.con (.str "zz")) (.cons (.con (.str "town")) (.cons (.con (.str "abcdefgh")) (.cons (.con (.str "m")) (.cons (.con (.str "x")) .nil)))))))))))) (.cons (.lst .nil) .nil)))
  (.cons (.for (.one 4) .range1 (.cons (.var 1) .nil)
    (.cons (.exp (.bmt .append (.bor 3) (.cons (.bmt .pop1 (.bor 2) (.cons (.cal (n.f 0) (.cons (.lend 0) (.cons (.blt .len (.cons (.bor 2) .nil)) .nil)) .nil [some 0, some 1]) .nil)) .nil)))
    .nil))
  (.cons (.ret (.blt .tuple (.cons (.bor 3) .nil)))
  .nil)))
structure H_law_names (W : Wd) (fns : Nat → Option Fn) (n : Nu) : Prop where
  at_ : fns (n.f 1) = some ⟨5, b_law_names n⟩
  dv : dfls (W.npar (n.f 1)) (W.dfl (n.f 1)) = [none, none]
  law_sip : H_law_sip W fns n
/-- _law_duos (_law_row_here); slots: 0:_law_row_here 1:_law_found 2:_law_k 3:_law_far -/
def b_law_duos (n : Nu) : Ss :=
  (.cons (.asg 1 false (.lst .nil))
  (.cons (.for (.one 2) .range1 (.cons (.blt .len (.cons (.var 0) .nil)) .nil)
    (.cons (.asg 1 false (.bin .Add (.var 1) (.lc (.one 3) .plain (.cons (.slc (.var 0) (.bin .Add (.var 2) (.con (.int 1))) .nop) .nil) [3] .nop (.tup (.cons (.idx (.var 0) (.var 2)) (.cons (.var 3) .nil))))))
    .nil))
  (.cons (.ret (.var 1))
  .nil)))
structure H_law_duos (W : Wd) (fns : Nat → Option Fn) (n : Nu) : Prop where
  at_ : fns (n.f 2) = some ⟨4, b_law_duos n⟩
  dv : dfls (W.npar (n.f 2)) (W.dfl (n.f 2)) = [none]
/-- _law_plan (_law_pool_here, _law_most); slots: 0:_law_pool_here 1:_law_most 2:_law_spots 3:_law_found 4:_law_thick 5:_law_one 6:_law_far -/
def b_law_plan (n : Nu) : Ss :=
  (.cons (.par [(2, false), (3, true)] (.cons (.cal (n.f 1) (.cons (.lend 0) (.cons (.bin .Add (.con (.int 1)) (.cal (n.f 0) (.cons (.lend 0) (.cons (.var 1) .nil)) .nil [some 0, some 1])) .nil)) .nil [some 0, some 1]) (.cons (.lst .nil) .nil)))
  (.cons (.asg 4 false (.bin .Add (.con (.int 1)) (.cal (n.f 0) (.cons (.lend 0) (.cons (.con (.int 4)) .nil)) .nil [some 0, some 1])))
  (.cons (.for (.many [5, 6]) .plain (.cons (.cal (n.f 2) (.cons (.var 2) .nil) .nil [some 0]) .nil)
    (.cons (.ife (.cmp .LtE (.cal (n.f 0) (.cons (.lend 0) (.cons (.con (.int 6)) .nil)) .nil [some 0, some 1]) (.var 4))
      (.cons (.exp (.bmt .insert (.bor 3) (.cons (.cal (n.f 0) (.cons (.lend 0) (.cons (.bin .Add (.blt .len (.cons (.bor 3) .nil)) (.con (.int 1))) .nil)) .nil [some 0, some 1]) (.cons (.ife (.cmp .Eq (.cal (n.f 0) (.cons (.lend 0) (.cons (.con (.int 2)) .nil)) .nil [some 0, some 1]) (.con (.int 0))) (.tup (.cons (.var 6) (.cons (.var 5) .nil))) (.tup (.cons (.var 5) (.cons (.var 6) .nil)))) .nil))))
      .nil)
      .nil)
    .nil))
  (.cons (.ret (.tup (.cons (.var 2) (.cons (.blt .tuple (.cons (.bor 3) .nil)) .nil))))
  .nil))))
structure H_law_plan (W : Wd) (fns : Nat → Option Fn) (n : Nu) : Prop where
  at_ : fns (n.f 3) = some ⟨7, b_law_plan n⟩
  dv : dfls (W.npar (n.f 3)) (W.dfl (n.f 3)) = [none, none]
  law_names : H_law_names W fns n
  law_sip : H_law_sip W fns n
  law_duos : H_law_duos W fns n
/-- _law_tied (_law_knots, _law_one, _law_far); slots: 0:_law_knots 1:_law_one 2:_law_far -/
def b_law_tied (n : Nu) : Ss :=
  (.cons (.ret (.or (.cons (.cmp .In (.tup (.cons (.var 1) (.cons (.var 2) .nil))) (.var 0)) (.cons (.cmp .In (.tup (.cons (.var 2) (.cons (.var 1) .nil))) (.var 0)) .nil))))
  .nil)
structure H_law_tied (W : Wd) (fns : Nat → Option Fn) (n : Nu) : Prop where
  at_ : fns (n.f 4) = some ⟨3, b_law_tied n⟩
  dv : dfls (W.npar (n.f 4)) (W.dfl (n.f 4)) = [none, none, none]
/-- _law_trails (_law_spots, _law_knots, _law_one, _law_far); slots: 0:_law_spots 1:_law_knots 2:_law_one 3:_law_far 4:_law_found 5:_law_front 6:_law_trail 7:_law_fresh 8:_law_each -/
def b_law_trails (n : Nu) : Ss :=
  (.cons (.par [(4, true), (5, true)] (.cons (.lst .nil) (.cons (.lst (.cons (.tup (.cons (.var 2) .nil)) .nil)) .nil)))
  (.cons (.whl (.cmp .NotEq (.bor 5) (.lst .nil))
    (.cons (.asg 6 false (.bmt .pop0 (.bor 5) .nil))
    (.cons (.ife (.cmp .Eq (.idx (.var 6) (.neg (.con (.int 1)))) (.var 3))
      (.cons (.exp (.bmt .append (.bor 4) (.cons (.var 6) .nil)))
      .nil)
      (.cons (.asg 7 false (.lc (.one 8) .plain (.cons (.var 0) .nil) [8] (.and (.cons (.cmp .NotIn (.var 8) (.var 6)) (.cons (.cal (n.f 4) (.cons (.var 1) (.cons (.idx (.var 6) (.neg (.con (.int 1)))) (.cons (.var 8) .nil))) .nil [some 0, some 1, some 2]) .nil))) (.var 8)))
      (.cons (.asg 5 true (.bin .Add (.bor 5) (.lc (.one 8) .plain (.cons (.var 7) .nil) [8] .nop (.bin .Add (.var 6) (.tup (.cons (.var 8) .nil))))))
      .nil)))
    .nil)))
  (.cons (.ret (.mov 4))
  .nil)))
structure H_law_trails (W : Wd) (fns : Nat → Option Fn) (n : Nu) : Prop where
  at_ : fns (n.f 5) = some ⟨9, b_law_trails n⟩
  dv : dfls (W.npar (n.f 5)) (W.dfl (n.f 5)) = [none, none, none, none]
  law_tied : H_law_tied W fns n
/-- check_web (web); slots: 0:web -/
def b_check_web (n : Nu) : Ss :=
  (.cons (.ife (.not (.isi (.var 0) [.own (n.c 0)]))
    (.cons .nev
    .nil)
    .nil)
  .nil)
structure H_check_web (W : Wd) (fns : Nat → Option Fn) (n : Nu) : Prop where
  at_ : fns (n.f 6) = some ⟨1, b_check_web n⟩
  dv : dfls (W.npar (n.f 6)) (W.dfl (n.f 6)) = [none]
  nc_Web : n.c 0 < W.nc
/-- Web.towns (self); slots: 0:self -/
def b_Web_towns (n : Nu) : Ss :=
  (.cons (.ret (.fld (.var 0) "spots"))
  .nil)
structure H_Web_towns (W : Wd) (fns : Nat → Option Fn) (n : Nu) : Prop where
  at_ : fns (n.f 7) = some ⟨1, b_Web_towns n⟩
  dv : dfls (W.npar (n.f 7)) (W.dfl (n.f 7)) = [none]
  fl_spots : W.fl (n.c 0) "spots" = true
/-- has_town (web, value); slots: 0:web 1:value -/
def b_has_town (n : Nu) : Ss :=
  (.cons (.ret (.and (.cons (.isi (.var 1) [.ty "str"]) (.cons (.cmp .In (.var 1) (.prp (.var 0) "towns")) .nil))))
  .nil)
structure H_has_town (W : Wd) (fns : Nat → Option Fn) (n : Nu) : Prop where
  at_ : fns (n.f 8) = some ⟨2, b_has_town n⟩
  dv : dfls (W.npar (n.f 8)) (W.dfl (n.f 8)) = [none, none]
  prp_Web_towns : W.prp (n.c 0) "towns" = some (n.f 7)
  Web_towns : H_Web_towns W fns n
/-- check_town (web, value); slots: 0:web 1:value -/
def b_check_town (n : Nu) : Ss :=
  (.cons (.ife (.not (.cal (n.f 8) (.cons (.var 0) (.cons (.var 1) .nil)) .nil [some 0, some 1]))
    (.cons .nev
    .nil)
    .nil)
  .nil)
structure H_check_town (W : Wd) (fns : Nat → Option Fn) (n : Nu) : Prop where
  at_ : fns (n.f 9) = some ⟨2, b_check_town n⟩
  dv : dfls (W.npar (n.f 9)) (W.dfl (n.f 9)) = [none, none]
  has_town : H_has_town W fns n
/-- check_ends (web, town, other); slots: 0:web 1:town 2:other -/
def b_check_ends (n : Nu) : Ss :=
  (.cons (.exp (.cal (n.f 6) (.cons (.var 0) .nil) .nil [some 0]))
  (.cons (.exp (.cal (n.f 9) (.cons (.var 0) (.cons (.var 1) .nil)) .nil [some 0, some 1]))
  (.cons (.exp (.cal (n.f 9) (.cons (.var 0) (.cons (.var 2) .nil)) .nil [some 0, some 1]))
  .nil)))
structure H_check_ends (W : Wd) (fns : Nat → Option Fn) (n : Nu) : Prop where
  at_ : fns (n.f 10) = some ⟨3, b_check_ends n⟩
  dv : dfls (W.npar (n.f 10)) (W.dfl (n.f 10)) = [none, none, none]
  check_web : H_check_web W fns n
  check_town : H_check_town W fns n
/-- Web.near (self); slots: 0:self -/
def b_Web_near (n : Nu) : Ss :=
  (.cons (.ret (.fld (.var 0) "sides"))
  .nil)
structure H_Web_near (W : Wd) (fns : Nat → Option Fn) (n : Nu) : Prop where
  at_ : fns (n.f 11) = some ⟨1, b_Web_near n⟩
  dv : dfls (W.npar (n.f 11)) (W.dfl (n.f 11)) = [none]
  fl_sides : W.fl (n.c 0) "sides" = true
/-- distances_from (web, town); slots: 0:web 1:town 2:found 3:front 4:later 5:here 6:other -/
def b_distances_from (n : Nu) : Ss :=
  (.cons (.par [(2, true), (3, false)] (.cons (.dic false (.cons (.var 1) (.cons (.con (.int 0)) .nil))) (.cons (.lst (.cons (.var 1) .nil)) .nil)))
  (.cons (.whl (.cmp .NotEq (.var 3) (.lst .nil))
    (.cons (.asg 4 true (.lst .nil))
    (.cons (.for (.one 5) .plain (.cons (.var 3) .nil)
      (.cons (.for (.one 6) .plain (.cons (.idx (.prp (.var 0) "near") (.var 5)) .nil)
        (.cons (.ife (.cmp .NotIn (.var 6) (.bor 2))
          (.cons (.sto 2 (.var 6) (.bin .Add (.idx (.bor 2) (.var 5)) (.con (.int 1))))
          (.cons (.exp (.bmt .append (.bor 4) (.cons (.var 6) .nil)))
          .nil))
          .nil)
        .nil))
      .nil))
    (.cons (.asg 3 false (.frz 4))
    .nil))))
  (.cons (.ret (.mov 2))
  .nil)))
structure H_distances_from (W : Wd) (fns : Nat → Option Fn) (n : Nu) : Prop where
  at_ : fns (n.f 12) = some ⟨7, b_distances_from n⟩
  dv : dfls (W.npar (n.f 12)) (W.dfl (n.f 12)) = [none, none]
  prp_Web_near : W.prp (n.c 0) "near" = some (n.f 11)
  Web_near : H_Web_near W fns n
/-- distance_of (web, town, other); slots: 0:web 1:town 2:other -/
def b_distance_of (n : Nu) : Ss :=
  (.cons (.ret (.bmt .get1 (.cal (n.f 12) (.cons (.var 0) (.cons (.var 1) .nil)) .nil [some 0, some 1]) (.cons (.var 2) .nil)))
  .nil)
structure H_distance_of (W : Wd) (fns : Nat → Option Fn) (n : Nu) : Prop where
  at_ : fns (n.f 13) = some ⟨3, b_distance_of n⟩
  dv : dfls (W.npar (n.f 13)) (W.dfl (n.f 13)) = [none, none, none]
  distances_from : H_distances_from W fns n
/-- distance (web, town, other); slots: 0:web 1:town 2:other -/
def b_distance (n : Nu) : Ss :=
  (.cons (.exp (.cal (n.f 10) (.cons (.var 0) (.cons (.var 1) (.cons (.var 2) .nil))) .nil [some 0, some 1, some 2]))
  (.cons (.ret (.cal (n.f 13) (.cons (.var 0) (.cons (.var 1) (.cons (.var 2) .nil))) .nil [some 0, some 1, some 2]))
  .nil))
structure H_distance (W : Wd) (fns : Nat → Option Fn) (n : Nu) : Prop where
  at_ : fns (n.f 14) = some ⟨3, b_distance n⟩
  dv : dfls (W.npar (n.f 14)) (W.dfl (n.f 14)) = [none, none, none]
  check_ends : H_check_ends W fns n
  distance_of : H_distance_of W fns n
/-- is_name (value); slots: 0:value 1:sign -/
def b_is_name (n : Nu) : Ss :=
  (.cons (.ret (.and (.cons (.isi (.var 0) [.ty "str"]) (.cons (.chn .Lt .Lt (.con (.int 0)) (.blt .len (.cons (.var 0) .nil)) (.con (.int 9))) (.cons (.blt .all (.cons (.lc (.one 1) .plain (.cons (.var 0) .nil) [1] .nop (.cmp .In (.var 1) (.glo (n.g 0)))) .nil)) .nil)))))
  .nil)
structure H_is_name (W : Wd) (fns : Nat → Option Fn) (n : Nu) : Prop where
  at_ : fns (n.f 15) = some ⟨2, b_is_name n⟩
  dv : dfls (W.npar (n.f 15)) (W.dfl (n.f 15)) = [none]
  g_LETTERS : W.glos[n.g 0]? = some (.str "abcdefghijklmnopqrstuvwxyz")
/-- check_towns (towns); slots: 0:towns 1:index 2:town -/
def b_check_towns (n : Nu) : Ss :=
  (.cons (.ife (.or (.cons (.not (.isi (.var 0) [.ty "tuple"])) (.cons (.cmp .Eq (.var 0) (.tup .nil)) .nil)))
    (.cons .nev
    .nil)
    .nil)
  (.cons (.for (.many [1, 2]) .enum (.cons (.var 0) .nil)
    (.cons (.ife (.or (.cons (.cmp .GtE (.var 1) (.glo (n.g 1))) (.cons (.not (.cal (n.f 15) (.cons (.var 2) .nil) .nil [some 0])) (.cons (.cmp .In (.var 2) (.slc (.var 0) .nop (.var 1))) .nil))))
      (.cons .nev
      .nil)
      .nil)
    .nil))
  .nil))
structure H_check_towns (W : Wd) (fns : Nat → Option Fn) (n : Nu) : Prop where
  at_ : fns (n.f 16) = some ⟨3, b_check_towns n⟩
  dv : dfls (W.npar (n.f 16)) (W.dfl (n.f 16)) = [none]
  g_MOST_TOWNS : W.glos[n.g 1]? = some (.int 10)
  is_name : H_is_name W fns n
/-- is_pair (towns, value); slots: 0:towns 1:value 2:town -/
def b_is_pair (n : Nu) : Ss :=
  (.cons (.ife (.or (.cons (.not (.isi (.var 1) [.ty "tuple"])) (.cons (.cmp .NotEq (.blt .len (.cons (.var 1) .nil)) (.con (.int 2))) (.cons (.not (.blt .all (.cons (.lc (.one 2) .plain (.cons (.var 1) .nil) [2] .nop (.isi (.var 2) [.ty "str"])) .nil))) .nil))))
    (.cons (.ret (.con (.bl false)))
    .nil)
    .nil)
  (.cons (.ret (.and (.cons (.cmp .NotEq (.idx (.var 1) (.con (.int 0))) (.idx (.var 1) (.con (.int 1)))) (.cons (.cmp .In (.idx (.var 1) (.con (.int 0))) (.var 0)) (.cons (.cmp .In (.idx (.var 1) (.con (.int 1))) (.var 0)) .nil)))))
  .nil))
structure H_is_pair (W : Wd) (fns : Nat → Option Fn) (n : Nu) : Prop where
  at_ : fns (n.f 17) = some ⟨3, b_is_pair n⟩
  dv : dfls (W.npar (n.f 17)) (W.dfl (n.f 17)) = [none, none]
/-- are_alike (tie, other); slots: 0:tie 1:other -/
def b_are_alike (n : Nu) : Ss :=
  (.cons (.ret (.cmp .In (.var 0) (.tup (.cons (.var 1) (.cons (.rev (.var 1)) .nil)))))
  .nil)
structure H_are_alike (W : Wd) (fns : Nat → Option Fn) (n : Nu) : Prop where
  at_ : fns (n.f 18) = some ⟨2, b_are_alike n⟩
  dv : dfls (W.npar (n.f 18)) (W.dfl (n.f 18)) = [none, none]
/-- check_ties (towns, ties); slots: 0:towns 1:ties 2:index 3:tie 4:other -/
def b_check_ties (n : Nu) : Ss :=
  (.cons (.ife (.not (.isi (.var 1) [.ty "tuple"]))
    (.cons .nev
    .nil)
    .nil)
  (.cons (.for (.many [2, 3]) .enum (.cons (.var 1) .nil)
    (.cons (.ife (.or (.cons (.not (.cal (n.f 17) (.cons (.var 0) (.cons (.var 3) .nil)) .nil [some 0, some 1])) (.cons (.blt .any (.cons (.lc (.one 4) .plain (.cons (.slc (.var 1) .nop (.var 2)) .nil) [4] .nop (.cal (n.f 18) (.cons (.var 3) (.cons (.var 4) .nil)) .nil [some 0, some 1])) .nil)) .nil)))
      (.cons .nev
      .nil)
      .nil)
    .nil))
  .nil))
structure H_check_ties (W : Wd) (fns : Nat → Option Fn) (n : Nu) : Prop where
  at_ : fns (n.f 19) = some ⟨5, b_check_ties n⟩
  dv : dfls (W.npar (n.f 19)) (W.dfl (n.f 19)) = [none, none]
  is_pair : H_is_pair W fns n
  are_alike : H_are_alike W fns n
/-- sides_of (towns, ties); slots: 0:towns 1:ties 2:known 3:one 4:other 5:town -/
def b_sides_of (n : Nu) : Ss :=
  (.cons (.asg 2 true (.dic true .nil))
  (.cons (.for (.many [3, 4]) .plain (.cons (.var 1) .nil)
    (.cons (.sto 2 (.tup (.cons (.var 3) (.cons (.var 4) .nil))) (.con (.bl true)))
    (.cons (.sto 2 (.tup (.cons (.var 4) (.cons (.var 3) .nil))) (.con (.bl true)))
    .nil)))
  (.cons (.ret (.dc (.one 5) .plain (.cons (.var 0) .nil) [5] .nop (.var 5) (.blt .tuple (.cons (.lc (.one 4) .plain (.cons (.var 0) .nil) [4] (.cmp .In (.tup (.cons (.var 5) (.cons (.var 4) .nil))) (.bor 2)) (.var 4)) .nil))))
  .nil)))
structure H_sides_of (W : Wd) (fns : Nat → Option Fn) (n : Nu) : Prop where
  at_ : fns (n.f 20) = some ⟨6, b_sides_of n⟩
  dv : dfls (W.npar (n.f 20)) (W.dfl (n.f 20)) = [none, none]
/-- Web.__init__ (self, towns, ties); slots: 0:self 1:towns 2:ties -/
def b_Web___init__ (n : Nu) : Ss :=
  (.cons (.exp (.cal (n.f 16) (.cons (.var 1) .nil) .nil [some 0]))
  (.cons (.exp (.cal (n.f 19) (.cons (.var 1) (.cons (.var 2) .nil)) .nil [some 0, some 1]))
  (.cons (.att 0 "spots" (.var 1))
  (.cons (.att 0 "knots" (.var 2))
  (.cons (.att 0 "sides" (.cal (n.f 20) (.cons (.var 1) (.cons (.var 2) .nil)) .nil [some 0, some 1]))
  .nil)))))
structure H_Web___init__ (W : Wd) (fns : Nat → Option Fn) (n : Nu) : Prop where
  at_ : fns (n.f 21) = some ⟨3, b_Web___init__ n⟩
  dv : dfls (W.npar (n.f 21)) (W.dfl (n.f 21)) = [none, none, some (.tup [])]
  fl_knots : W.fl (n.c 0) "knots" = true
  fl_sides : W.fl (n.c 0) "sides" = true
  fl_spots : W.fl (n.c 0) "spots" = true
  check_towns : H_check_towns W fns n
  check_ties : H_check_ties W fns n
  sides_of : H_sides_of W fns n
/-- _law_right (_law_pool_here); slots: 0:_law_pool_here 1:_law_again 2:_law_spots 3:_law_knots 4:_law_mine 5:_law_told 6:_law_one 7:_law_far 8:_law_trails_here 9:_law_due 10:_law_trail 11:_law_found 12:_law_between -/
def b_law_right (n : Nu) : Ss :=
  (.cons (.for (.one 1) .range1 (.cons (.con (.int 2)) .nil)
    (.cons (.unp [.nam 2, .nam 3] (.cal (n.f 3) (.cons (.lend 0) (.cons (.con (.int 5)) .nil)) .nil [some 0, some 1]))
    (.cons (.par [(4, false), (5, true)] (.cons (.mak (n.c 0) (.cons (.var 2) (.cons (.var 3) .nil)) .nil [some 0, some 1, some 2]) (.cons (.dic true .nil) .nil)))
    (.cons (.for (.one 6) .plain (.cons (.var 2) .nil)
      (.cons (.for (.one 7) .plain (.cons (.var 2) .nil)
        (.cons (.asg 8 false (.cal (n.f 5) (.cons (.var 2) (.cons (.var 3) (.cons (.var 6) (.cons (.var 7) .nil)))) .nil [some 0, some 1, some 2, some 3]))
        (.cons (.asg 9 false (.ife (.cmp .NotEq (.var 8) (.lst .nil)) (.blt .min1 (.cons (.lc (.one 10) .plain (.cons (.var 8) .nil) [10] .nop (.bin .Sub (.blt .len (.cons (.var 10) .nil)) (.con (.int 1)))) .nil)) (.con .non)))
        (.cons (.asg 11 false (.lst (.cons (.cal (n.f 14) (.cons (.var 4) (.cons (.var 6) (.cons (.var 7) .nil))) .nil [some 0, some 1, some 2]) (.cons (.cal (n.f 14) .nil (.cons (.var 7) (.cons (.var 6) (.cons (.var 4) .nil))) [some 2, some 1, some 0]) (.cons (.cal (n.f 14) (.cons (.var 4) (.cons (.var 7) (.cons (.var 6) .nil))) .nil [some 0, some 1, some 2]) .nil)))))
        (.cons (.ife (.or (.cons (.cmp .NotEq (.blt .repr (.cons (.var 11) .nil)) (.blt .repr (.cons (.bin .Mult (.lst (.cons (.var 9) .nil)) (.con (.int 3))) .nil))) (.cons (.and (.cons (.cmp .Eq (.var 6) (.var 7)) (.cons (.cmp .NotEq (.var 9) (.con (.int 0))) .nil))) .nil)))
          (.cons (.ret (.con (.bl false)))
          .nil)
          .nil)
        (.cons (.sto 5 (.tup (.cons (.var 6) (.cons (.var 7) .nil))) (.var 9))
        .nil))))))
      .nil))
    (.cons (.for (.many [6, 7]) .plain (.cons (.cal (n.f 2) (.cons (.var 2) .nil) .nil [some 0]) .nil)
      (.cons (.for (.one 12) .plain (.cons (.var 2) .nil)
        (.cons (.ife (.and (.cons (.cmp .IsNot (.idx (.bor 5) (.tup (.cons (.var 6) (.cons (.var 12) .nil)))) (.con .non)) (.cons (.cmp .IsNot (.idx (.bor 5) (.tup (.cons (.var 12) (.cons (.var 7) .nil)))) (.con .non)) .nil)))
          (.cons (.ife (.or (.cons (.cmp .Is (.idx (.bor 5) (.tup (.cons (.var 6) (.cons (.var 7) .nil)))) (.con .non)) (.cons (.cmp .Gt (.idx (.bor 5) (.tup (.cons (.var 6) (.cons (.var 7) .nil)))) (.bin .Add (.idx (.bor 5) (.tup (.cons (.var 6) (.cons (.var 12) .nil)))) (.idx (.bor 5) (.tup (.cons (.var 12) (.cons (.var 7) .nil)))))) .nil)))
            (.cons (.ret (.con (.bl false)))
            .nil)
            .nil)
          .nil)
          .nil)
        .nil))
      .nil))
    .nil)))))
  (.cons (.ret (.con (.bl true)))
  .nil))
structure H_law_right (W : Wd) (fns : Nat → Option Fn) (n : Nu) : Prop where
  at_ : fns (n.f 22) = some ⟨13, b_law_right n⟩
  dv : dfls (W.npar (n.f 22)) (W.dfl (n.f 22)) = [none]
  ini_Web : W.ini (n.c 0) = some (n.f 21)
  law_plan : H_law_plan W fns n
  law_trails : H_law_trails W fns n
  distance : H_distance W fns n
  law_duos : H_law_duos W fns n
  Web___init__ : H_Web___init__ W fns n
/-- _law_pool (_law_script, _law_k); slots: 0:_law_script 1:_law_k 2:_law_own 3:_law_mixed 4:_law_entry_here -/
def b_law_pool (n : Nu) : Ss :=
  (.cons (.asg 2 false (.ife (.cmp .Lt (.var 1) (.blt .len (.cons (.var 0) .nil))) (.blt .int (.cons (.idx (.var 0) (.var 1)) .nil)) (.bin .Add (.bin .Mult (.con (.int 73)) (.var 1)) (.con (.int 17)))))
  (.cons (.asg 3 false (.bin .Add (.con (.int 30011)) (.bin .Mult (.con (.int 9001)) (.var 1))))
  (.cons (.for (.one 4) .plain (.cons (.slc (.var 0) .nop (.con (.int 8))) .nil)
    (.cons (.asg 3 false (.bin .Mod (.blt .int (.cons (.bin .Add (.bin .Mult (.var 3) (.con (.int 26041))) (.blt .int (.cons (.var 4) .nil))) .nil)) (.con (.int 2147483353))))
    .nil))
  (.cons (.ret (.lst (.cons (.bin .Mod (.blt .int (.cons (.bin .Add (.var 3) (.bin .Mult (.var 2) (.con (.int 7019)))) .nil)) (.con (.int 2147483353))) (.cons (.con (.int 0)) (.cons (.ife (.or (.cons (.cmp .Lt (.var 2) (.con (.int 0))) (.cons (.cmp .GtE (.var 2) (.bin .Pow (.con (.int 10)) (.con (.int 18)))) .nil))) (.blt .abs (.cons (.var 2) .nil)) (.con (.int 0))) .nil)))))
  .nil))))
structure H_law_pool (W : Wd) (fns : Nat → Option Fn) (n : Nu) : Prop where
  at_ : fns (n.f 23) = some ⟨5, b_law_pool n⟩
  dv : dfls (W.npar (n.f 23)) (W.dfl (n.f 23)) = [none, none]
/-- law (_law_script); slots: 0:_law_script 1:_law_k -/
def b_law (n : Nu) : Ss :=
  (.cons (.ret (.blt .all (.cons (.lc (.one 1) .range1 (.cons (.blt .max2 (.cons (.con (.int 2)) (.cons (.blt .min2 (.cons (.blt .len (.cons (.var 0) .nil)) (.cons (.con (.int 5)) .nil))) .nil))) .nil) [1] .nop (.cal (n.f 22) (.cons (.give (.cal (n.f 23) (.cons (.var 0) (.cons (.var 1) .nil)) .nil [some 0, some 1])) .nil) .nil [some 0])) .nil)))
  .nil)
structure H_law (W : Wd) (fns : Nat → Option Fn) (n : Nu) : Prop where
  at_ : fns (n.f 24) = some ⟨2, b_law n⟩
  dv : dfls (W.npar (n.f 24)) (W.dfl (n.f 24)) = [none]
  law_right : H_law_right W fns n
  law_pool : H_law_pool W fns n
end PV.F
/-! ## the defs' terms: B16 -/
namespace PV.F
open PySem PV
/-- _law_lots (_law_spots); slots: 0:_law_spots 1:_law_found 2:_law_one 3:_law_lot_here -/
def b_law_lots (n : Nu) : Ss :=
  (.cons (.asg 1 false (.lst (.cons (.tup .nil) .nil)))
  (.cons (.for (.one 2) .plain (.cons (.var 0) .nil)
    (.cons (.asg 1 false (.bin .Add (.var 1) (.lc (.one 3) .plain (.cons (.var 1) .nil) [3] .nop (.bin .Add (.var 3) (.tup (.cons (.var 2) .nil))))))
    .nil))
  (.cons (.ret (.var 1))
  .nil)))
structure H_law_lots (W : Wd) (fns : Nat → Option Fn) (n : Nu) : Prop where
  at_ : fns (n.f 25) = some ⟨4, b_law_lots n⟩
  dv : dfls (W.npar (n.f 25)) (W.dfl (n.f 25)) = [none]
/-- _law_mixed (_law_pool_here, _law_lot_here); slots: 0:_law_pool_here 1:_law_lot_here 2:_law_left 3:_law_found -/
def b_law_mixed (n : Nu) : Ss :=
  (.cons (.par [(2, true), (3, true)] (.cons (.blt .list (.cons (.var 1) .nil)) (.cons (.lst .nil) .nil)))
  (.cons (.whl (.cmp .NotEq (.bor 2) (.lst .nil))
    (.cons (.exp (.bmt .append (.bor 3) (.cons (.bmt .pop1 (.bor 2) (.cons (.cal (n.f 0) (.cons (.lend 0) (.cons (.blt .len (.cons (.bor 2) .nil)) .nil)) .nil [some 0, some 1]) .nil)) .nil)))
    .nil))
  (.cons (.ret (.blt .tuple (.cons (.bor 3) .nil)))
  .nil)))
structure H_law_mixed (W : Wd) (fns : Nat → Option Fn) (n : Nu) : Prop where
  at_ : fns (n.f 26) = some ⟨4, b_law_mixed n⟩
  dv : dfls (W.npar (n.f 26)) (W.dfl (n.f 26)) = [none, none]
  law_sip : H_law_sip W fns n
/-- _law_reach (_law_spots, _law_knots, _law_begin); slots: 0:_law_spots 1:_law_knots 2:_law_begin 3:_law_found 4:_law_front 5:_law_here 6:_law_far -/
def b_law_reach (n : Nu) : Ss :=
  (.cons (.par [(3, true), (4, true)] (.cons (.dic false (.cons (.var 2) (.cons (.con (.int 0)) .nil))) (.cons (.lst (.cons (.var 2) .nil)) .nil)))
  (.cons (.whl (.cmp .NotEq (.bor 4) (.lst .nil))
    (.cons (.asg 5 false (.bmt .pop1 (.bor 4) (.cons (.con (.int 0)) .nil)))
    (.cons (.for (.one 6) .plain (.cons (.var 0) .nil)
      (.cons (.ife (.and (.cons (.cmp .NotIn (.var 6) (.bor 3)) (.cons (.cal (n.f 4) (.cons (.var 1) (.cons (.var 5) (.cons (.var 6) .nil))) .nil [some 0, some 1, some 2]) .nil)))
        (.cons (.sto 3 (.var 6) (.bin .Add (.idx (.bor 3) (.var 5)) (.con (.int 1))))
        (.cons (.exp (.bmt .append (.bor 4) (.cons (.var 6) .nil)))
        .nil))
        .nil)
      .nil))
    .nil)))
  (.cons (.ret (.mov 3))
  .nil)))
structure H_law_reach (W : Wd) (fns : Nat → Option Fn) (n : Nu) : Prop where
  at_ : fns (n.f 27) = some ⟨7, b_law_reach n⟩
  dv : dfls (W.npar (n.f 27)) (W.dfl (n.f 27)) = [none, none, none]
  law_tied : H_law_tied W fns n
/-- _law_is_whole (_law_lot_here, _law_knots); slots: 0:_law_lot_here 1:_law_knots -/
def b_law_is_whole (n : Nu) : Ss :=
  (.cons (.ret (.cmp .Eq (.blt .len (.cons (.cal (n.f 27) (.cons (.var 0) (.cons (.var 1) (.cons (.idx (.var 0) (.con (.int 0))) .nil))) .nil [some 0, some 1, some 2]) .nil)) (.blt .len (.cons (.var 0) .nil))))
  .nil)
structure H_law_is_whole (W : Wd) (fns : Nat → Option Fn) (n : Nu) : Prop where
  at_ : fns (n.f 28) = some ⟨2, b_law_is_whole n⟩
  dv : dfls (W.npar (n.f 28)) (W.dfl (n.f 28)) = [none, none]
  law_reach : H_law_reach W fns n
/-- check_part (web, part); slots: 0:web 1:part 2:index 3:town -/
def b_check_part (n : Nu) : Ss :=
  (.cons (.ife (.or (.cons (.not (.isi (.var 1) [.ty "tuple"])) (.cons (.cmp .Eq (.var 1) (.tup .nil)) .nil)))
    (.cons .nev
    .nil)
    .nil)
  (.cons (.for (.many [2, 3]) .enum (.cons (.var 1) .nil)
    (.cons (.ife (.or (.cons (.not (.cal (n.f 8) (.cons (.var 0) (.cons (.var 3) .nil)) .nil [some 0, some 1])) (.cons (.cmp .In (.var 3) (.slc (.var 1) .nop (.var 2))) .nil)))
      (.cons .nev
      .nil)
      .nil)
    .nil))
  .nil))
structure H_check_part (W : Wd) (fns : Nat → Option Fn) (n : Nu) : Prop where
  at_ : fns (n.f 29) = some ⟨4, b_check_part n⟩
  dv : dfls (W.npar (n.f 29)) (W.dfl (n.f 29)) = [none, none]
  has_town : H_has_town W fns n
/-- Web.ties (self); slots: 0:self -/
def b_Web_ties (n : Nu) : Ss :=
  (.cons (.ret (.fld (.var 0) "knots"))
  .nil)
structure H_Web_ties (W : Wd) (fns : Nat → Option Fn) (n : Nu) : Prop where
  at_ : fns (n.f 30) = some ⟨1, b_Web_ties n⟩
  dv : dfls (W.npar (n.f 30)) (W.dfl (n.f 30)) = [none]
  fl_knots : W.fl (n.c 0) "knots" = true
/-- part_of (web, towns); slots: 0:web 1:towns 2:ties 3:tie 4:town -/
def b_part_of (n : Nu) : Ss :=
  (.cons (.asg 2 false (.blt .tuple (.cons (.lc (.one 3) .plain (.cons (.prp (.var 0) "ties") .nil) [3] (.and (.cons (.cmp .In (.idx (.var 3) (.con (.int 0))) (.var 1)) (.cons (.cmp .In (.idx (.var 3) (.con (.int 1))) (.var 1)) .nil))) (.var 3)) .nil)))
  (.cons (.ret (.mak (n.c 0) (.cons (.blt .tuple (.cons (.lc (.one 4) .plain (.cons (.prp (.var 0) "towns") .nil) [4] (.cmp .In (.var 4) (.var 1)) (.var 4)) .nil)) (.cons (.var 2) .nil)) .nil [some 0, some 1, some 2]))
  .nil))
structure H_part_of (W : Wd) (fns : Nat → Option Fn) (n : Nu) : Prop where
  at_ : fns (n.f 31) = some ⟨5, b_part_of n⟩
  dv : dfls (W.npar (n.f 31)) (W.dfl (n.f 31)) = [none, none]
  ini_Web : W.ini (n.c 0) = some (n.f 21)
  prp_Web_ties : W.prp (n.c 0) "ties" = some (n.f 30)
  prp_Web_towns : W.prp (n.c 0) "towns" = some (n.f 7)
  Web___init__ : H_Web___init__ W fns n
  Web_ties : H_Web_ties W fns n
  Web_towns : H_Web_towns W fns n
/-- hangs_of (web, part); slots: 0:web 1:part -/
def b_hangs_of (n : Nu) : Ss :=
  (.cons (.ret (.cmp .Eq (.blt .len (.cons (.cal (n.f 12) (.cons (.cal (n.f 31) (.cons (.var 0) (.cons (.var 1) .nil)) .nil [some 0, some 1]) (.cons (.idx (.var 1) (.con (.int 0))) .nil)) .nil [some 0, some 1]) .nil)) (.blt .len (.cons (.var 1) .nil))))
  .nil)
structure H_hangs_of (W : Wd) (fns : Nat → Option Fn) (n : Nu) : Prop where
  at_ : fns (n.f 32) = some ⟨2, b_hangs_of n⟩
  dv : dfls (W.npar (n.f 32)) (W.dfl (n.f 32)) = [none, none]
  distances_from : H_distances_from W fns n
  part_of : H_part_of W fns n
/-- hangs (web, part); slots: 0:web 1:part -/
def b_hangs (n : Nu) : Ss :=
  (.cons (.exp (.cal (n.f 6) (.cons (.var 0) .nil) .nil [some 0]))
  (.cons (.exp (.cal (n.f 29) (.cons (.var 0) (.cons (.var 1) .nil)) .nil [some 0, some 1]))
  (.cons (.ret (.cal (n.f 32) (.cons (.var 0) (.cons (.var 1) .nil)) .nil [some 0, some 1]))
  .nil)))
structure H_hangs (W : Wd) (fns : Nat → Option Fn) (n : Nu) : Prop where
  at_ : fns (n.f 33) = some ⟨2, b_hangs n⟩
  dv : dfls (W.npar (n.f 33)) (W.dfl (n.f 33)) = [none, none]
  check_web : H_check_web W fns n
  check_part : H_check_part W fns n
  hangs_of : H_hangs_of W fns n
/-- _law_right (_law_pool_here); slots: 0:_law_pool_here 1:_law_spots 2:_law_knots 3:_law_mine 4:_law_lot_here 5:_law_mixed_here 6:_law_due -/
def b_k16_law_right (n : Nu) : Ss :=
  (.cons (.unp [.nam 1, .nam 2] (.cal (n.f 3) (.cons (.lend 0) (.cons (.con (.int 7)) .nil)) .nil [some 0, some 1]))
  (.cons (.asg 3 false (.mak (n.c 0) (.cons (.var 1) (.cons (.var 2) .nil)) .nil [some 0, some 1, some 2]))
  (.cons (.for (.one 4) .plain (.cons (.cal (n.f 25) (.cons (.var 1) .nil) .nil [some 0]) .nil)
    (.cons (.ife (.cmp .NotEq (.var 4) (.tup .nil))
      (.cons (.par [(5, false), (6, false)] (.cons (.cal (n.f 26) (.cons (.lend 0) (.cons (.var 4) .nil)) .nil [some 0, some 1]) (.cons (.cal (n.f 28) (.cons (.var 4) (.cons (.var 2) .nil)) .nil [some 0, some 1]) .nil)))
      (.cons (.ife (.cmp .NotEq (.blt .repr (.cons (.lst (.cons (.cal (n.f 33) (.cons (.var 3) (.cons (.var 5) .nil)) .nil [some 0, some 1]) (.cons (.cal (n.f 33) .nil (.cons (.var 4) (.cons (.var 3) .nil)) [some 1, some 0]) .nil))) .nil)) (.blt .repr (.cons (.lst (.cons (.var 6) (.cons (.var 6) .nil))) .nil)))
        (.cons (.ret (.con (.bl false)))
        .nil)
        .nil)
      (.cons (.ife (.or (.cons (.and (.cons (.cmp .Eq (.blt .len (.cons (.var 5) .nil)) (.con (.int 1))) (.cons (.not (.var 6)) .nil))) (.cons (.and (.cons (.cmp .Eq (.blt .len (.cons (.var 5) .nil)) (.con (.int 2))) (.cons (.cmp .NotEq (.var 6) (.cal (n.f 4) (.cons (.var 2) (.cons (.idx (.var 5) (.con (.int 0))) (.cons (.idx (.var 5) (.con (.int 1))) .nil))) .nil [some 0, some 1, some 2])) .nil))) .nil)))
        (.cons (.ret (.con (.bl false)))
        .nil)
        .nil)
      .nil)))
      .nil)
    .nil))
  (.cons (.ret (.con (.bl true)))
  .nil))))
structure H_k16_law_right (W : Wd) (fns : Nat → Option Fn) (n : Nu) : Prop where
  at_ : fns (n.f 34) = some ⟨7, b_k16_law_right n⟩
  dv : dfls (W.npar (n.f 34)) (W.dfl (n.f 34)) = [none]
  ini_Web : W.ini (n.c 0) = some (n.f 21)
  law_plan : H_law_plan W fns n
  law_lots : H_law_lots W fns n
  law_mixed : H_law_mixed W fns n
  law_is_whole : H_law_is_whole W fns n
  hangs : H_hangs W fns n
  law_tied : H_law_tied W fns n
  Web___init__ : H_Web___init__ W fns n
/-- law (_law_script); slots: 0:_law_script 1:_law_k -/
def b_k16_law (n : Nu) : Ss :=
  (.cons (.ret (.blt .all (.cons (.lc (.one 1) .range1 (.cons (.blt .max2 (.cons (.con (.int 2)) (.cons (.blt .min2 (.cons (.blt .len (.cons (.var 0) .nil)) (.cons (.con (.int 5)) .nil))) .nil))) .nil) [1] .nop (.cal (n.f 34) (.cons (.give (.cal (n.f 23) (.cons (.var 0) (.cons (.var 1) .nil)) .nil [some 0, some 1])) .nil) .nil [some 0])) .nil)))
  .nil)
structure H_k16_law (W : Wd) (fns : Nat → Option Fn) (n : Nu) : Prop where
  at_ : fns (n.f 35) = some ⟨2, b_k16_law n⟩
  dv : dfls (W.npar (n.f 35)) (W.dfl (n.f 35)) = [none]
  k16_law_right : H_k16_law_right W fns n
  law_pool : H_law_pool W fns n
end PV.F
/-! ## the defs' terms: B33 -/
namespace PV.F
open PySem PV
/-- _law_dip (_law_well_here, _law_sides); slots: 0:_law_well_here 1:_law_sides 2:_law_digit 3:_law_by -/
def b_law_dip (n : Nu) : Ss :=
  (.cons (.sto 0 (.con (.int 2)) (.bin .Add (.idx (.bor 0) (.con (.int 2))) (.con (.int 1))))
  (.cons (.ife (.cmp .Gt (.idx (.bor 0) (.con (.int 0))) (.con (.int 0)))
    (.cons (.unp [.sub 0 (.con (.int 0)), .nam 2] (.blt .divmod (.cons (.idx (.bor 0) (.con (.int 0))) (.cons (.var 1) .nil))))
    (.cons (.ret (.var 2))
    .nil))
    .nil)
  (.cons (.asg 3 false (.bin .Add (.con (.int 20011)) (.bin .Mult (.con (.int 2)) (.idx (.bor 0) (.con (.int 2))))))
  (.cons (.sto 0 (.con (.int 1)) (.bin .Mod (.blt .int (.cons (.bin .Add (.bin .Add (.bin .Mult (.idx (.bor 0) (.con (.int 1))) (.var 3)) (.bin .Mult (.con (.int 70001)) (.idx (.bor 0) (.con (.int 2))))) (.con (.int 1))) .nil)) (.con (.int 2147483399))))
  (.cons (.ret (.bin .Mod (.blt .int (.cons (.bin .FloorDiv (.idx (.bor 0) (.con (.int 1))) (.con (.int 640))) .nil)) (.var 1)))
  .nil)))))
structure H_law_dip (W : Wd) (fns : Nat → Option Fn) (n : Nu) : Prop where
  at_ : fns (n.f 36) = some ⟨4, b_law_dip n⟩
  dv : dfls (W.npar (n.f 36)) (W.dfl (n.f 36)) = [none, none]
/-- _law_picked (_law_well_here, _law_some, _law_many); slots: 0:_law_well_here 1:_law_some 2:_law_many 3:_law_rest 4:_law_found 5:_law_k 6:_law_at -/
def b_law_picked (n : Nu) : Ss :=
  (.cons (.par [(3, false), (4, true)] (.cons (.blt .list (.cons (.var 1) .nil)) (.cons (.lst .nil) .nil)))
  (.cons (.for (.one 5) .range1 (.cons (.var 2) .nil)
    (.cons (.asg 6 false (.cal (n.f 36) (.cons (.lend 0) (.cons (.blt .len (.cons (.var 3) .nil)) .nil)) .nil [some 0, some 1]))
    (.cons (.exp (.bmt .append (.bor 4) (.cons (.idx (.var 3) (.var 6)) .nil)))
    (.cons (.asg 3 false (.bin .Add (.slc (.var 3) .nop (.var 6)) (.slc (.var 3) (.bin .Add (.var 6) (.con (.int 1))) .nop)))
    .nil))))
  (.cons (.ret (.mov 4))
  .nil)))
structure H_law_picked (W : Wd) (fns : Nat → Option Fn) (n : Nu) : Prop where
  at_ : fns (n.f 37) = some ⟨7, b_law_picked n⟩
  dv : dfls (W.npar (n.f 37)) (W.dfl (n.f 37)) = [none, none, none]
  law_dip : H_law_dip W fns n
/-- _law_names (_law_well_here, _law_size); slots: 0:_law_well_here 1:_law_size 2:_law_menu -/
def b_law_names_2 (n : Nu) : Ss :=
  (.cons (.asg 2 false (.lst (.cons (.con (.str "a")) (.cons (.con (.str "b")) (.cons (.con (.str "c")) (.cons (.con (.str "d")) (.cons (.con (.str "e")) (.cons (.con (.str "f")) (.cons (.con (.str "ab")) (.cons (.con (.str "ba")) (.cons (.con (.str "elm")) (.cons (.con (.str "oak")) (.cons (.con (.str "zz")) (.cons (.con (.str "abcdefgh")) (.cons (.con (.str "q")) (.cons (.con (.str "river")) .nil))))))))))))))))
  (.cons (.ret (.blt .tuple (.cons (.cal (n.f 37) (.cons (.lend 0) (.cons (.var 2) (.cons (.var 1) .nil))) .nil [some 0, some 1, some 2]) .nil)))
  .nil))
structure H_law_names_2 (W : Wd) (fns : Nat → Option Fn) (n : Nu) : Prop where
  at_ : fns (n.f 38) = some ⟨3, b_law_names_2 n⟩
  dv : dfls (W.npar (n.f 38)) (W.dfl (n.f 38)) = [none, none]
  law_picked : H_law_picked W fns n
/-- _law_pairs (_law_names_here); slots: 0:_law_names_here 1:_law_found 2:_law_k 3:_law_each -/
def b_law_pairs (n : Nu) : Ss :=
  (.cons (.asg 1 false (.lst .nil))
  (.cons (.for (.one 2) .range1 (.cons (.blt .len (.cons (.var 0) .nil)) .nil)
    (.cons (.asg 1 false (.bin .Add (.var 1) (.lc (.one 3) .plain (.cons (.slc (.var 0) (.bin .Add (.var 2) (.con (.int 1))) .nop) .nil) [3] .nop (.tup (.cons (.idx (.var 0) (.var 2)) (.cons (.var 3) .nil))))))
    .nil))
  (.cons (.ret (.var 1))
  .nil)))
structure H_law_pairs (W : Wd) (fns : Nat → Option Fn) (n : Nu) : Prop where
  at_ : fns (n.f 39) = some ⟨4, b_law_pairs n⟩
  dv : dfls (W.npar (n.f 39)) (W.dfl (n.f 39)) = [none]
/-- _law_turned (_law_well_here, _law_pairs_here); slots: 0:_law_well_here 1:_law_pairs_here 2:_law_found 3:_law_one 4:_law_two -/
def b_law_turned (n : Nu) : Ss :=
  (.cons (.asg 2 true (.lst .nil))
  (.cons (.for (.many [3, 4]) .plain (.cons (.cal (n.f 37) (.cons (.lend 0) (.cons (.var 1) (.cons (.blt .len (.cons (.var 1) .nil)) .nil))) .nil [some 0, some 1, some 2]) .nil)
    (.cons (.exp (.bmt .append (.bor 2) (.cons (.ife (.cmp .Eq (.cal (n.f 36) (.cons (.lend 0) (.cons (.con (.int 2)) .nil)) .nil [some 0, some 1]) (.con (.int 0))) (.tup (.cons (.var 3) (.cons (.var 4) .nil))) (.tup (.cons (.var 4) (.cons (.var 3) .nil)))) .nil)))
    .nil))
  (.cons (.ret (.blt .tuple (.cons (.bor 2) .nil)))
  .nil)))
structure H_law_turned (W : Wd) (fns : Nat → Option Fn) (n : Nu) : Prop where
  at_ : fns (n.f 40) = some ⟨5, b_law_turned n⟩
  dv : dfls (W.npar (n.f 40)) (W.dfl (n.f 40)) = [none, none]
  law_picked : H_law_picked W fns n
  law_dip : H_law_dip W fns n
/-- _law_one_of (_law_well_here, _law_some); slots: 0:_law_well_here 1:_law_some -/
def b_law_one_of (n : Nu) : Ss :=
  (.cons (.ret (.idx (.var 1) (.cal (n.f 36) (.cons (.lend 0) (.cons (.blt .len (.cons (.var 1) .nil)) .nil)) .nil [some 0, some 1])))
  .nil)
structure H_law_one_of (W : Wd) (fns : Nat → Option Fn) (n : Nu) : Prop where
  at_ : fns (n.f 41) = some ⟨2, b_law_one_of n⟩
  dv : dfls (W.npar (n.f 41)) (W.dfl (n.f 41)) = [none, none]
  law_dip : H_law_dip W fns n
/-- _law_barred_pairs (_law_well_here, _law_names_here); slots: 0:_law_well_here 1:_law_names_here 2:_law_some 3:_law_size 4:_law_found 5:_law_k 6:_law_chords 7:_law_each -/
def b_law_barred_pairs (n : Nu) : Ss :=
  (.cons (.par [(2, false), (3, false)] (.cons (.cal (n.f 37) (.cons (.lend 0) (.cons (.var 1) (.cons (.blt .len (.cons (.var 1) .nil)) .nil))) .nil [some 0, some 1, some 2]) (.cons (.cal (n.f 41) (.cons (.lend 0) (.cons (.lst (.cons (.con (.int 5)) (.cons (.con (.int 5)) (.cons (.con (.int 5)) (.cons (.blt .min2 (.cons (.con (.int 6)) (.cons (.blt .len (.cons (.var 1) .nil)) .nil))) .nil))))) .nil)) .nil [some 0, some 1]) .nil)))
  (.cons (.asg 4 false (.lc (.one 5) .range1 (.cons (.var 3) .nil) [5] .nop (.tup (.cons (.idx (.var 2) (.var 5)) (.cons (.idx (.var 2) (.bin .Mod (.blt .int (.cons (.bin .Add (.var 5) (.con (.int 1))) .nil)) (.var 3))) .nil)))))
  (.cons (.ife (.cmp .Eq (.var 3) (.con (.int 5)))
    (.cons (.asg 6 false (.lst (.cons (.tup (.cons (.idx (.var 2) (.con (.int 0))) (.cons (.idx (.var 2) (.con (.int 2))) .nil))) (.cons (.tup (.cons (.idx (.var 2) (.con (.int 0))) (.cons (.idx (.var 2) (.con (.int 3))) .nil))) .nil))))
    (.cons (.asg 4 false (.bin .Add (.var 4) (.slc (.var 6) .nop (.cal (n.f 36) (.cons (.lend 0) (.cons (.con (.int 3)) .nil)) .nil [some 0, some 1]))))
    .nil))
    .nil)
  (.cons (.ret (.bin .Add (.var 4) (.lc (.one 7) .plain (.cons (.slc (.var 2) (.var 3) .nop) .nil) [7] (.cmp .Eq (.cal (n.f 36) (.cons (.lend 0) (.cons (.con (.int 2)) .nil)) .nil [some 0, some 1]) (.con (.int 0))) (.tup (.cons (.var 7) (.cons (.idx (.var 2) (.con (.int 0))) .nil))))))
  .nil))))
structure H_law_barred_pairs (W : Wd) (fns : Nat → Option Fn) (n : Nu) : Prop where
  at_ : fns (n.f 42) = some ⟨8, b_law_barred_pairs n⟩
  dv : dfls (W.npar (n.f 42)) (W.dfl (n.f 42)) = [none, none]
  law_picked : H_law_picked W fns n
  law_one_of : H_law_one_of W fns n
  law_dip : H_law_dip W fns n
/-- _law_near (_law_names_here, _law_pairs_here); slots: 0:_law_names_here 1:_law_pairs_here 2:_law_found 3:_law_one 4:_law_two -/
def b_law_near (n : Nu) : Ss :=
  (.cons (.asg 2 true (.dic false .nil))
  (.cons (.for (.one 3) .plain (.cons (.var 0) .nil)
    (.cons (.sto 2 (.var 3) (.lc (.one 4) .plain (.cons (.var 0) .nil) [4] (.or (.cons (.cmp .In (.tup (.cons (.var 3) (.cons (.var 4) .nil))) (.bor 1)) (.cons (.cmp .In (.tup (.cons (.var 4) (.cons (.var 3) .nil))) (.bor 1)) .nil))) (.var 4)))
    .nil))
  (.cons (.ret (.mov 2))
  .nil)))
structure H_law_near (W : Wd) (fns : Nat → Option Fn) (n : Nu) : Prop where
  at_ : fns (n.f 43) = some ⟨5, b_law_near n⟩
  dv : dfls (W.npar (n.f 43)) (W.dfl (n.f 43)) = [none, none]
/-- _law_grown_pairs (_law_well_here, _law_names_here); slots: 0:_law_well_here 1:_law_names_here 2:_law_found 3:_law_k 4:_law_fresh 5:_law_mate_here 6:_law_way 7:_law_near_here 8:_law_each -/
def b_law_grown_pairs (n : Nu) : Ss :=
  (.cons (.asg 2 true (.lst .nil))
  (.cons (.for (.one 3) .range2 (.cons (.con (.int 1)) (.cons (.blt .len (.cons (.var 1) .nil)) .nil))
    (.cons (.par [(4, false), (5, false), (6, false)] (.cons (.idx (.var 1) (.var 3)) (.cons (.idx (.var 1) (.cal (n.f 36) (.cons (.lend 0) (.cons (.var 3) .nil)) .nil [some 0, some 1])) (.cons (.cal (n.f 36) (.cons (.lend 0) (.cons (.con (.int 7)) .nil)) .nil [some 0, some 1]) .nil))))
    (.cons (.asg 7 false (.idx (.cal (n.f 43) (.cons (.slc (.var 1) .nop (.var 3)) (.cons (.lend 2) .nil)) .nil [some 0, some 1]) (.var 5)))
    (.cons (.ife (.and (.cons (.cmp .Gt (.var 6) (.con (.int 0))) (.cons (.or (.cons (.cmp .Lt (.var 6) (.con (.int 3))) (.cons (.cmp .Eq (.var 7) (.lst .nil)) .nil))) .nil)))
      (.cons (.exp (.bmt .append (.bor 2) (.cons (.tup (.cons (.var 5) (.cons (.var 4) .nil))) .nil)))
      .nil)
      .nil)
    (.cons (.ife (.cmp .Gt (.var 6) (.con (.int 2)))
      (.cons (.asg 2 true (.bin .Add (.bor 2) (.lc (.one 8) .plain (.cons (.var 7) .nil) [8] .nop (.tup (.cons (.var 8) (.cons (.var 4) .nil))))))
      (.cons (.ife (.and (.cons (.cmp .Gt (.var 6) (.con (.int 4))) (.cons (.cmp .NotEq (.var 7) (.lst .nil)) .nil)))
        (.cons (.exp (.bmt .append (.bor 2) (.cons (.tup (.cons (.var 5) (.cons (.var 4) .nil))) .nil)))
        .nil)
        .nil)
      .nil))
      .nil)
    .nil)))))
  (.cons (.ret (.mov 2))
  .nil)))
structure H_law_grown_pairs (W : Wd) (fns : Nat → Option Fn) (n : Nu) : Prop where
  at_ : fns (n.f 44) = some ⟨9, b_law_grown_pairs n⟩
  dv : dfls (W.npar (n.f 44)) (W.dfl (n.f 44)) = [none, none]
  law_dip : H_law_dip W fns n
  law_near : H_law_near W fns n
/-- _law_alike (_law_one, _law_two); slots: 0:_law_one 1:_law_two -/
def b_law_alike (n : Nu) : Ss :=
  (.cons (.ret (.or (.cons (.cmp .Eq (.var 0) (.var 1)) (.cons (.cmp .Eq (.var 0) (.rev (.var 1))) .nil))))
  .nil)
structure H_law_alike (W : Wd) (fns : Nat → Option Fn) (n : Nu) : Prop where
  at_ : fns (n.f 45) = some ⟨2, b_law_alike n⟩
  dv : dfls (W.npar (n.f 45)) (W.dfl (n.f 45)) = [none, none]
/-- _law_web (_law_well_here, _law_most); slots: 0:_law_well_here 1:_law_most 2:_law_names_here 3:_law_way 4:_law_every 5:_law_each 6:_law_found 7:_law_bent 8:_law_rest -/
def b_law_web (n : Nu) : Ss :=
  (.cons (.asg 2 false (.cal (n.f 38) (.cons (.lend 0) (.cons (.bin .Add (.con (.int 1)) (.cal (n.f 36) (.cons (.lend 0) (.cons (.var 1) .nil)) .nil [some 0, some 1])) .nil)) .nil [some 0, some 1]))
  (.cons (.par [(3, false), (4, false)] (.cons (.cal (n.f 36) (.cons (.lend 0) (.cons (.con (.int 5)) .nil)) .nil [some 0, some 1]) (.cons (.cal (n.f 39) (.cons (.var 2) .nil) .nil [some 0]) .nil)))
  (.cons (.ife (.or (.cons (.cmp .Eq (.var 3) (.con (.int 0))) (.cons (.cmp .Lt (.blt .len (.cons (.var 2) .nil)) (.con (.int 3))) .nil)))
    (.cons (.ret (.tup (.cons (.var 2) (.cons (.cal (n.f 40) (.cons (.lend 0) (.cons (.lc (.one 5) .plain (.cons (.var 4) .nil) [5] (.cmp .Eq (.cal (n.f 36) (.cons (.lend 0) (.cons (.con (.int 2)) .nil)) .nil [some 0, some 1]) (.con (.int 0))) (.var 5)) .nil)) .nil [some 0, some 1]) .nil))))
    .nil)
    .nil)
  (.cons (.ife (.and (.cons (.cmp .Eq (.var 3) (.con (.int 1))) (.cons (.cmp .Gt (.blt .len (.cons (.var 2) .nil)) (.con (.int 4))) .nil)))
    (.cons (.ret (.tup (.cons (.var 2) (.cons (.cal (n.f 40) (.cons (.lend 0) (.cons (.cal (n.f 42) (.cons (.lend 0) (.cons (.var 2) .nil)) .nil [some 0, some 1]) .nil)) .nil [some 0, some 1]) .nil))))
    .nil)
    .nil)
  (.cons (.asg 6 false (.cal (n.f 44) (.cons (.lend 0) (.cons (.var 2) .nil)) .nil [some 0, some 1]))
  (.cons (.ife (.cmp .Gt (.var 3) (.con (.int 2)))
    (.cons (.asg 7 false (.cal (n.f 41) (.cons (.lend 0) (.cons (.var 4) .nil)) .nil [some 0, some 1]))
    (.cons (.asg 8 false (.lc (.one 5) .plain (.cons (.var 6) .nil) [5] (.not (.cal (n.f 45) (.cons (.var 5) (.cons (.var 7) .nil)) .nil [some 0, some 1])) (.var 5)))
    (.cons (.asg 6 false (.bin .Add (.var 8) (.ife (.cmp .Eq (.blt .len (.cons (.var 8) .nil)) (.blt .len (.cons (.var 6) .nil))) (.lst (.cons (.var 7) .nil)) (.lst .nil))))
    .nil)))
    .nil)
  (.cons (.ret (.tup (.cons (.var 2) (.cons (.cal (n.f 40) (.cons (.lend 0) (.cons (.var 6) .nil)) .nil [some 0, some 1]) .nil))))
  .nil)))))))
structure H_law_web (W : Wd) (fns : Nat → Option Fn) (n : Nu) : Prop where
  at_ : fns (n.f 46) = some ⟨9, b_law_web n⟩
  dv : dfls (W.npar (n.f 46)) (W.dfl (n.f 46)) = [none, none]
  law_names_2 : H_law_names_2 W fns n
  law_dip : H_law_dip W fns n
  law_pairs : H_law_pairs W fns n
  law_turned : H_law_turned W fns n
  law_barred_pairs : H_law_barred_pairs W fns n
  law_grown_pairs : H_law_grown_pairs W fns n
  law_one_of : H_law_one_of W fns n
  law_alike : H_law_alike W fns n
/-- _law_far (_law_near_here, _law_start); slots: 0:_law_near_here 1:_law_start 2:_law_found 3:_law_front 4:_law_turn 5:_law_later 6:_law_one 7:_law_two -/
def b_law_far (n : Nu) : Ss :=
  (.cons (.par [(2, true), (3, false)] (.cons (.dic false (.cons (.var 1) (.cons (.con (.int 0)) .nil))) (.cons (.lst (.cons (.var 1) .nil)) .nil)))
  (.cons (.for (.one 4) .range1 (.cons (.blt .len (.cons (.var 0) .nil)) .nil)
    (.cons (.asg 5 false (.lst .nil))
    (.cons (.for (.one 6) .plain (.cons (.var 3) .nil)
      (.cons (.asg 5 false (.bin .Add (.var 5) (.lc (.one 7) .plain (.cons (.idx (.var 0) (.var 6)) .nil) [7] (.and (.cons (.cmp .NotIn (.var 7) (.bor 2)) (.cons (.cmp .NotIn (.var 7) (.var 5)) .nil))) (.var 7))))
      .nil))
    (.cons (.for (.one 7) .plain (.cons (.var 5) .nil)
      (.cons (.sto 2 (.var 7) (.bin .Add (.var 4) (.con (.int 1))))
      .nil))
    (.cons (.asg 3 false (.var 5))
    .nil)))))
  (.cons (.ret (.mov 2))
  .nil)))
structure H_law_far (W : Wd) (fns : Nat → Option Fn) (n : Nu) : Prop where
  at_ : fns (n.f 47) = some ⟨8, b_law_far n⟩
  dv : dfls (W.npar (n.f 47)) (W.dfl (n.f 47)) = [none, none]
/-- _law_lines (_law_names_here, _law_pairs_here); slots: 0:_law_names_here 1:_law_pairs_here 2:_law_near_here 3:_law_found 4:_law_one 5:_law_far_here 6:_law_two -/
def b_law_lines (n : Nu) : Ss :=
  (.cons (.par [(2, false), (3, true)] (.cons (.cal (n.f 43) (.cons (.var 0) (.cons (.var 1) .nil)) .nil [some 0, some 1]) (.cons (.lst .nil) .nil)))
  (.cons (.for (.one 4) .plain (.cons (.var 0) .nil)
    (.cons (.asg 5 false (.cal (n.f 47) (.cons (.var 2) (.cons (.var 4) .nil)) .nil [some 0, some 1]))
    (.cons (.exp (.bmt .append (.bor 3) (.cons (.blt .tuple (.cons (.lc (.one 6) .plain (.cons (.var 0) .nil) [6] .nop (.ife (.cmp .In (.var 6) (.var 5)) (.idx (.var 5) (.var 6)) (.con .non))) .nil)) .nil)))
    .nil)))
  (.cons (.ret (.blt .tuple (.cons (.bor 3) .nil)))
  .nil)))
structure H_law_lines (W : Wd) (fns : Nat → Option Fn) (n : Nu) : Prop where
  at_ : fns (n.f 48) = some ⟨7, b_law_lines n⟩
  dv : dfls (W.npar (n.f 48)) (W.dfl (n.f 48)) = [none, none]
  law_near : H_law_near W fns n
  law_far : H_law_far W fns n
/-- row_of (web, town); slots: 0:web 1:town 2:known 3:other -/
def b_row_of (n : Nu) : Ss :=
  (.cons (.asg 2 false (.cal (n.f 12) (.cons (.var 0) (.cons (.var 1) .nil)) .nil [some 0, some 1]))
  (.cons (.ret (.blt .tuple (.cons (.lc (.one 3) .plain (.cons (.prp (.var 0) "towns") .nil) [3] .nop (.bmt .get1 (.var 2) (.cons (.var 3) .nil))) .nil)))
  .nil))
structure H_row_of (W : Wd) (fns : Nat → Option Fn) (n : Nu) : Prop where
  at_ : fns (n.f 49) = some ⟨4, b_row_of n⟩
  dv : dfls (W.npar (n.f 49)) (W.dfl (n.f 49)) = [none, none]
  prp_Web_towns : W.prp (n.c 0) "towns" = some (n.f 7)
  distances_from : H_distances_from W fns n
  Web_towns : H_Web_towns W fns n
/-- table_of (web); slots: 0:web 1:town -/
def b_table_of (n : Nu) : Ss :=
  (.cons (.ret (.blt .tuple (.cons (.lc (.one 1) .plain (.cons (.prp (.var 0) "towns") .nil) [1] .nop (.cal (n.f 49) (.cons (.var 0) (.cons (.var 1) .nil)) .nil [some 0, some 1])) .nil)))
  .nil)
structure H_table_of (W : Wd) (fns : Nat → Option Fn) (n : Nu) : Prop where
  at_ : fns (n.f 50) = some ⟨2, b_table_of n⟩
  dv : dfls (W.npar (n.f 50)) (W.dfl (n.f 50)) = [none]
  prp_Web_towns : W.prp (n.c 0) "towns" = some (n.f 7)
  row_of : H_row_of W fns n
  Web_towns : H_Web_towns W fns n
/-- table (web); slots: 0:web -/
def b_table (n : Nu) : Ss :=
  (.cons (.exp (.cal (n.f 6) (.cons (.var 0) .nil) .nil [some 0]))
  (.cons (.ret (.cal (n.f 50) (.cons (.var 0) .nil) .nil [some 0]))
  .nil))
structure H_table (W : Wd) (fns : Nat → Option Fn) (n : Nu) : Prop where
  at_ : fns (n.f 51) = some ⟨1, b_table n⟩
  dv : dfls (W.npar (n.f 51)) (W.dfl (n.f 51)) = [none]
  check_web : H_check_web W fns n
  table_of : H_table_of W fns n
/-- _law_right (_law_well_here); slots: 0:_law_well_here 1:_law_turn 2:_law_names_here 3:_law_pairs_here 4:_law_mine 5:_law_due 6:_law_k 7:_law_spot -/
def b_k33_law_right (n : Nu) : Ss :=
  (.cons (.for (.one 1) .range1 (.cons (.con (.int 4)) .nil)
    (.cons (.unp [.nam 2, .nam 3] (.cal (n.f 46) (.cons (.lend 0) (.cons (.con (.int 10)) .nil)) .nil [some 0, some 1]))
    (.cons (.par [(4, false), (5, false)] (.cons (.mak (n.c 0) (.cons (.var 2) (.cons (.var 3) .nil)) .nil [some 0, some 1, some 2]) (.cons (.cal (n.f 48) (.cons (.var 2) (.cons (.var 3) .nil)) .nil [some 0, some 1]) .nil)))
    (.cons (.ife (.cmp .NotEq (.blt .repr (.cons (.lst (.cons (.cal (n.f 51) (.cons (.var 4) .nil) .nil [some 0]) (.cons (.cal (n.f 51) .nil (.cons (.var 4) .nil) [some 0]) .nil))) .nil)) (.blt .repr (.cons (.lst (.cons (.var 5) (.cons (.var 5) .nil))) .nil)))
      (.cons (.ret (.con (.bl false)))
      .nil)
      .nil)
    (.cons (.for (.one 6) .range1 (.cons (.blt .len (.cons (.var 2) .nil)) .nil)
      (.cons (.asg 7 false (.cal (n.f 36) (.cons (.lend 0) (.cons (.blt .len (.cons (.var 2) .nil)) .nil)) .nil [some 0, some 1]))
      (.cons (.ife (.or (.cons (.cmp .NotEq (.idx (.idx (.var 5) (.var 6)) (.var 6)) (.con (.int 0))) (.cons (.cmp .NotEq (.idx (.idx (.var 5) (.var 6)) (.var 7)) (.idx (.idx (.var 5) (.var 7)) (.var 6))) .nil)))
        (.cons (.ret (.con (.bl false)))
        .nil)
        .nil)
      (.cons (.ife (.cmp .NotEq (.cal (n.f 14) (.cons (.var 4) (.cons (.idx (.var 2) (.var 6)) (.cons (.idx (.var 2) (.var 7)) .nil))) .nil [some 0, some 1, some 2]) (.idx (.idx (.cal (n.f 51) (.cons (.var 4) .nil) .nil [some 0]) (.var 6)) (.var 7)))
        (.cons (.ret (.con (.bl false)))
        .nil)
        .nil)
      .nil))))
    (.cons (.ife (.cmp .NotEq (.prp (.var 4) "ties") (.var 3))
      (.cons (.ret (.con (.bl false)))
      .nil)
      .nil)
    .nil))))))
  (.cons (.ret (.con (.bl true)))
  .nil))
structure H_k33_law_right (W : Wd) (fns : Nat → Option Fn) (n : Nu) : Prop where
  at_ : fns (n.f 52) = some ⟨8, b_k33_law_right n⟩
  dv : dfls (W.npar (n.f 52)) (W.dfl (n.f 52)) = [none]
  ini_Web : W.ini (n.c 0) = some (n.f 21)
  prp_Web_ties : W.prp (n.c 0) "ties" = some (n.f 30)
  law_web : H_law_web W fns n
  law_lines : H_law_lines W fns n
  table : H_table W fns n
  law_dip : H_law_dip W fns n
  distance : H_distance W fns n
  Web___init__ : H_Web___init__ W fns n
  Web_ties : H_Web_ties W fns n
/-- _law_well (_law_cells, _law_turn); slots: 0:_law_cells 1:_law_turn 2:_law_cell 3:_law_stirred 4:_law_each -/
def b_law_well (n : Nu) : Ss :=
  (.cons (.asg 2 false (.ife (.cmp .Lt (.var 1) (.blt .len (.cons (.var 0) .nil))) (.idx (.var 0) (.var 1)) (.bin .Add (.bin .Mult (.con (.int 13)) (.var 1)) (.con (.int 6)))))
  (.cons (.asg 3 false (.bin .Add (.con (.int 50021)) (.bin .Mult (.con (.int 6007)) (.var 1))))
  (.cons (.for (.one 4) .plain (.cons (.bin .Add (.slc (.var 0) .nop (.con (.int 5))) (.lst (.cons (.var 2) .nil))) .nil)
    (.cons (.asg 3 false (.bin .Mod (.blt .int (.cons (.bin .Add (.bin .Add (.bin .Mult (.var 3) (.con (.int 24611))) (.bin .Mult (.var 4) (.con (.int 7)))) (.con (.int 307))) .nil)) (.con (.int 2147483399))))
    .nil))
  (.cons (.ret (.lst (.cons (.ife (.or (.cons (.cmp .Lt (.var 2) (.con (.int 0))) (.cons (.cmp .GtE (.var 2) (.bin .Pow (.con (.int 10)) (.con (.int 18)))) .nil))) (.blt .abs (.cons (.var 2) .nil)) (.con (.int 0))) (.cons (.var 3) (.cons (.con (.int 0)) .nil)))))
  .nil))))
structure H_law_well (W : Wd) (fns : Nat → Option Fn) (n : Nu) : Prop where
  at_ : fns (n.f 53) = some ⟨5, b_law_well n⟩
  dv : dfls (W.npar (n.f 53)) (W.dfl (n.f 53)) = [none, none]
/-- law (_law_cells); slots: 0:_law_cells 1:_law_turn -/
def b_k33_law (n : Nu) : Ss :=
  (.cons (.ret (.blt .all (.cons (.lc (.one 1) .range1 (.cons (.blt .max2 (.cons (.con (.int 2)) (.cons (.blt .min2 (.cons (.blt .len (.cons (.var 0) .nil)) (.cons (.con (.int 5)) .nil))) .nil))) .nil) [1] .nop (.cal (n.f 52) (.cons (.give (.cal (n.f 53) (.cons (.var 0) (.cons (.var 1) .nil)) .nil [some 0, some 1])) .nil) .nil [some 0])) .nil)))
  .nil)
structure H_k33_law (W : Wd) (fns : Nat → Option Fn) (n : Nu) : Prop where
  at_ : fns (n.f 54) = some ⟨2, b_k33_law n⟩
  dv : dfls (W.npar (n.f 54)) (W.dfl (n.f 54)) = [none]
  k33_law_right : H_k33_law_right W fns n
  law_well : H_law_well W fns n
end PV.F
/-! ## plain laws: what can be told by repr -/
namespace PV
open PySem
def okS (m : Nat) (x : Str) : Prop := x.length ≤ m ∧ PyData.strOk x = true
theorem okS.mono {m n : Nat} {x : Str} (h : okS m x) (k : m ≤ n) : okS n x := ⟨Nat.le_trans h.1 k, h.2⟩
theorem okS.app {m n : Nat} {x y : Str} (h : okS m x) (k : okS n y) : okS (m + n) (x ++ y) := by
  have e : (x ++ y).cps = x.cps ++ y.cps := rfl
  refine ⟨?_, ?_⟩
  · have h1 := h.1; have h2 := k.1
    unfold Str.length at *
    rw [e, Array.size_append]; omega
  · have h1 := h.2; have h2 := k.2
    unfold PyData.strOk at *
    rw [e, Array.all_append, h1, h2]; rfl
theorem okS.text {m : Nat} : ∀ (ts : List Str) (k c : Nat) (acc : Str), okS c acc → (∀ t ∈ ts, okS m t) → okS (c + ts.length * (m + 2)) (textFrom k acc ts)
  | [], k, c, acc, h, _ => by simpa [textFrom] using h
  | t :: ts, k, c, acc, h, hs => by
    unfold textFrom
    have h1 : okS (c + 2 + m) (acc ++ (if k > 0 then ", " else "" : String) ++ t) := by
      refine (h.app ?_).app (hs t List.mem_cons_self)
      split
      · exact ⟨by decide +kernel, by decide +kernel⟩
      · exact ⟨by decide +kernel, by decide +kernel⟩
    have := okS.text ts (k + 1) _ _ h1 fun t m => hs t (List.mem_cons_of_mem _ m)
    refine this.mono ?_
    rw [List.length_cons, Nat.add_mul]
    omega
theorem okS.join {m : Nat} : ∀ (ts : List Str), (∀ t ∈ ts, okS m t) → okS (ts.length * (m + 2)) (Str.join ", " ts)
  | [], _ => ⟨by simp [Str.join, Str.length, Str.empty], by decide +kernel⟩
  | [t], hs => by
    show okS _ t
    exact (hs t List.mem_cons_self).mono (by simp)
  | t :: u :: r, hs => by
    show okS _ (t ++ ", " ++ Str.join ", " (u :: r))
    have ih := okS.join (u :: r) fun t m => hs t (List.mem_cons_of_mem _ m)
    refine (((hs t List.mem_cons_self).app (n := 2) ⟨by decide +kernel, by decide +kernel⟩).app ih).mono ?_
    simp only [List.length_cons, Nat.add_mul]
    omega
def Rp (m n : Nat) (d : D) : Prop := ∃ p, toPy d = some p ∧ p.showable = true ∧ p.hasDict = false ∧ p.depth ≤ n ∧ okS m p.shown
def RpL (m n : Nat) (ds : List D) : Prop := ∃ ps, toPys ds = some ps ∧ PyData.showableAll ps = true ∧ PyData.hasDictAll ps = false ∧ PyData.depthAll ps ≤ n ∧ (∀ t ∈ PyData.shownAll ps, okS m t) ∧ (PyData.shownAll ps).length = ds.length
theorem Rp.mono {m n m' n' : Nat} {d : D} (h1 : m ≤ m') (h2 : n ≤ n') : Rp m n d → Rp m' n' d := fun ⟨p, a, b, c, e, f⟩ => ⟨p, a, b, c, Nat.le_trans e h2, f.mono h1⟩
theorem RpL.nil {m n : Nat} : RpL m n [] := ⟨[], rfl, rfl, rfl, by simp [PyData.depthAll], by simp [PyData.shownAll], rfl⟩
theorem RpL.cons {m n : Nat} {d : D} {ds : List D} : Rp m n d → RpL m n ds → RpL m n (d :: ds) := fun ⟨p, a, b, c, e, f⟩ ⟨ps, a', b', c', e', f', g'⟩ =>
  ⟨p :: ps, by simp [toPys, a, a'], by simp [PyData.showableAll, b, b'], by simp [PyData.hasDictAll, c, c'], by simp only [PyData.depthAll]; omega, fun t ht => by
    simp only [PyData.shownAll, List.mem_cons] at ht
    rcases ht with rfl | ht
    · exact f
    · exact f' t ht, by simp [PyData.shownAll, g']⟩
theorem RpL.all {m n : Nat} : ∀ {ds : List D}, (∀ d ∈ ds, Rp m n d) → RpL m n ds
  | [], _ => .nil
  | _ :: _, h => .cons (h _ List.mem_cons_self) (RpL.all fun d m => h d (List.mem_cons_of_mem _ m))
theorem RpL.map {α : Type} {m n : Nat} {f : α → D} {xs : List α} (h : ∀ x ∈ xs, Rp m n (f x)) : RpL m n (xs.map f) := .all fun d hd => by
  obtain ⟨a, ha, rfl⟩ := List.mem_map.mp hd
  exact h a ha
theorem Rp.lst {m n : Nat} {ds : List D} : RpL m n ds → Rp (ds.length * (m + 2) + 2) (n + 1) (.lst ds) := fun ⟨ps, a, b, c, e, f, g⟩ =>
  ⟨.list ps, by simp [toPy, a], by simpa [PyData.showable] using b, by simpa [PyData.hasDict] using c, by simp only [PyData.depth]; omega, by
    simp only [PyData.shown, listText]
    have := (okS.text (PyData.shownAll ps) 0 1 "[" ⟨by decide +kernel, by decide +kernel⟩ f).app (n := 1) (y := "]") ⟨by decide +kernel, by decide +kernel⟩
    rw [g] at this
    exact this.mono (by omega)⟩
theorem Rp.tup {m n : Nat} {ds : List D} : RpL m n ds → Rp (ds.length * (m + 2) + 3) (n + 1) (.tup ds) := fun ⟨ps, a, b, c, e, f, g⟩ =>
  ⟨.tuple ps, by simp [toPy, a], by simpa [PyData.showable] using b, by simpa [PyData.hasDict] using c, by simp only [PyData.depth]; omega, by
    simp only [PyData.shown, tupleText]
    have h1 := okS.join _ f
    rw [g] at h1
    have h2 : okS 2 (if ((PyData.shownAll ps).length == 1) = true then ",)" else ")" : String) := by
      split <;> exact ⟨by decide +kernel, by decide +kernel⟩
    exact ((okS.app (m := 1) (x := "(") ⟨by decide +kernel, by decide +kernel⟩ h1).app h2).mono (by omega)⟩
theorem Rp.non {n : Nat} : Rp 5 n .non := ⟨_, rfl, rfl, rfl, by simp [PyData.depth], ⟨by decide +kernel, by decide +kernel⟩⟩
theorem Rp.bl {n : Nat} {b : Bool} : Rp 5 n (.bl b) := ⟨_, rfl, rfl, rfl, by simp [PyData.depth], by cases b <;> exact ⟨by decide +kernel, by decide +kernel⟩⟩
theorem Rp.nat {n d : Nat} (h : d ≤ 50) : Rp 5 n (.int d) := by
  have key : ∀ d : Fin 51, (PyData.showable (.int (d.val : Int)) = true) ∧ (PyData.shown (.int (d.val : Int))).length ≤ 5 ∧ PyData.strOk (PyData.shown (.int (d.val : Int))) = true := by decide +kernel
  obtain ⟨a, b, c⟩ := key ⟨d, by omega⟩
  exact ⟨.int d, rfl, a, rfl, by simp [PyData.depth], b, c⟩
/-- repr of the same thing twice -/
theorem Rp.same {m n : Nat} {d : D} (h : Rp m n d) (hm : m ≤ 10000000) (hn : n ≤ 16) : ∃ s : Str, bltD .repr [d] = some (.val (.str s)) ∧ cmpF .NotEq (.str s) (.str s) = some (.val (.bl false)) ∧ cmpF .Eq (.str s) (.str s) = some (.val (.bl true)) := by
  obtain ⟨p, a, b, c, e, f⟩ := h
  refine repr_same ?_
  have hs : shownD d = some p.shown := by
    unfold shownD
    rw [a]
    simp only
    rw [if_pos ⟨b, c, by omega, len_ok' (Nat.le_trans f.1 hm)⟩]
  rw [hs]
  exact f.2
end PV
namespace K33
open PySem L2 PV
def top (i : Nat) : Stmt := PySem.Challenge.pw_keptdistances_k33_whole_tables_of_distan.main.body.getD i (.Pass ⟨0, 0, 0, 0⟩)
def inC (i j : Nat) : Stmt := match top i with
  | .ClassDef _ _ _ b _ _ _ _ _ _ _ => b.getD j (.Pass ⟨0, 0, 0, 0⟩)
  | _ => .Pass ⟨0, 0, 0, 0⟩
def nu : Nu := ⟨fun i => (List.lookup i ([(54, 0), (53, 1), (52, 2), (46, 3), (21, 4), (48, 5), (51, 6), (36, 7), (14, 8), (30, 9), (38, 10), (39, 11), (40, 12), (42, 13), (44, 14), (41, 15), (45, 16), (16, 17), (19, 18), (20, 19), (43, 20), (47, 21), (6, 22), (50, 23), (10, 24), (13, 25), (37, 26), (15, 27), (17, 28), (18, 29), (7, 30), (49, 31), (9, 32), (12, 33), (8, 34), (11, 35)] : List (Nat × Nat))).getD 999, fun i => (List.lookup i ([(1, 0), (0, 1)] : List (Nat × Nat))).getD 999, fun i => (List.lookup i ([(0, 0)] : List (Nat × Nat))).getD 999⟩
def d0 : DD := { at_ := .glo "law", name := "law", qual := "law", params := defArgs (top 49), body := defBody (top 49), scope := defScope (top 49), N := ["_law_cells", "_law_turn"], ps := ["_law_cells"], ss := PV.F.b_k33_law nu }
def d1 : DD := { at_ := .glo "_law_well", name := "_law_well", qual := "_law_well", params := defArgs (top 34), body := defBody (top 34), scope := defScope (top 34), N := ["_law_cells", "_law_turn", "_law_cell", "_law_stirred", "_law_each"], ps := ["_law_cells", "_law_turn"], ss := PV.F.b_law_well nu }
def d2 : DD := { at_ := .glo "_law_right", name := "_law_right", qual := "_law_right", params := defArgs (top 48), body := defBody (top 48), scope := defScope (top 48), N := ["_law_well_here", "_law_turn", "_law_names_here", "_law_pairs_here", "_law_mine", "_law_due", "_law_k", "_law_spot"], ps := ["_law_well_here"], ss := PV.F.b_k33_law_right nu }
def d3 : DD := { at_ := .glo "_law_web", name := "_law_web", qual := "_law_web", params := defArgs (top 46), body := defBody (top 46), scope := defScope (top 46), N := ["_law_well_here", "_law_most", "_law_names_here", "_law_way", "_law_every", "_law_each", "_law_found", "_law_bent", "_law_rest"], ps := ["_law_well_here", "_law_most"], ss := PV.F.b_law_web nu }
def d4 : DD := { at_ := .meth "Web" "__init__", name := "__init__", qual := "Web.__init__", params := defArgs (inC 20 0), body := defBody (inC 20 0), scope := defScope (inC 20 0), dfl := [.adr (He.dflAt ("Web", some "__init__") 0)], dd := [.tup []], N := ["self", "towns", "ties"], ps := ["self", "towns", "ties"], ss := PV.F.b_Web___init__ nu }
def d5 : DD := { at_ := .glo "_law_lines", name := "_law_lines", qual := "_law_lines", params := defArgs (top 47), body := defBody (top 47), scope := defScope (top 47), N := ["_law_names_here", "_law_pairs_here", "_law_near_here", "_law_found", "_law_one", "_law_far_here", "_law_two"], ps := ["_law_names_here", "_law_pairs_here"], ss := PV.F.b_law_lines nu }
def d6 : DD := { at_ := .glo "table", name := "table", qual := "table", params := defArgs (top 32), body := defBody (top 32), scope := defScope (top 32), N := ["web"], ps := ["web"], ss := PV.F.b_table nu }
def d7 : DD := { at_ := .glo "_law_dip", name := "_law_dip", qual := "_law_dip", params := defArgs (top 35), body := defBody (top 35), scope := defScope (top 35), N := ["_law_well_here", "_law_sides", "_law_digit", "_law_by"], ps := ["_law_well_here", "_law_sides"], ss := PV.F.b_law_dip nu }
def d8 : DD := { at_ := .glo "distance", name := "distance", qual := "distance", params := defArgs (top 28), body := defBody (top 28), scope := defScope (top 28), N := ["web", "town", "other"], ps := ["web", "town", "other"], ss := PV.F.b_distance nu }
def d9 : DD := { at_ := .getr "Web" "ties", name := "ties", qual := "Web.ties", params := defArgs (inC 20 3), body := defBody (inC 20 3), scope := defScope (inC 20 3), N := ["self"], ps := ["self"], ss := PV.F.b_Web_ties nu }
def d10 : DD := { at_ := .glo "_law_names", name := "_law_names", qual := "_law_names", params := defArgs (top 42), body := defBody (top 42), scope := defScope (top 42), N := ["_law_well_here", "_law_size", "_law_menu"], ps := ["_law_well_here", "_law_size"], ss := PV.F.b_law_names_2 nu }
def d11 : DD := { at_ := .glo "_law_pairs", name := "_law_pairs", qual := "_law_pairs", params := defArgs (top 39), body := defBody (top 39), scope := defScope (top 39), N := ["_law_names_here", "_law_found", "_law_k", "_law_each"], ps := ["_law_names_here"], ss := PV.F.b_law_pairs nu }
def d12 : DD := { at_ := .glo "_law_turned", name := "_law_turned", qual := "_law_turned", params := defArgs (top 43), body := defBody (top 43), scope := defScope (top 43), N := ["_law_well_here", "_law_pairs_here", "_law_found", "_law_one", "_law_two"], ps := ["_law_well_here", "_law_pairs_here"], ss := PV.F.b_law_turned nu }
def d13 : DD := { at_ := .glo "_law_barred_pairs", name := "_law_barred_pairs", qual := "_law_barred_pairs", params := defArgs (top 45), body := defBody (top 45), scope := defScope (top 45), N := ["_law_well_here", "_law_names_here", "_law_some", "_law_size", "_law_found", "_law_k", "_law_chords", "_law_each"], ps := ["_law_well_here", "_law_names_here"], ss := PV.F.b_law_barred_pairs nu }
def d14 : DD := { at_ := .glo "_law_grown_pairs", name := "_law_grown_pairs", qual := "_law_grown_pairs", params := defArgs (top 44), body := defBody (top 44), scope := defScope (top 44), N := ["_law_well_here", "_law_names_here", "_law_found", "_law_k", "_law_fresh", "_law_mate_here", "_law_way", "_law_near_here", "_law_each"], ps := ["_law_well_here", "_law_names_here"], ss := PV.F.b_law_grown_pairs nu }
def d15 : DD := { at_ := .glo "_law_one_of", name := "_law_one_of", qual := "_law_one_of", params := defArgs (top 36), body := defBody (top 36), scope := defScope (top 36), N := ["_law_well_here", "_law_some"], ps := ["_law_well_here", "_law_some"], ss := PV.F.b_law_one_of nu }
def d16 : DD := { at_ := .glo "_law_alike", name := "_law_alike", qual := "_law_alike", params := defArgs (top 38), body := defBody (top 38), scope := defScope (top 38), N := ["_law_one", "_law_two"], ps := ["_law_one", "_law_two"], ss := PV.F.b_law_alike nu }
def d17 : DD := { at_ := .glo "check_towns", name := "check_towns", qual := "check_towns", params := defArgs (top 14), body := defBody (top 14), scope := defScope (top 14), N := ["towns", "index", "town"], ps := ["towns"], ss := PV.F.b_check_towns nu }
def d18 : DD := { at_ := .glo "check_ties", name := "check_ties", qual := "check_ties", params := defArgs (top 17), body := defBody (top 17), scope := defScope (top 17), N := ["towns", "ties", "index", "tie", "other"], ps := ["towns", "ties"], ss := PV.F.b_check_ties nu }
def d19 : DD := { at_ := .glo "sides_of", name := "sides_of", qual := "sides_of", params := defArgs (top 18), body := defBody (top 18), scope := defScope (top 18), N := ["towns", "ties", "known", "one", "other", "town"], ps := ["towns", "ties"], ss := PV.F.b_sides_of nu }
def d20 : DD := { at_ := .glo "_law_near", name := "_law_near", qual := "_law_near", params := defArgs (top 40), body := defBody (top 40), scope := defScope (top 40), N := ["_law_names_here", "_law_pairs_here", "_law_found", "_law_one", "_law_two"], ps := ["_law_names_here", "_law_pairs_here"], ss := PV.F.b_law_near nu }
def d21 : DD := { at_ := .glo "_law_far", name := "_law_far", qual := "_law_far", params := defArgs (top 41), body := defBody (top 41), scope := defScope (top 41), N := ["_law_near_here", "_law_start", "_law_found", "_law_front", "_law_turn", "_law_later", "_law_one", "_law_two"], ps := ["_law_near_here", "_law_start"], ss := PV.F.b_law_far nu }
def d22 : DD := { at_ := .glo "check_web", name := "check_web", qual := "check_web", params := defArgs (top 22), body := defBody (top 22), scope := defScope (top 22), N := ["web"], ps := ["web"], ss := PV.F.b_check_web nu }
def d23 : DD := { at_ := .glo "table_of", name := "table_of", qual := "table_of", params := defArgs (top 31), body := defBody (top 31), scope := defScope (top 31), N := ["web", "town"], ps := ["web"], ss := PV.F.b_table_of nu }
def d24 : DD := { at_ := .glo "check_ends", name := "check_ends", qual := "check_ends", params := defArgs (top 27), body := defBody (top 27), scope := defScope (top 27), N := ["web", "town", "other"], ps := ["web", "town", "other"], ss := PV.F.b_check_ends nu }
def d25 : DD := { at_ := .glo "distance_of", name := "distance_of", qual := "distance_of", params := defArgs (top 26), body := defBody (top 26), scope := defScope (top 26), N := ["web", "town", "other"], ps := ["web", "town", "other"], ss := PV.F.b_distance_of nu }
def d26 : DD := { at_ := .glo "_law_picked", name := "_law_picked", qual := "_law_picked", params := defArgs (top 37), body := defBody (top 37), scope := defScope (top 37), N := ["_law_well_here", "_law_some", "_law_many", "_law_rest", "_law_found", "_law_k", "_law_at"], ps := ["_law_well_here", "_law_some", "_law_many"], ss := PV.F.b_law_picked nu }
def d27 : DD := { at_ := .glo "is_name", name := "is_name", qual := "is_name", params := defArgs (top 12), body := defBody (top 12), scope := defScope (top 12), N := ["value", "sign"], ps := ["value"], ss := PV.F.b_is_name nu }
def d28 : DD := { at_ := .glo "is_pair", name := "is_pair", qual := "is_pair", params := defArgs (top 15), body := defBody (top 15), scope := defScope (top 15), N := ["towns", "value", "town"], ps := ["towns", "value"], ss := PV.F.b_is_pair nu }
def d29 : DD := { at_ := .glo "are_alike", name := "are_alike", qual := "are_alike", params := defArgs (top 16), body := defBody (top 16), scope := defScope (top 16), N := ["tie", "other"], ps := ["tie", "other"], ss := PV.F.b_are_alike nu }
def d30 : DD := { at_ := .getr "Web" "towns", name := "towns", qual := "Web.towns", params := defArgs (inC 20 2), body := defBody (inC 20 2), scope := defScope (inC 20 2), N := ["self"], ps := ["self"], ss := PV.F.b_Web_towns nu }
def d31 : DD := { at_ := .glo "row_of", name := "row_of", qual := "row_of", params := defArgs (top 30), body := defBody (top 30), scope := defScope (top 30), N := ["web", "town", "known", "other"], ps := ["web", "town"], ss := PV.F.b_row_of nu }
def d32 : DD := { at_ := .glo "check_town", name := "check_town", qual := "check_town", params := defArgs (top 23), body := defBody (top 23), scope := defScope (top 23), N := ["web", "value"], ps := ["web", "value"], ss := PV.F.b_check_town nu }
def d33 : DD := { at_ := .glo "distances_from", name := "distances_from", qual := "distances_from", params := defArgs (top 25), body := defBody (top 25), scope := defScope (top 25), N := ["web", "town", "found", "front", "later", "here", "other"], ps := ["web", "town"], ss := PV.F.b_distances_from nu }
def d34 : DD := { at_ := .glo "has_town", name := "has_town", qual := "has_town", params := defArgs (top 21), body := defBody (top 21), scope := defScope (top 21), N := ["web", "value"], ps := ["web", "value"], ss := PV.F.b_has_town nu }
def d35 : DD := { at_ := .getr "Web" "near", name := "near", qual := "Web.near", params := defArgs (inC 20 4), body := defBody (inC 20 4), scope := defScope (inC 20 4), N := ["self"], ps := ["self"], ss := PV.F.b_Web_near nu }
def law : LawD := { defs := [d0, d1, d2, d3, d4, d5, d6, d7, d8, d9, d10, d11, d12, d13, d14, d15, d16, d17, d18, d19, d20, d21, d22, d23, d24, d25, d26, d27, d28, d29, d30, d31, d32, d33, d34, d35], gl := ([("law", .fn 0), ("_law_well", .fn 1), ("_law_right", .fn 2), ("_law_web", .fn 3), ("_law_lines", .fn 5), ("table", .fn 6), ("_law_dip", .fn 7), ("distance", .fn 8), ("_law_names", .fn 10), ("_law_pairs", .fn 11), ("_law_turned", .fn 12), ("_law_barred_pairs", .fn 13), ("_law_grown_pairs", .fn 14), ("_law_one_of", .fn 15), ("_law_alike", .fn 16), ("check_towns", .fn 17), ("check_ties", .fn 18), ("sides_of", .fn 19), ("_law_near", .fn 20), ("_law_far", .fn 21)] : List (Str × GK)) ++ ([("check_web", .fn 22), ("table_of", .fn 23), ("check_ends", .fn 24), ("distance_of", .fn 25), ("_law_picked", .fn 26), ("is_name", .fn 27), ("is_pair", .fn 28), ("are_alike", .fn 29), ("row_of", .fn 31), ("check_town", .fn 32), ("distances_from", .fn 33), ("has_town", .fn 34), ("Web", .cls 0), ("MOST_TOWNS", .con 0), ("LETTERS", .con 1)] : List (Str × GK)), shs := ([(1, 2, [], [some 0, some 1]), (10, 2, [], [some 0, some 1]), (11, 1, [], [some 0]), (12, 2, [], [some 0, some 1]), (13, 2, [], [some 0, some 1]), (14, 2, [], [some 0, some 1]), (15, 2, [], [some 0, some 1]), (16, 2, [], [some 0, some 1]), (17, 1, [], [some 0]), (18, 2, [], [some 0, some 1]), (19, 2, [], [some 0, some 1]), (2, 1, [], [some 0]), (20, 2, [], [some 0, some 1]), (21, 2, [], [some 0, some 1]), (22, 1, [], [some 0]), (23, 1, [], [some 0]), (24, 3, [], [some 0, some 1, some 2]), (25, 3, [], [some 0, some 1, some 2]), (26, 3, [], [some 0, some 1, some 2]), (27, 1, [], [some 0])] : List (Nat × Nat × List Str × List (Option Nat))) ++ ([(28, 2, [], [some 0, some 1]), (29, 2, [], [some 0, some 1]), (3, 2, [], [some 0, some 1]), (31, 2, [], [some 0, some 1]), (32, 2, [], [some 0, some 1]), (33, 2, [], [some 0, some 1]), (34, 2, [], [some 0, some 1]), (5, 2, [], [some 0, some 1]), (6, 0, ["web"], [some 0]), (6, 1, [], [some 0]), (7, 2, [], [some 0, some 1]), (8, 3, [], [some 0, some 1, some 2])] : List (Nat × Nat × List Str × List (Option Nat))), shm := [], shk := [(0, 2, [], [some 0, some 1, some 2])], mths := [], prps := [(0, "ties", 9), (0, "towns", 30), (0, "near", 35)], inis := [(0, 4)], fls := [(0, "knots"), (0, "sides"), (0, "spots")], cls := ["Web"], glos := [.int 10, .str "abcdefghijklmnopqrstuvwxyz"] }
theorem H_law_dip : PV.F.H_law_dip law.wd law.fns nu := ⟨by first | rfl | decide, by first | rfl | decide⟩
theorem H_law_picked : PV.F.H_law_picked law.wd law.fns nu := ⟨by first | rfl | decide, by first | rfl | decide, H_law_dip⟩
theorem H_law_names_2 : PV.F.H_law_names_2 law.wd law.fns nu := ⟨by first | rfl | decide, by first | rfl | decide, H_law_picked⟩
theorem H_law_pairs : PV.F.H_law_pairs law.wd law.fns nu := ⟨by first | rfl | decide, by first | rfl | decide⟩
theorem H_law_turned : PV.F.H_law_turned law.wd law.fns nu := ⟨by first | rfl | decide, by first | rfl | decide, H_law_picked, H_law_dip⟩
theorem H_law_one_of : PV.F.H_law_one_of law.wd law.fns nu := ⟨by first | rfl | decide, by first | rfl | decide, H_law_dip⟩
theorem H_law_barred_pairs : PV.F.H_law_barred_pairs law.wd law.fns nu := ⟨by first | rfl | decide, by first | rfl | decide, H_law_picked, H_law_one_of, H_law_dip⟩
theorem H_law_near : PV.F.H_law_near law.wd law.fns nu := ⟨by first | rfl | decide, by first | rfl | decide⟩
theorem H_law_grown_pairs : PV.F.H_law_grown_pairs law.wd law.fns nu := ⟨by first | rfl | decide, by first | rfl | decide, H_law_dip, H_law_near⟩
theorem H_law_alike : PV.F.H_law_alike law.wd law.fns nu := ⟨by first | rfl | decide, by first | rfl | decide⟩
theorem H_law_web : PV.F.H_law_web law.wd law.fns nu := ⟨by first | rfl | decide, by first | rfl | decide, H_law_names_2, H_law_dip, H_law_pairs, H_law_turned, H_law_barred_pairs, H_law_grown_pairs, H_law_one_of, H_law_alike⟩
theorem H_law_far : PV.F.H_law_far law.wd law.fns nu := ⟨by first | rfl | decide, by first | rfl | decide⟩
theorem H_law_lines : PV.F.H_law_lines law.wd law.fns nu := ⟨by first | rfl | decide, by first | rfl | decide, H_law_near, H_law_far⟩
theorem H_check_web : PV.F.H_check_web law.wd law.fns nu := ⟨by first | rfl | decide, by first | rfl | decide, by first | rfl | decide⟩
theorem H_Web_near : PV.F.H_Web_near law.wd law.fns nu := ⟨by first | rfl | decide, by first | rfl | decide, by first | rfl | decide⟩
theorem H_distances_from : PV.F.H_distances_from law.wd law.fns nu := ⟨by first | rfl | decide, by first | rfl | decide, by first | rfl | decide, H_Web_near⟩
theorem H_Web_towns : PV.F.H_Web_towns law.wd law.fns nu := ⟨by first | rfl | decide, by first | rfl | decide, by first | rfl | decide⟩
theorem H_row_of : PV.F.H_row_of law.wd law.fns nu := ⟨by first | rfl | decide, by first | rfl | decide, by first | rfl | decide, H_distances_from, H_Web_towns⟩
theorem H_table_of : PV.F.H_table_of law.wd law.fns nu := ⟨by first | rfl | decide, by first | rfl | decide, by first | rfl | decide, H_row_of, H_Web_towns⟩
theorem H_table : PV.F.H_table law.wd law.fns nu := ⟨by first | rfl | decide, by first | rfl | decide, H_check_web, H_table_of⟩
theorem H_has_town : PV.F.H_has_town law.wd law.fns nu := ⟨by first | rfl | decide, by first | rfl | decide, by first | rfl | decide, H_Web_towns⟩
theorem H_check_town : PV.F.H_check_town law.wd law.fns nu := ⟨by first | rfl | decide, by first | rfl | decide, H_has_town⟩
theorem H_check_ends : PV.F.H_check_ends law.wd law.fns nu := ⟨by first | rfl | decide, by first | rfl | decide, H_check_web, H_check_town⟩
theorem H_distance_of : PV.F.H_distance_of law.wd law.fns nu := ⟨by first | rfl | decide, by first | rfl | decide, H_distances_from⟩
theorem H_distance : PV.F.H_distance law.wd law.fns nu := ⟨by first | rfl | decide, by first | rfl | decide, H_check_ends, H_distance_of⟩
theorem H_is_name : PV.F.H_is_name law.wd law.fns nu := ⟨by first | rfl | decide, by first | rfl | decide, by first | rfl | decide⟩
theorem H_check_towns : PV.F.H_check_towns law.wd law.fns nu := ⟨by first | rfl | decide, by first | rfl | decide, by first | rfl | decide, H_is_name⟩
theorem H_is_pair : PV.F.H_is_pair law.wd law.fns nu := ⟨by first | rfl | decide, by first | rfl | decide⟩
theorem H_are_alike : PV.F.H_are_alike law.wd law.fns nu := ⟨by first | rfl | decide, by first | rfl | decide⟩
theorem H_check_ties : PV.F.H_check_ties law.wd law.fns nu := ⟨by first | rfl | decide, by first | rfl | decide, H_is_pair, H_are_alike⟩
theorem H_sides_of : PV.F.H_sides_of law.wd law.fns nu := ⟨by first | rfl | decide, by first | rfl | decide⟩
theorem H_Web___init__ : PV.F.H_Web___init__ law.wd law.fns nu := ⟨by first | rfl | decide, by first | rfl | decide, by first | rfl | decide, by first | rfl | decide, by first | rfl | decide, H_check_towns, H_check_ties, H_sides_of⟩
theorem H_Web_ties : PV.F.H_Web_ties law.wd law.fns nu := ⟨by first | rfl | decide, by first | rfl | decide, by first | rfl | decide⟩
theorem H_k33_law_right : PV.F.H_k33_law_right law.wd law.fns nu := ⟨by first | rfl | decide, by first | rfl | decide, by first | rfl | decide, by first | rfl | decide, H_law_web, H_law_lines, H_table, H_law_dip, H_distance, H_Web___init__, H_Web_ties⟩
theorem H_law_well : PV.F.H_law_well law.wd law.fns nu := ⟨by first | rfl | decide, by first | rfl | decide⟩
theorem H_k33_law : PV.F.H_k33_law law.wd law.fns nu := ⟨by first | rfl | decide, by first | rfl | decide, H_k33_law_right, H_law_well⟩
end K33

namespace K33
open PySem PySem.Spec PyProof.Rows L2 PV
abbrev RO : PySem.W.OpenRow := PySem.W.OpenLaw.row PySem.Challenge.rw_keptdistances_k33_whole_tables_of_distan
theorem chk : law.chk = true := by kernel_rfl
theorem sh0 : ShAt law 1 2 [] [some 0, some 1] := sh_plain d1 rfl rfl rfl (by decide) fun kV doc pp an cdv ct us ws h1 h2 => match us, ws, h1, h2 with
  | [u0, u1], [], _, _ => rfl
theorem sh1 : ShAt law 10 2 [] [some 0, some 1] := sh_plain d10 rfl rfl rfl (by decide) fun kV doc pp an cdv ct us ws h1 h2 => match us, ws, h1, h2 with
  | [u0, u1], [], _, _ => rfl
theorem sh2 : ShAt law 11 1 [] [some 0] := sh_plain d11 rfl rfl rfl (by decide) fun kV doc pp an cdv ct us ws h1 h2 => match us, ws, h1, h2 with
  | [u0], [], _, _ => rfl
theorem sh3 : ShAt law 12 2 [] [some 0, some 1] := sh_plain d12 rfl rfl rfl (by decide) fun kV doc pp an cdv ct us ws h1 h2 => match us, ws, h1, h2 with
  | [u0, u1], [], _, _ => rfl
theorem sh4 : ShAt law 13 2 [] [some 0, some 1] := sh_plain d13 rfl rfl rfl (by decide) fun kV doc pp an cdv ct us ws h1 h2 => match us, ws, h1, h2 with
  | [u0, u1], [], _, _ => rfl
theorem sh5 : ShAt law 14 2 [] [some 0, some 1] := sh_plain d14 rfl rfl rfl (by decide) fun kV doc pp an cdv ct us ws h1 h2 => match us, ws, h1, h2 with
  | [u0, u1], [], _, _ => rfl
theorem sh6 : ShAt law 15 2 [] [some 0, some 1] := sh_plain d15 rfl rfl rfl (by decide) fun kV doc pp an cdv ct us ws h1 h2 => match us, ws, h1, h2 with
  | [u0, u1], [], _, _ => rfl
theorem sh7 : ShAt law 16 2 [] [some 0, some 1] := sh_plain d16 rfl rfl rfl (by decide) fun kV doc pp an cdv ct us ws h1 h2 => match us, ws, h1, h2 with
  | [u0, u1], [], _, _ => rfl
theorem sh8 : ShAt law 17 1 [] [some 0] := sh_plain d17 rfl rfl rfl (by decide) fun kV doc pp an cdv ct us ws h1 h2 => match us, ws, h1, h2 with
  | [u0], [], _, _ => rfl
theorem sh9 : ShAt law 18 2 [] [some 0, some 1] := sh_plain d18 rfl rfl rfl (by decide) fun kV doc pp an cdv ct us ws h1 h2 => match us, ws, h1, h2 with
  | [u0, u1], [], _, _ => rfl
theorem sh10 : ShAt law 19 2 [] [some 0, some 1] := sh_plain d19 rfl rfl rfl (by decide) fun kV doc pp an cdv ct us ws h1 h2 => match us, ws, h1, h2 with
  | [u0, u1], [], _, _ => rfl
theorem sh11 : ShAt law 2 1 [] [some 0] := sh_plain d2 rfl rfl rfl (by decide) fun kV doc pp an cdv ct us ws h1 h2 => match us, ws, h1, h2 with
  | [u0], [], _, _ => rfl
theorem sh12 : ShAt law 20 2 [] [some 0, some 1] := sh_plain d20 rfl rfl rfl (by decide) fun kV doc pp an cdv ct us ws h1 h2 => match us, ws, h1, h2 with
  | [u0, u1], [], _, _ => rfl
theorem sh13 : ShAt law 21 2 [] [some 0, some 1] := sh_plain d21 rfl rfl rfl (by decide) fun kV doc pp an cdv ct us ws h1 h2 => match us, ws, h1, h2 with
  | [u0, u1], [], _, _ => rfl
theorem sh14 : ShAt law 22 1 [] [some 0] := sh_plain d22 rfl rfl rfl (by decide) fun kV doc pp an cdv ct us ws h1 h2 => match us, ws, h1, h2 with
  | [u0], [], _, _ => rfl
theorem sh15 : ShAt law 23 1 [] [some 0] := sh_plain d23 rfl rfl rfl (by decide) fun kV doc pp an cdv ct us ws h1 h2 => match us, ws, h1, h2 with
  | [u0], [], _, _ => rfl
theorem sh16 : ShAt law 24 3 [] [some 0, some 1, some 2] := sh_plain d24 rfl rfl rfl (by decide) fun kV doc pp an cdv ct us ws h1 h2 => match us, ws, h1, h2 with
  | [u0, u1, u2], [], _, _ => rfl
theorem sh17 : ShAt law 25 3 [] [some 0, some 1, some 2] := sh_plain d25 rfl rfl rfl (by decide) fun kV doc pp an cdv ct us ws h1 h2 => match us, ws, h1, h2 with
  | [u0, u1, u2], [], _, _ => rfl
theorem sh18 : ShAt law 26 3 [] [some 0, some 1, some 2] := sh_plain d26 rfl rfl rfl (by decide) fun kV doc pp an cdv ct us ws h1 h2 => match us, ws, h1, h2 with
  | [u0, u1, u2], [], _, _ => rfl
theorem sh19 : ShAt law 27 1 [] [some 0] := sh_plain d27 rfl rfl rfl (by decide) fun kV doc pp an cdv ct us ws h1 h2 => match us, ws, h1, h2 with
  | [u0], [], _, _ => rfl
theorem sh20 : ShAt law 28 2 [] [some 0, some 1] := sh_plain d28 rfl rfl rfl (by decide) fun kV doc pp an cdv ct us ws h1 h2 => match us, ws, h1, h2 with
  | [u0, u1], [], _, _ => rfl
theorem sh21 : ShAt law 29 2 [] [some 0, some 1] := sh_plain d29 rfl rfl rfl (by decide) fun kV doc pp an cdv ct us ws h1 h2 => match us, ws, h1, h2 with
  | [u0, u1], [], _, _ => rfl
theorem sh22 : ShAt law 3 2 [] [some 0, some 1] := sh_plain d3 rfl rfl rfl (by decide) fun kV doc pp an cdv ct us ws h1 h2 => match us, ws, h1, h2 with
  | [u0, u1], [], _, _ => rfl
theorem sh23 : ShAt law 31 2 [] [some 0, some 1] := sh_plain d31 rfl rfl rfl (by decide) fun kV doc pp an cdv ct us ws h1 h2 => match us, ws, h1, h2 with
  | [u0, u1], [], _, _ => rfl
theorem sh24 : ShAt law 32 2 [] [some 0, some 1] := sh_plain d32 rfl rfl rfl (by decide) fun kV doc pp an cdv ct us ws h1 h2 => match us, ws, h1, h2 with
  | [u0, u1], [], _, _ => rfl
theorem sh25 : ShAt law 33 2 [] [some 0, some 1] := sh_plain d33 rfl rfl rfl (by decide) fun kV doc pp an cdv ct us ws h1 h2 => match us, ws, h1, h2 with
  | [u0, u1], [], _, _ => rfl
theorem sh26 : ShAt law 34 2 [] [some 0, some 1] := sh_plain d34 rfl rfl rfl (by decide) fun kV doc pp an cdv ct us ws h1 h2 => match us, ws, h1, h2 with
  | [u0, u1], [], _, _ => rfl
theorem sh27 : ShAt law 5 2 [] [some 0, some 1] := sh_plain d5 rfl rfl rfl (by decide) fun kV doc pp an cdv ct us ws h1 h2 => match us, ws, h1, h2 with
  | [u0, u1], [], _, _ => rfl
theorem sh28 : ShAt law 6 0 ["web"] [some 0] := sh_plain d6 rfl rfl rfl (by decide) fun kV doc pp an cdv ct us ws h1 h2 => match us, ws, h1, h2 with
  | [], [w0], _, _ => rfl
theorem sh29 : ShAt law 6 1 [] [some 0] := sh_plain d6 rfl rfl rfl (by decide) fun kV doc pp an cdv ct us ws h1 h2 => match us, ws, h1, h2 with
  | [u0], [], _, _ => rfl
theorem sh30 : ShAt law 7 2 [] [some 0, some 1] := sh_plain d7 rfl rfl rfl (by decide) fun kV doc pp an cdv ct us ws h1 h2 => match us, ws, h1, h2 with
  | [u0, u1], [], _, _ => rfl
theorem sh31 : ShAt law 8 3 [] [some 0, some 1, some 2] := sh_plain d8 rfl rfl rfl (by decide) fun kV doc pp an cdv ct us ws h1 h2 => match us, ws, h1, h2 with
  | [u0, u1, u2], [], _, _ => rfl
theorem sh32 : ShAt law 4 3 [] [some 0, some 1, some 2] := sh_dfl d4 rfl (by intro z; cases z) (by decide) (by decide) fun T kV doc pp an cdv ct us ws its h1 h2 h3 => match us, ws, its, h1, h2, h3 with
  | [u0, u1, u2], [], [i0], _, _, _ => ⟨_, rfl, rfl⟩
theorem sh33 : ShAt law 9 1 [] [some 0] := sh_plain d9 rfl rfl rfl (by decide) fun kV doc pp an cdv ct us ws h1 h2 => match us, ws, h1, h2 with
  | [u0], [], _, _ => rfl
theorem sh34 : ShAt law 30 1 [] [some 0] := sh_plain d30 rfl rfl rfl (by decide) fun kV doc pp an cdv ct us ws h1 h2 => match us, ws, h1, h2 with
  | [u0], [], _, _ => rfl
theorem sh35 : ShAt law 35 1 [] [some 0] := sh_plain d35 rfl rfl rfl (by decide) fun kV doc pp an cdv ct us ws h1 h2 => match us, ws, h1, h2 with
  | [u0], [], _, _ => rfl
theorem shapes_eq : law.shapes = ([(1, 2, [], [some 0, some 1]), (10, 2, [], [some 0, some 1]), (11, 1, [], [some 0]), (12, 2, [], [some 0, some 1]), (13, 2, [], [some 0, some 1]), (14, 2, [], [some 0, some 1]), (15, 2, [], [some 0, some 1]), (16, 2, [], [some 0, some 1]), (17, 1, [], [some 0]), (18, 2, [], [some 0, some 1]), (19, 2, [], [some 0, some 1]), (2, 1, [], [some 0]), (20, 2, [], [some 0, some 1]), (21, 2, [], [some 0, some 1]), (22, 1, [], [some 0]), (23, 1, [], [some 0]), (24, 3, [], [some 0, some 1, some 2]), (25, 3, [], [some 0, some 1, some 2]), (26, 3, [], [some 0, some 1, some 2]), (27, 1, [], [some 0])] : List (Nat × Nat × List PySem.Str × List (Option Nat))) ++ ([(28, 2, [], [some 0, some 1]), (29, 2, [], [some 0, some 1]), (3, 2, [], [some 0, some 1]), (31, 2, [], [some 0, some 1]), (32, 2, [], [some 0, some 1]), (33, 2, [], [some 0, some 1]), (34, 2, [], [some 0, some 1]), (5, 2, [], [some 0, some 1]), (6, 0, ["web"], [some 0]), (6, 1, [], [some 0]), (7, 2, [], [some 0, some 1]), (8, 3, [], [some 0, some 1, some 2]), (4, 3, [], [some 0, some 1, some 2]), (9, 1, [], [some 0]), (30, 1, [], [some 0]), (35, 1, [], [some 0])] : List (Nat × Nat × List PySem.Str × List (Option Nat))) := by kernel_rfl
theorem hsh : ∀ s ∈ law.shapes, ShAt law s.1 s.2.1 s.2.2.1 s.2.2.2 := by
  rw [shapes_eq]
  repeat rw [List.forall_mem_append]
  exact ⟨(List.forall_mem_cons.mpr ⟨sh0, (List.forall_mem_cons.mpr ⟨sh1, (List.forall_mem_cons.mpr ⟨sh2, (List.forall_mem_cons.mpr ⟨sh3, (List.forall_mem_cons.mpr ⟨sh4, (List.forall_mem_cons.mpr ⟨sh5, (List.forall_mem_cons.mpr ⟨sh6, (List.forall_mem_cons.mpr ⟨sh7, (List.forall_mem_cons.mpr ⟨sh8, (List.forall_mem_cons.mpr ⟨sh9, (List.forall_mem_cons.mpr ⟨sh10, (List.forall_mem_cons.mpr ⟨sh11, (List.forall_mem_cons.mpr ⟨sh12, (List.forall_mem_cons.mpr ⟨sh13, (List.forall_mem_cons.mpr ⟨sh14, (List.forall_mem_cons.mpr ⟨sh15, (List.forall_mem_cons.mpr ⟨sh16, (List.forall_mem_cons.mpr ⟨sh17, (List.forall_mem_cons.mpr ⟨sh18, (List.forall_mem_cons.mpr ⟨sh19, (List.forall_mem_nil _)⟩)⟩)⟩)⟩)⟩)⟩)⟩)⟩)⟩)⟩)⟩)⟩)⟩)⟩)⟩)⟩)⟩)⟩)⟩)⟩), (List.forall_mem_cons.mpr ⟨sh20, (List.forall_mem_cons.mpr ⟨sh21, (List.forall_mem_cons.mpr ⟨sh22, (List.forall_mem_cons.mpr ⟨sh23, (List.forall_mem_cons.mpr ⟨sh24, (List.forall_mem_cons.mpr ⟨sh25, (List.forall_mem_cons.mpr ⟨sh26, (List.forall_mem_cons.mpr ⟨sh27, (List.forall_mem_cons.mpr ⟨sh28, (List.forall_mem_cons.mpr ⟨sh29, (List.forall_mem_cons.mpr ⟨sh30, (List.forall_mem_cons.mpr ⟨sh31, (List.forall_mem_cons.mpr ⟨sh32, (List.forall_mem_cons.mpr ⟨sh33, (List.forall_mem_cons.mpr ⟨sh34, (List.forall_mem_cons.mpr ⟨sh35, (List.forall_mem_nil _)⟩)⟩)⟩)⟩)⟩)⟩)⟩)⟩)⟩)⟩)⟩)⟩)⟩)⟩)⟩)⟩)⟩
end K33
namespace K33
open PySem PySem.Spec PyProof.Rows L2 PV
theorem run (w : World) : HandSHeadRun.RunEq RO (PySem.W.view RO.prog [49]) (law.hook 6) (law.ob 6) 60000 ((["_wall", "__name__", "NotRight", "InvalidText", "NotAWeb", "InvalidTowns", "InvalidTies", "NotThere", "UnknownTown", "MOST_TOWNS", "LETTERS", "is_name", "check_towns", "is_pair", "are_alike", "check_ties", "sides_of", "read_web", "Web", "has_town", "check_web", "check_town", "distances_from", "distance_of", "check_ends", "distance", "row_of", "table_of", "table", "_law_well"] : List PySem.Str) ++ (["_law_dip", "_law_one_of", "_law_picked", "_law_alike", "_law_pairs", "_law_near", "_law_far", "_law_names", "_law_turned", "_law_grown_pairs", "_law_barred_pairs", "_law_web", "_law_lines", "_law_right"] : List PySem.Str)) w := by
  intro os
  kernel_rfl
end K33
namespace PV
open PySem PV.F
/-! ## draws -/
local macro_rules | `(tactic| bv_omega) => `(tactic| (repeat' (first
  | ((with_reducible apply tgE)
     first
     | ((with_reducible apply wp_var); · rfl)
     | (with_reducible apply wp_con)
     | ((with_reducible apply wp_borV); · rfl)
     | ((with_reducible apply wp_borO); · rfl)
     | (with_reducible apply wp_cal)
     | (with_reducible apply wp_bin)
     | (with_reducible apply wp_cmp)
     | (with_reducible apply wp_idx)
     | (with_reducible apply wp_prp)
     | (with_reducible apply wp_blt)
     | (with_reducible apply wp_bmt)
     | (with_reducible apply wp_or)
     | (with_reducible apply wp_and)
     | ((with_reducible apply wp_lc0)
        · (bv_omega; apply And.intro rfl; apply src1 rfl; first | ((with_reducible apply tgTp); first | exact src_pT _ | exact src_pL _ | exact src_pF _ | exact src_pS _) | ((with_reducible apply tgTe); first | exact src_eT _ | exact src_eL _) | ((with_reducible apply tgT1); first | exact src_range (by omega) (by omega) | exact src_range (by simp only [List.length_map]; omega) (by simp only [List.length_map]; omega)))
        · first | rfl | exact map1 _ _ | exact map2 _ _ _ | exact map3 _ _ _ _
        · rfl
        · (intro _ _; rfl)
        · (intro _ _; rfl)
        · (intro _ _; rfl)
        · rfl
        · (intro _ _; bv_omega; all_goals first | exact ⟨rfl, rfl⟩ | rfl)
        · (first | (simp; done) | (simp; omega) | omega))
     | ((with_reducible apply wp_lc)
        · (bv_omega; apply And.intro rfl; apply src1 rfl; first | ((with_reducible apply tgTp); first | exact src_pT _ | exact src_pL _ | exact src_pF _ | exact src_pS _) | ((with_reducible apply tgTe); first | exact src_eT _ | exact src_eL _) | ((with_reducible apply tgT1); first | exact src_range (by omega) (by omega) | exact src_range (by simp only [List.length_map]; omega) (by simp only [List.length_map]; omega)))
        · first | rfl | exact map1 _ _ | exact map2 _ _ _ | exact map3 _ _ _ _
        · rfl
        · (intro _ _; rfl)
        · (intro _ _; rfl)
        · (intro _ _; rfl)
        · rfl
        · (intro _ _; refine wp_cond1 rfl ?_; bv_omega; all_goals first | exact ⟨rfl, rfl⟩ | rfl)
        · (intro _ _ _; bv_omega; all_goals first | exact ⟨rfl, rfl⟩ | rfl)
        · (first | (simp; done) | (simp; omega) | omega))
     | ((with_reducible apply wp_dc0)
        · (bv_omega; apply And.intro rfl; apply src1 rfl; first | ((with_reducible apply tgTp); first | exact src_pT _ | exact src_pL _ | exact src_pF _ | exact src_pS _) | ((with_reducible apply tgTe); first | exact src_eT _ | exact src_eL _) | ((with_reducible apply tgT1); first | exact src_range (by omega) (by omega) | exact src_range (by simp only [List.length_map]; omega) (by simp only [List.length_map]; omega)))
        · first | rfl | exact map1 _ _ | exact map2 _ _ _ | exact map3 _ _ _ _
        · rfl
        · assumption
        · (intro _ _; rfl)
        · (intro _ _; rfl)
        · (intro _ _; rfl)
        · rfl
        · (intro _ _; bv_omega; all_goals first | exact ⟨rfl, rfl⟩ | rfl)
        · (intro _ _; bv_omega; all_goals first | exact ⟨rfl, rfl⟩ | rfl)
        · infer_instance
        · (intro _ _; rfl)
        · (first | (simp; done) | (simp; omega) | omega))
     | ((with_reducible apply wp_mak); · assumption)
     | (with_reducible apply wp_tup)
     | (with_reducible apply wp_lst)
     | (with_reducible apply wp_not)
     | (with_reducible apply wp_neg)
     | (with_reducible apply wp_ifeE)
     | (with_reducible apply wp_isi)
     | (with_reducible apply wp_fld)
     | (with_reducible apply wp_slc)
     | (with_reducible apply wp_rev)
     | (with_reducible apply wp_mth)
     | (with_reducible apply wp_chn)
     | (with_reducible apply wp_dic)
     | (with_reducible apply wp_give)
     | ((with_reducible apply wp_lend); · rfl)
     | ((with_reducible apply wp_frzO); · rfl)
     | ((with_reducible apply wp_frzV); · rfl)
     | ((with_reducible apply wp_movO); · rfl)
     | ((with_reducible apply wp_movV); · rfl)
     | ((with_reducible apply wp_glo); · assumption))
  | ((with_reducible apply tgEs)
     first
     | (with_reducible apply wp_cons)
     | (with_reducible apply wp_nil)
     | (with_reducible apply wp_star))
  | ((with_reducible apply tgS)
     first
     | (with_reducible apply ws_asg)
     | (with_reducible apply ws_exp)
     | (with_reducible apply ws_ife)
     | (with_reducible apply ws_ret)
     | (with_reducible apply ws_sto)
     | (with_reducible apply ws_par)
     | (with_reducible apply ws_unp)
     | (with_reducible apply ws_for)
     | (with_reducible apply ws_whl)
     | (with_reducible apply ws_att)
     | (with_reducible apply ws_retN)
     | (with_reducible apply ws_pas)
     | (with_reducible apply ws_brk)
     | (with_reducible apply ws_cnt))
  | (with_reducible apply ws_cons)
  | (with_reducible apply ws_nil)
  | ((with_reducible apply nx_next); try simp only [List.set_cons_zero, List.set_cons_succ, Int.reduceToNat, Int.toNat_one, Int.toNat_zero])
  | (with_reducible apply nx_ret)
  | ((with_reducible apply wp_or2); rotate_left; intro _; rotate_right)
  | ((with_reducible apply wp_and2); rotate_left; intro _; rotate_right)
  | (with_reducible apply wp_or1)
  | (with_reducible apply wp_and1)
  | ((with_reducible apply tgPb); unfold Pb)
  | ((with_reducible apply tgPq); exact ⟨rfl, rfl⟩)
  | ((with_reducible apply tgK); get_elem_tactic_extensible)
  | ((with_reducible apply tgM); get_elem_tactic_extensible)
  | ((with_reducible apply tgFl); first | refine wp_fldR rfl (by assumption) (lk_spots _ _ _) ?_ | refine wp_fldR rfl (by assumption) (lk_knots _ _ _) ?_ | refine wp_fldR rfl (by assumption) (lk_sides _ _ _) ?_)
  | ((with_reducible apply tgP); refine wp_prpR rfl (by assumption) ?_)
  | (with_reducible apply nx_cnt)
  | (with_reducible apply nx_brk)
  | (with_reducible apply lpk_next)
  | (with_reducible apply lpk_ret)
  | (with_reducible apply lpk_cnt)
  | (with_reducible apply lpk_brk)
  | ((with_reducible apply ck_v); · rfl)
  | ((with_reducible apply ck_f); · rfl)
  | ((with_reducible apply ck_v1)
     · rfl
     · rfl)
  | ((with_reducible apply ck_f1)
     · rfl
     · rfl)
  | ((with_reducible apply end_next); · rfl)
  | ((with_reducible apply end_ret0); · rfl)
  | ((with_reducible apply mk_v); · rfl)
  | ((with_reducible apply tgR)
     first
     | (refine wp_rd2 rfl rfl (wo_lone _) ?_)
     | (refine wp_rd2 rfl rfl (wo_leaf _) ?_)
     | (refine wp_rd2 rfl rfl (wo_pair _) ?_)
     | (refine wp_rd2 rfl rfl (wo_nin _) ?_)
     | (refine wp_rd2 rfl rfl (c_eqL1 _ _) ?_)
     | (refine wp_rd2 rfl rfl (c_eqI _ _) ?_)
     | (refine wp_rd2 rfl rfl (c_neI _ _) ?_)
     | (refine wp_rd2 rfl rfl (b_add _ _) ?_)
     | (refine wp_rd2 rfl rfl (b_sub _ _) ?_)
     | (refine wp_rd2 rfl rfl (b_addL (by first | (simp; done) | (simp; omega) | omega)) ?_)
     | (refine wp_rd2 rfl rfl (b_addT (by first | (simp; done) | (simp; omega) | omega)) ?_)
     | (refine wp_rd2 rfl rfl (c_inN _ _) ?_)
     | (refine wp_rd2 rfl rfl (c_ninN _ _) ?_)
     | (refine wp_rd2 rfl rfl (c_inK' _ _ _) ?_)
     | (refine wp_rd2 rfl rfl (c_inKL _ _ _) ?_)
     | (refine wp_rd2 rfl rfl (c_inT _ _) ?_)
     | (refine wp_rd2 rfl rfl (c_in2 _ _ _) ?_)
     | (refine wp_rd2 rfl rfl (c_inL _ _) ?_)
     | (refine wp_rd2 rfl rfl (c_inD _ _ rfl) ?_)
     | (refine wp_rd2 rfl rfl (c_inD (f := tie) (_, _) _ rfl) ?_)
     | (refine wp_rd2 rfl rfl (c_ninD _ _ rfl) ?_)
     | (refine wp_rd2 rfl rfl (c_ninT _ _) ?_)
     | (refine wp_rd2 rfl rfl (c_ninL _ _) ?_)
     | (refine wp_rd2 rfl rfl (c_eqT0 _) ?_)
     | (refine wp_rd2 rfl rfl (c_neT0 _) ?_)
     | (refine wp_rd2 rfl rfl (c_eqL0 _) ?_)
     | (refine wp_rd2 rfl rfl (c_neL0 _) ?_)
     | (refine wp_rd2 rfl rfl (c_eqL (f := nm) _ _) ?_)
     | (refine wp_rd2 rfl rfl (c_neL (f := nm) _ _) ?_)
     | (refine wp_rd2 rfl rfl (eq_dct0 _) ?_)
     | (refine wp_rd2 rfl rfl (ne_dct0 _) ?_)
     | (refine wp_rd2 rfl rfl (c_eq _ _) ?_)
     | (refine wp_rd2 rfl rfl (c_ne _ _) ?_)
     | (refine wp_rd2 rfl rfl (b_mod (by omega)) ?_)
     | (refine wp_rd2 rfl rfl (b_div (by omega) (by omega)) ?_)
     | (refine wp_rd2 rfl rfl (b_mulL (by omega) (by omega)) ?_)
     | (refine wp_rd2 rfl rfl (b_mulR (by omega) (by omega)) ?_)
     | (refine wp_rd2 rfl rfl (c_neB _ _) ?_)
     | (refine wp_rd2 rfl rfl (c_eqB _ _) ?_)
     | (refine wp_rd2 rfl rfl (c_lt _ _) ?_)
     | (refine wp_rd2 rfl rfl (c_le _ _) ?_)
     | (refine wp_rd2 rfl rfl (c_gt _ _) ?_)
     | (refine wp_rd2 rfl rfl (c_ge _ _) ?_)
     | (refine wp_rd2 rfl rfl (c_is _) ?_)
     | (refine wp_rd2 rfl rfl (c_isn _) ?_)
     | (refine wp_rd2 rfl rfl rfl ?_))
  | (with_reducible apply ws_asgV)
  | (with_reducible apply ws_asgF)
  | (with_reducible apply ws_asgO)
  | (with_reducible apply ws_asgW)
  | (with_reducible apply ws_retV)
  | (with_reducible apply ws_retF)
  | (with_reducible apply ws_par0)
  | (with_reducible apply ws_par1)
  | (with_reducible apply ws_unp0)
  | (with_reducible apply ws_unpN)
  | (with_reducible apply ws_unpS)
  | ((with_reducible apply ws_sub); · rfl)
  | (with_reducible apply wp_dic0)
  | ((with_reducible apply tgDi); refine wp_dic1 rfl rfl rfl ?_)
  | ((with_reducible apply wp_tst))
  | ((refine wp_tupR rfl ?_ ?_); · simp only [List.length_cons, List.length_nil]; decide)
  | ((refine wp_lstR rfl ?_ ?_); · simp only [List.length_cons, List.length_nil]; decide)
  | (with_reducible apply wp_part0)
  | ((with_reducible apply wp_part1); · rfl)
  | ((with_reducible apply tgI); first | refine wp_idxR rfl rfl (idx_0M (by assumption)) ?_ | refine wp_idxR rfl rfl (idx_1M (by assumption)) ?_ | refine wp_idxR rfl rfl (idx_2M (by assumption)) ?_ | refine wp_idxR rfl rfl (idx_3M (by assumption)) ?_ | refine wp_idxR rfl rfl (idx_atM (by assumption)) ?_ | refine wp_idxR rfl rfl (idx_lastM (by assumption)) ?_ | refine wp_idxR rfl rfl (idx_atL (by assumption)) ?_ | refine wp_idxR rfl rfl (idx_near (by assumption) (by assumption)) ?_ | refine wp_idxR rfl rfl (idx_sides (by assumption) (by assumption)) ?_ | refine wp_idxR rfl rfl (idx_0L (by assumption)) ?_ | refine wp_idxR rfl rfl rfl ?_)
  | ((with_reducible apply tgAll); refine wp_bltR rfl (blt_all _ _) ?_)
  | ((with_reducible apply tgAny); refine wp_bltR rfl (blt_any _ _) ?_)
  | ((with_reducible apply tgBl); refine wp_bltR rfl (blt_lenN _) ?_)
  | ((with_reducible apply tgBl); refine wp_bltR rfl rfl ?_)
  | ((with_reducible apply tgD); refine wp_bltR rfl (b_dvm (by omega) (by omega)) ?_)
  | ((with_reducible apply tgC); first | (refine wp_isiR rfl (isi_own (by assumption)) ?_) | (refine wp_isiR rfl rfl ?_))
  | ((with_reducible apply tgL); first | refine wp_slcR rfl (slc_pre _ _ _) ?_ | refine wp_slcR rfl (slc_drop1 _ _ _) ?_ | refine wp_slcR rfl (slc_drop2 _ _ _) ?_ | refine wp_slcR rfl (slc_take _ _ _) ?_ | refine wp_slcR rfl (slc_drop _ _ _) ?_ | refine wp_slcR rfl (slc_init _ _) ?_ | refine wp_slcR rfl (slcL_drop1 _ _ _) ?_ | refine wp_slcR rfl (slcL_take _ _ _) ?_ | refine wp_slcR rfl (slcL_drop _ _ _) ?_ | refine wp_slcR rfl rfl ?_)
  | ((with_reducible apply tgCh)
     apply wp_chnP rfl
     · (bv_omega; all_goals first | exact ⟨rfl, rfl⟩ | rfl)
     · rfl)
  | ((with_reducible apply tg1); first | refine wp_rd1 rfl (rev_tie _) ?_ | refine wp_rd1 rfl rfl ?_)
  | ((with_reducible apply tgO); refine ws_stoR rfl rfl ?_)
  | ((with_reducible apply tgA); refine wp_append rfl rfl (by simp; omega) ?_)
  | ((with_reducible apply tgXm); refine Exists.intro _ (And.intro (mthG_ok rfl rfl (by assumption)) ?_))
  | ((with_reducible apply tgSp); refine Exists.intro _ (And.intro (src1 rfl (by first | exact src_pT _ | exact src_pL _ | exact src_pF _ | exact src_pS _)) ?_))
  | ((with_reducible apply tgSe); refine Exists.intro _ (And.intro (src1 rfl (by first | exact src_eT _ | exact src_eL _)) ?_))
  | ((with_reducible apply tgS1); refine Exists.intro _ (And.intro (src1 rfl (by first | exact src_range (by omega) (by omega) | exact src_range (by simp only [List.length_map]; omega) (by simp only [List.length_map]; omega))) ?_))
  | ((with_reducible apply tgXb); refine Exists.intro _ (And.intro rfl ?_))
  | ((with_reducible apply tgXi); refine Exists.intro _ (And.intro rfl ?_))
  | ((with_reducible apply tgXt); refine Exists.intro _ (And.intro rfl ?_))
  | ((with_reducible apply tgXr); refine Exists.intro _ (And.intro rfl ?_))
  | ((with_reducible apply tgXf); refine Exists.intro _ (And.intro rfl ?_))
  | ((with_reducible apply tgXs); refine Exists.intro _ (And.intro rfl ?_))
  | ((with_reducible apply tgBm); refine And.intro rfl ?_)
  | ((with_reducible apply tgRs); refine And.intro rfl ?_)
  | ((with_reducible apply tgLn); refine And.intro rfl ?_)
  | fail
  )))
local macro_rules | `(tactic| symm_saturate) => `(tactic| (repeat' (first
  | ((with_reducible apply tgE)
     first
     | ((with_reducible apply wp_var); · rfl)
     | (with_reducible apply wp_con)
     | ((with_reducible apply wp_borV); · rfl)
     | ((with_reducible apply wp_borO); · rfl)
     | (with_reducible apply wp_cal)
     | (with_reducible apply wp_bin)
     | (with_reducible apply wp_cmp)
     | (with_reducible apply wp_idx)
     | (with_reducible apply wp_prp)
     | (with_reducible apply wp_blt)
     | (with_reducible apply wp_bmt)
     | ((with_reducible apply wp_lc0)
        · (bv_omega; apply And.intro rfl; apply src1 rfl; first | ((with_reducible apply tgTp); first | exact src_pT _ | exact src_pL _ | exact src_pF _ | exact src_pS _) | ((with_reducible apply tgTe); first | exact src_eT _ | exact src_eL _) | ((with_reducible apply tgT1); first | exact src_range (by omega) (by omega) | exact src_range (by simp only [List.length_map]; omega) (by simp only [List.length_map]; omega)))
        · first | rfl | exact map1 _ _ | exact map2 _ _ _ | exact map3 _ _ _ _
        · rfl
        · (intro _ _; rfl)
        · (intro _ _; rfl)
        · (intro _ _; rfl)
        · rfl
        · (intro _ _; bv_omega; all_goals first | exact ⟨rfl, rfl⟩ | rfl)
        · (first | (simp; done) | (simp; omega) | omega))
     | ((with_reducible apply wp_lc)
        · (bv_omega; apply And.intro rfl; apply src1 rfl; first | ((with_reducible apply tgTp); first | exact src_pT _ | exact src_pL _ | exact src_pF _ | exact src_pS _) | ((with_reducible apply tgTe); first | exact src_eT _ | exact src_eL _) | ((with_reducible apply tgT1); first | exact src_range (by omega) (by omega) | exact src_range (by simp only [List.length_map]; omega) (by simp only [List.length_map]; omega)))
        · first | rfl | exact map1 _ _ | exact map2 _ _ _ | exact map3 _ _ _ _
        · rfl
        · (intro _ _; rfl)
        · (intro _ _; rfl)
        · (intro _ _; rfl)
        · rfl
        · (intro _ _; refine wp_cond1 rfl ?_; bv_omega; all_goals first | exact ⟨rfl, rfl⟩ | rfl)
        · (intro _ _ _; bv_omega; all_goals first | exact ⟨rfl, rfl⟩ | rfl)
        · (first | (simp; done) | (simp; omega) | omega))
     | ((with_reducible apply wp_dc0)
        · (bv_omega; apply And.intro rfl; apply src1 rfl; first | ((with_reducible apply tgTp); first | exact src_pT _ | exact src_pL _ | exact src_pF _ | exact src_pS _) | ((with_reducible apply tgTe); first | exact src_eT _ | exact src_eL _) | ((with_reducible apply tgT1); first | exact src_range (by omega) (by omega) | exact src_range (by simp only [List.length_map]; omega) (by simp only [List.length_map]; omega)))
        · first | rfl | exact map1 _ _ | exact map2 _ _ _ | exact map3 _ _ _ _
        · rfl
        · assumption
        · (intro _ _; rfl)
        · (intro _ _; rfl)
        · (intro _ _; rfl)
        · rfl
        · (intro _ _; bv_omega; all_goals first | exact ⟨rfl, rfl⟩ | rfl)
        · (intro _ _; bv_omega; all_goals first | exact ⟨rfl, rfl⟩ | rfl)
        · infer_instance
        · (intro _ _; rfl)
        · (first | (simp; done) | (simp; omega) | omega))
     | ((with_reducible apply wp_mak); · assumption)
     | (with_reducible apply wp_tup)
     | (with_reducible apply wp_lst)
     | (with_reducible apply wp_not)
     | (with_reducible apply wp_neg)
     | (with_reducible apply wp_ifeE)
     | (with_reducible apply wp_isi)
     | (with_reducible apply wp_fld)
     | (with_reducible apply wp_slc)
     | (with_reducible apply wp_rev)
     | (with_reducible apply wp_mth)
     | (with_reducible apply wp_chn)
     | (with_reducible apply wp_dic)
     | (with_reducible apply wp_give)
     | ((with_reducible apply wp_lend); · rfl)
     | ((with_reducible apply wp_frzO); · rfl)
     | ((with_reducible apply wp_frzV); · rfl)
     | ((with_reducible apply wp_movO); · rfl)
     | ((with_reducible apply wp_movV); · rfl)
     | ((with_reducible apply wp_glo); · assumption))
  | ((with_reducible apply tgEs)
     first
     | (with_reducible apply wp_cons)
     | (with_reducible apply wp_nil)
     | (with_reducible apply wp_star))
  | ((with_reducible apply tgS)
     first
     | (with_reducible apply ws_asg)
     | (with_reducible apply ws_exp)
     | (with_reducible apply ws_ife)
     | (with_reducible apply ws_ret)
     | (with_reducible apply ws_sto)
     | (with_reducible apply ws_par)
     | (with_reducible apply ws_unp)
     | (with_reducible apply ws_for)
     | (with_reducible apply ws_whl)
     | (with_reducible apply ws_att)
     | (with_reducible apply ws_retN)
     | (with_reducible apply ws_pas)
     | (with_reducible apply ws_brk)
     | (with_reducible apply ws_cnt))
  | (with_reducible apply ws_cons)
  | (with_reducible apply ws_nil)
  | ((with_reducible apply nx_next); try simp only [List.set_cons_zero, List.set_cons_succ, Int.reduceToNat, Int.toNat_one, Int.toNat_zero])
  | (with_reducible apply nx_ret)
  | ((with_reducible apply wp_or2); rotate_left; intro _; rotate_right)
  | ((with_reducible apply wp_and2); rotate_left; intro _; rotate_right)
  | (with_reducible apply wp_or1)
  | (with_reducible apply wp_and1)
  | ((with_reducible apply tgPb); unfold Pb)
  | ((with_reducible apply tgPq); exact ⟨rfl, rfl⟩)
  | ((with_reducible apply tgK); get_elem_tactic_extensible)
  | ((with_reducible apply tgM); get_elem_tactic_extensible)
  | ((with_reducible apply tgFl); first | refine wp_fldR rfl (by assumption) (lk_spots _ _ _) ?_ | refine wp_fldR rfl (by assumption) (lk_knots _ _ _) ?_ | refine wp_fldR rfl (by assumption) (lk_sides _ _ _) ?_)
  | ((with_reducible apply tgP); refine wp_prpR rfl (by assumption) ?_)
  | (with_reducible apply nx_cnt)
  | (with_reducible apply nx_brk)
  | (with_reducible apply lpk_next)
  | (with_reducible apply lpk_ret)
  | (with_reducible apply lpk_cnt)
  | (with_reducible apply lpk_brk)
  | ((with_reducible apply ck_v); · rfl)
  | ((with_reducible apply ck_f); · rfl)
  | ((with_reducible apply ck_v1)
     · rfl
     · rfl)
  | ((with_reducible apply ck_f1)
     · rfl
     · rfl)
  | ((with_reducible apply end_next); · rfl)
  | ((with_reducible apply end_ret0); · rfl)
  | ((with_reducible apply mk_v); · rfl)
  | ((with_reducible apply tgR)
     first
     | (refine wp_rd2 rfl rfl (wo_lone _) ?_)
     | (refine wp_rd2 rfl rfl (wo_leaf _) ?_)
     | (refine wp_rd2 rfl rfl (wo_pair _) ?_)
     | (refine wp_rd2 rfl rfl (wo_nin _) ?_)
     | (refine wp_rd2 rfl rfl (c_eqL1 _ _) ?_)
     | (refine wp_rd2 rfl rfl (c_eqI _ _) ?_)
     | (refine wp_rd2 rfl rfl (c_neI _ _) ?_)
     | (refine wp_rd2 rfl rfl (b_add _ _) ?_)
     | (refine wp_rd2 rfl rfl (b_sub _ _) ?_)
     | (refine wp_rd2 rfl rfl (b_addL (by first | (simp; done) | (simp; omega) | omega)) ?_)
     | (refine wp_rd2 rfl rfl (b_addT (by first | (simp; done) | (simp; omega) | omega)) ?_)
     | (refine wp_rd2 rfl rfl (c_inN _ _) ?_)
     | (refine wp_rd2 rfl rfl (c_ninN _ _) ?_)
     | (refine wp_rd2 rfl rfl (c_inK' _ _ _) ?_)
     | (refine wp_rd2 rfl rfl (c_inKL _ _ _) ?_)
     | (refine wp_rd2 rfl rfl (c_inT _ _) ?_)
     | (refine wp_rd2 rfl rfl (c_in2 _ _ _) ?_)
     | (refine wp_rd2 rfl rfl (c_inL _ _) ?_)
     | (refine wp_rd2 rfl rfl (c_inD _ _ rfl) ?_)
     | (refine wp_rd2 rfl rfl (c_inD (f := tie) (_, _) _ rfl) ?_)
     | (refine wp_rd2 rfl rfl (c_ninD _ _ rfl) ?_)
     | (refine wp_rd2 rfl rfl (c_ninT _ _) ?_)
     | (refine wp_rd2 rfl rfl (c_ninL _ _) ?_)
     | (refine wp_rd2 rfl rfl (c_eqT0 _) ?_)
     | (refine wp_rd2 rfl rfl (c_neT0 _) ?_)
     | (refine wp_rd2 rfl rfl (c_eqL0 _) ?_)
     | (refine wp_rd2 rfl rfl (c_neL0 _) ?_)
     | (refine wp_rd2 rfl rfl (c_eqL (f := nm) _ _) ?_)
     | (refine wp_rd2 rfl rfl (c_neL (f := nm) _ _) ?_)
     | (refine wp_rd2 rfl rfl (eq_dct0 _) ?_)
     | (refine wp_rd2 rfl rfl (ne_dct0 _) ?_)
     | (refine wp_rd2 rfl rfl (c_eq _ _) ?_)
     | (refine wp_rd2 rfl rfl (c_ne _ _) ?_)
     | (refine wp_rd2 rfl rfl (b_mod (by omega)) ?_)
     | (refine wp_rd2 rfl rfl (b_div (by omega) (by omega)) ?_)
     | (refine wp_rd2 rfl rfl (b_mulL (by omega) (by omega)) ?_)
     | (refine wp_rd2 rfl rfl (b_mulR (by omega) (by omega)) ?_)
     | (refine wp_rd2 rfl rfl (c_neB _ _) ?_)
     | (refine wp_rd2 rfl rfl (c_eqB _ _) ?_)
     | (refine wp_rd2 rfl rfl (c_lt _ _) ?_)
     | (refine wp_rd2 rfl rfl (c_le _ _) ?_)
     | (refine wp_rd2 rfl rfl (c_gt _ _) ?_)
     | (refine wp_rd2 rfl rfl (c_ge _ _) ?_)
     | (refine wp_rd2 rfl rfl (c_is _) ?_)
     | (refine wp_rd2 rfl rfl (c_isn _) ?_)
     | (refine wp_rd2 rfl rfl rfl ?_))
  | (with_reducible apply ws_asgV)
  | (with_reducible apply ws_asgF)
  | (with_reducible apply ws_asgO)
  | (with_reducible apply ws_asgW)
  | (with_reducible apply ws_retV)
  | (with_reducible apply ws_retF)
  | (with_reducible apply ws_par0)
  | (with_reducible apply ws_par1)
  | (with_reducible apply ws_unp0)
  | (with_reducible apply ws_unpN)
  | (with_reducible apply ws_unpS)
  | ((with_reducible apply ws_sub); · rfl)
  | (with_reducible apply wp_dic0)
  | ((with_reducible apply tgDi); refine wp_dic1 rfl rfl rfl ?_)
  | ((with_reducible apply wp_tst))
  | ((refine wp_tupR rfl ?_ ?_); · simp only [List.length_cons, List.length_nil]; decide)
  | ((refine wp_lstR rfl ?_ ?_); · simp only [List.length_cons, List.length_nil]; decide)
  | (with_reducible apply wp_part0)
  | ((with_reducible apply wp_part1); · rfl)
  | ((with_reducible apply tgI); first | refine wp_idxR rfl rfl (idx_0M (by assumption)) ?_ | refine wp_idxR rfl rfl (idx_1M (by assumption)) ?_ | refine wp_idxR rfl rfl (idx_2M (by assumption)) ?_ | refine wp_idxR rfl rfl (idx_3M (by assumption)) ?_ | refine wp_idxR rfl rfl (idx_atM (by assumption)) ?_ | refine wp_idxR rfl rfl (idx_lastM (by assumption)) ?_ | refine wp_idxR rfl rfl (idx_atL (by assumption)) ?_ | refine wp_idxR rfl rfl (idx_near (by assumption) (by assumption)) ?_ | refine wp_idxR rfl rfl (idx_sides (by assumption) (by assumption)) ?_ | refine wp_idxR rfl rfl (idx_0L (by assumption)) ?_ | refine wp_idxR rfl rfl rfl ?_)
  | ((with_reducible apply tgAll); refine wp_bltR rfl (blt_all _ _) ?_)
  | ((with_reducible apply tgAny); refine wp_bltR rfl (blt_any _ _) ?_)
  | ((with_reducible apply tgBl); refine wp_bltR rfl (blt_lenN _) ?_)
  | ((with_reducible apply tgBl); refine wp_bltR rfl rfl ?_)
  | ((with_reducible apply tgD); refine wp_bltR rfl (b_dvm (by omega) (by omega)) ?_)
  | ((with_reducible apply tgC); first | (refine wp_isiR rfl (isi_own (by assumption)) ?_) | (refine wp_isiR rfl rfl ?_))
  | ((with_reducible apply tgL); first | refine wp_slcR rfl (slc_pre _ _ _) ?_ | refine wp_slcR rfl (slc_drop1 _ _ _) ?_ | refine wp_slcR rfl (slc_drop2 _ _ _) ?_ | refine wp_slcR rfl (slc_take _ _ _) ?_ | refine wp_slcR rfl (slc_drop _ _ _) ?_ | refine wp_slcR rfl (slc_init _ _) ?_ | refine wp_slcR rfl (slcL_drop1 _ _ _) ?_ | refine wp_slcR rfl (slcL_take _ _ _) ?_ | refine wp_slcR rfl (slcL_drop _ _ _) ?_ | refine wp_slcR rfl rfl ?_)
  | ((with_reducible apply tgCh)
     apply wp_chnP rfl
     · (bv_omega; all_goals first | exact ⟨rfl, rfl⟩ | rfl)
     · rfl)
  | ((with_reducible apply tg1); first | refine wp_rd1 rfl (rev_tie _) ?_ | refine wp_rd1 rfl rfl ?_)
  | ((with_reducible apply tgO); refine ws_stoR rfl rfl ?_)
  | ((with_reducible apply tgA); refine wp_append rfl rfl (by simp; omega) ?_)
  | ((with_reducible apply tgXm); refine Exists.intro _ (And.intro (mthG_ok rfl rfl (by assumption)) ?_))
  | ((with_reducible apply tgSp); refine Exists.intro _ (And.intro (src1 rfl (by first | exact src_pT _ | exact src_pL _ | exact src_pF _ | exact src_pS _)) ?_))
  | ((with_reducible apply tgSe); refine Exists.intro _ (And.intro (src1 rfl (by first | exact src_eT _ | exact src_eL _)) ?_))
  | ((with_reducible apply tgS1); refine Exists.intro _ (And.intro (src1 rfl (by first | exact src_range (by omega) (by omega) | exact src_range (by simp only [List.length_map]; omega) (by simp only [List.length_map]; omega))) ?_))
  | ((with_reducible apply tgXb); refine Exists.intro _ (And.intro rfl ?_))
  | ((with_reducible apply tgXi); refine Exists.intro _ (And.intro rfl ?_))
  | ((with_reducible apply tgXt); refine Exists.intro _ (And.intro rfl ?_))
  | ((with_reducible apply tgXr); refine Exists.intro _ (And.intro rfl ?_))
  | ((with_reducible apply tgXf); refine Exists.intro _ (And.intro rfl ?_))
  | ((with_reducible apply tgXs); refine Exists.intro _ (And.intro rfl ?_))
  | ((with_reducible apply tgBm); refine And.intro rfl ?_)
  | ((with_reducible apply tgRs); refine And.intro rfl ?_)
  | ((with_reducible apply tgLn); refine And.intro rfl ?_)
  | fail
  )))
section
variable {W : Wd} {fns : Nat → Option Fn} {n : Nu} {k : Nat} {P : Res → Prop}
/-- a pool: where draws come from -/
def pool (a b c : Int) : D := .lst [.int a, .int b, .int c]
theorem s_sip (H : H_law_sip W fns n) (hk : 1 ≤ k) (a b c t : Int) (h0 : 0 < t) (h1 : t < 1073741824) (hP : ∀ a' b' c' r, 0 ≤ r → r < t → P (.ok (.int r) false [pool a' b' c'])) : P (runF W fns k (n.f 0) [.own (some 0) (pool a b c), .val (.int t)]) := by
  refine run_post H.at_ hk ?_
  show Wp (exs W (runF W fns (k - 1)) (b_law_sip n) [.own (some 0) (pool a b c), .val (.int t), .dead, .dead, .dead]) _ _
  unfold b_law_sip
  unfold pool
  bv_omega
  refine wp_if (fun hc => ?_) fun hc => ?_
  · bv_omega
    exact hP _ _ _ _ (Int.emod_nonneg _ (by omega)) (Int.emod_lt_of_pos _ h0)
  · bv_omega
    exact hP _ _ _ _ (Int.emod_nonneg _ (by omega)) (Int.emod_lt_of_pos _ h0)
local macro_rules | `(tactic| get_elem_tactic_extensible) => `(tactic| (refine wp_callK (H_law_sip.dv (by assumption)) rfl (by decide) (s_sip (by assumption) (by omega) _ _ _ _ (by first | omega | (simp only [List.length_map, List.length_append, List.length_cons, List.length_nil]; omega)) (by first | omega | (simp only [List.length_map, List.length_append, List.length_cons, List.length_nil]; omega)) (fun a' b' c' r h0 h1 => ?_))))
/-- the menu of names -/
def menu : List Nm := [⟨"a", by decide +kernel, by decide +kernel⟩, ⟨"b", by decide +kernel, by decide +kernel⟩, ⟨"c", by decide +kernel, by decide +kernel⟩, ⟨"d", by decide +kernel, by decide +kernel⟩, ⟨"e", by decide +kernel, by decide +kernel⟩, ⟨"q", by decide +kernel, by decide +kernel⟩, ⟨"zz", by decide +kernel, by decide +kernel⟩, ⟨"town", by decide +kernel, by decide +kernel⟩, ⟨"abcdefgh", by decide +kernel, by decide +kernel⟩, ⟨"m", by decide +kernel, by decide +kernel⟩, ⟨"x", by decide +kernel, by decide +kernel⟩]
theorem menu_nd : menu.Nodup := by decide +kernel
theorem s_names (H : H_law_names W fns n) (hk : 2 ≤ k) (a b c m : Int) (h0 : 0 ≤ m) (h1 : m ≤ 11) (hP : ∀ a' b' c' (ts : List Nm), ts.Nodup → ts.length = m.toNat → P (.ok (nms ts) false [pool a' b' c'])) : P (runF W fns k (n.f 1) [.own (some 0) (pool a b c), .val (.int m)]) := by
  refine run_post H.at_ (by omega) ?_
  cases H
  show Wp (exs W (runF W fns (k - 1)) (b_law_names n) [.own (some 0) (pool a b c), .val (.int m), .dead, .dead, .dead]) _ _
  unfold b_law_names
  bv_omega
  refine wp_forR (fun i e => ∃ a b c l f s, l.length + i = 11 ∧ f.length = i ∧ (f ++ l).Nodup ∧ e = [.own (some 0) (pool a b c), .val (.int m), .own none (.lst (l.map nm)), .own none (.lst (f.map nm)), s]) ⟨a, b, c, menu, [], _, rfl, rfl, menu_nd, rfl⟩ ?_ ?_
  · rintro i hi e ⟨a, b, c, l, f, s, h1, h2, h3, rfl⟩
    refine ⟨_, rfl, ?_⟩
    bv_omega

    rename_i a' b' c' r hr0 hr1
    simp only [List.length_map] at hr1
    obtain ⟨x, hx⟩ : ∃ x, l[r.toNat]? = some x := ⟨_, List.getElem?_eq_getElem (by omega)⟩
    refine wp_pop1 rfl rfl hr0 (by omega) (d := nm x) (by rw [List.getElem?_map, hx]; rfl) ?_
    bv_omega
    rw [erase_map]
    refine ⟨a', b', c', l.eraseIdx r.toNat, f ++ [x], .val (.int i), ?_, by simp [h2], ?_, by simp⟩
    · rw [List.length_eraseIdx, if_pos (by omega)]; omega
    · have hl : r.toNat < l.length := by omega
      have e1 : l = l.take r.toNat ++ x :: l.drop (r.toNat + 1) := by
        rw [List.getElem?_eq_getElem hl] at hx
        cases hx
        simp
      have e2 : l.eraseIdx r.toNat = l.take r.toNat ++ l.drop (r.toNat + 1) := List.eraseIdx_eq_take_drop_succ _ _
      rw [e2, List.append_assoc]
      rw [e1] at h3
      have pm : (f ++ (l.take r.toNat ++ x :: l.drop (r.toNat + 1))).Perm (f ++ ([x] ++ (l.take r.toNat ++ l.drop (r.toNat + 1)))) := List.Perm.append_left _ List.perm_middle
      exact (List.Perm.nodup_iff pm).mp h3
  · rintro e ⟨a, b, c, l, f, s, h2, h3, h4, rfl⟩
    bv_omega
    exact hP a b c f (List.nodup_append.mp h4).1 (by omega)
local macro_rules | `(tactic| get_elem_tactic_extensible) => `(tactic| (refine wp_callK (H_law_names.dv (by assumption)) rfl (by decide) (s_names (by assumption) (by omega) _ _ _ _ (by omega) (by omega) (fun a' b' c' ts h0 h1 => ?_))))
/-- all pairs of a row, the first one first -/
def duos {α : Type} : List α → List (α × α)
  | [] => []
  | x :: xs => xs.map (fun y => (x, y)) ++ duos xs
theorem duos_mem {α : Type} {x y : α} : ∀ {xs : List α}, (x, y) ∈ duos xs → x ∈ xs ∧ y ∈ xs
  | [], h => by simp [duos] at h
  | z :: xs, h => by
    simp only [duos, List.mem_append, List.mem_map, Prod.mk.injEq] at h
    rcases h with ⟨w, hw, rfl, rfl⟩ | h
    · exact ⟨List.mem_cons_self, List.mem_cons_of_mem _ hw⟩
    · exact ⟨List.mem_cons_of_mem _ (duos_mem h).1, List.mem_cons_of_mem _ (duos_mem h).2⟩
theorem duos_len {α : Type} : ∀ xs : List α, (duos xs).length ≤ xs.length * xs.length
  | [] => by simp [duos]
  | z :: xs => by
    have := duos_len xs
    simp only [duos, List.length_append, List.length_map, List.length_cons]
    have e : (xs.length + 1) * (xs.length + 1) = xs.length * xs.length + 2 * xs.length + 1 := by rw [Nat.add_mul, Nat.mul_add]; omega
    omega
theorem s_duos (H : H_law_duos W fns n) (hk : 1 ≤ k) (xs : List Nm) (hl : xs.length ≤ 20) (hP : P (.ok (.lst ((duos xs).map tie)) false [])) : P (runF W fns k (n.f 2) [.val (nms xs)]) := by
  refine run_post H.at_ (by omega) ?_
  cases H
  show Wp (exs W (runF W fns (k - 1)) (b_law_duos n) [.val (nms xs), .dead, .dead, .dead]) _ _
  unfold b_law_duos
  bv_omega
  rw [show (((xs.map nm).length : Nat) : Int).toNat = xs.length by simp]
  refine wp_forR (fun i e => ∃ f s, f ++ duos (xs.drop i) = duos xs ∧ e = [.val (nms xs), .val (.lst (f.map tie)), s, .dead]) ⟨[], _, rfl, rfl⟩ ?_ ?_
  · rintro i hi e ⟨f, s, h1, rfl⟩
    refine ⟨_, rfl, ?_⟩
    have hx : xs[i]? = some xs[i] := List.getElem?_eq_getElem hi
    bv_omega
    refine wp_rd2 rfl rfl (b_addL ?_) ?_
    · have h2 := congrArg List.length h1
      have h3 := duos_len xs
      have : xs.length * xs.length ≤ 20 * 20 := Nat.mul_le_mul hl hl
      simp at h2 ⊢; omega
    bv_omega
    refine ⟨f ++ (xs.drop (i + 1)).map (fun y => (xs[i], y)), _, ?_, by rw [List.map_append, List.map_map]; rfl⟩
    rw [List.append_assoc, ← h1]
    congr 1
    rw [List.drop_eq_getElem_cons hi]
    rfl
  · rintro e ⟨f, s, h1, rfl⟩
    bv_omega
    rw [List.drop_length] at h1
    simp only [duos, List.append_nil] at h1
    rw [h1]
    exact hP
local macro_rules | `(tactic| get_elem_tactic_extensible) => `(tactic| (refine wp_callK (H_law_duos.dv (by assumption)) rfl (by decide) (s_duos (by assumption) (by omega) _ (by omega) ?_)))
end
local macro_rules | `(tactic| get_elem_tactic_extensible) => `(tactic| (refine wp_callK (H_law_sip.dv (by assumption)) rfl (by decide) (s_sip (by assumption) (by omega) _ _ _ _ (by first | omega | (simp only [List.length_map, List.length_append, List.length_cons, List.length_nil]; omega)) (by first | omega | (simp only [List.length_map, List.length_append, List.length_cons, List.length_nil]; omega)) (fun a' b' c' r h0 h1 => ?_))))
local macro_rules | `(tactic| get_elem_tactic_extensible) => `(tactic| (refine wp_callK (H_law_names.dv (by assumption)) rfl (by decide) (s_names (by assumption) (by omega) _ _ _ _ (by omega) (by omega) (fun a' b' c' ts h0 h1 => ?_))))
local macro_rules | `(tactic| get_elem_tactic_extensible) => `(tactic| (refine wp_callK (H_law_duos.dv (by assumption)) rfl (by decide) (s_duos (by assumption) (by omega) _ (by omega) ?_)))
/-! ## drawn webs -/
section
variable {W : Wd} {fns : Nat → Option Fn} {n : Nu} {k : Nat} {P : Res → Prop}
/-- whether two towns are tied -/
def tied (ks : List (Nm × Nm)) (x y : Nm) : Bool := decide ((x, y) ∈ ks) || decide ((y, x) ∈ ks)
def alike (p q : Nm × Nm) : Bool := decide (p ∈ [q, (q.2, q.1)])
def pairB (ts : List Nm) (p : Nm × Nm) : Bool := !decide (p.1 = p.2) && (decide (p.1 ∈ ts) && decide (p.2 ∈ ts))
theorem alike_iff {p q : Nm × Nm} : alike p q = true ↔ p = q ∨ p = (q.2, q.1) := by simp [alike]
theorem alike_symm {p q : Nm × Nm} (h : alike p q = false) : alike q p = false := by
  rw [Bool.eq_false_iff] at h ⊢
  intro z
  apply h
  rw [alike_iff] at z ⊢
  rcases z with rfl | rfl
  · exact .inl rfl
  · exact .inr rfl
/-- a web: towns, ties -/
structure Wb where
  ts : List Nm
  ks : List (Nm × Nm)
structure Wb.Ok (w : Wb) : Prop where
  ne : w.ts ≠ []
  nd : w.ts.Nodup
  len : w.ts.length ≤ 10
  pr : ∀ p ∈ w.ks, pairB w.ts p = true
  un : w.ks.Pairwise fun p q => alike p q = false
  kl : w.ks.length ≤ 200
theorem duos_ne {xs : List Nm} (h : xs.Nodup) : ∀ p ∈ duos xs, p.1 ≠ p.2 := by
  induction xs with
  | nil => intro p m; simp [duos] at m
  | cons z xs ih =>
    intro p m
    rw [List.nodup_cons] at h
    simp only [duos, List.mem_append, List.mem_map] at m
    rcases m with ⟨w, hw, rfl⟩ | m
    · intro e
      exact h.1 ((show z = w from e) ▸ hw)
    · exact ih h.2 p m
theorem duos_un {xs : List Nm} (h : xs.Nodup) : (duos xs).Pairwise fun p q => alike p q = false := by
  induction xs with
  | nil => exact .nil
  | cons z xs ih =>
    rw [List.nodup_cons] at h
    unfold duos
    rw [List.pairwise_append]
    refine ⟨?_, ih h.2, ?_⟩
    · rw [List.pairwise_map]
      refine List.Pairwise.imp_of_mem ?_ h.2
      intro x y hx hy hxy
      rw [Bool.eq_false_iff]
      intro z1
      rw [alike_iff] at z1
      rcases z1 with z1 | z1
      · simp only [Prod.mk.injEq, true_and] at z1; exact hxy z1
      · simp only [Prod.mk.injEq] at z1; exact h.1 (z1.1 ▸ hy)
    · intro p hp q hq
      obtain ⟨y, hy, rfl⟩ := List.mem_map.mp hp
      have hq' := duos_mem (x := q.1) (y := q.2) hq
      rw [Bool.eq_false_iff]
      intro z1
      rw [alike_iff] at z1
      rcases z1 with z1 | z1
      · rw [← z1] at hq'; exact h.1 hq'.1
      · have : z = q.2 := congrArg Prod.fst z1
        exact h.1 (this ▸ hq'.2)
theorem s_plan (H : H_law_plan W fns n) (hk : 3 ≤ k) (a b c m : Int) (h0 : 1 ≤ m) (h1 : m ≤ 10) (hP : ∀ a' b' c' (w : Wb), w.Ok → (w.ts.length : Int) ≤ m → P (.ok (.tup [nms w.ts, ties w.ks]) false [pool a' b' c'])) : P (runF W fns k (n.f 3) [.own (some 0) (pool a b c), .val (.int m)]) := by
  refine run_post H.at_ (by omega) ?_
  cases H
  show Wp (exs W (runF W fns (k - 1)) (b_law_plan n) [.own (some 0) (pool a b c), .val (.int m), .dead, .dead, .dead, .dead, .dead]) _ _
  unfold b_law_plan
  bv_omega
  rename_i a1 b1 c1 r1 hr1 hr2 a2 b2 c2 ts nd hl a3 b3 c3 r3 hr3 hr4
  refine wp_forL (f := tie) (duos ts) rfl (fun done e => ∃ a b c ks s t, (∀ p ∈ ks, p ∈ done ∨ (p.2, p.1) ∈ done) ∧ (ks.Pairwise fun p q => alike p q = false) ∧ ks.length ≤ done.length ∧ e = [.own (some 0) (pool a b c), .val (.int m), .val (nms ts), .own none (.lst (ks.map tie)), .val (.int (1 + r3)), s, t]) ⟨a3, b3, c3, [], _, _, by simp, .nil, by simp, rfl⟩ ?_ ?_
  · rintro done ⟨x, y⟩ rest hd e ⟨a, b, c, ks, s, t, i1, i2, i3, rfl⟩
    have hlen : (duos ts).length ≤ 100 := Nat.le_trans (duos_len ts) (Nat.mul_le_mul (by omega : ts.length ≤ 10) (by omega : ts.length ≤ 10))
    have hks : ks.length < 100 := by
      have := congrArg List.length hd
      simp at this
      omega
    refine ⟨_, rfl, ?_⟩
    bv_omega
    have mono : ∀ p ∈ ks, p ∈ done ++ [(x, y)] ∨ (p.2, p.1) ∈ done ++ [(x, y)] := fun p m => (i1 p m).elim (fun z => .inl (List.mem_append_left _ z)) fun z => .inr (List.mem_append_left _ z)
    refine wp_if (fun _ => ?_) fun _ => ?_
    · bv_omega
      rename_i r5 hr5 hr6 a6 b6 c6 r6 hr7 hr8
      have ins : ∀ p : Nm × Nm, (p = (x, y) ∨ p = (y, x)) → ∀ j : Nat, (∀ q ∈ ks.take j ++ p :: ks.drop j, q ∈ done ++ [(x, y)] ∨ (q.2, q.1) ∈ done ++ [(x, y)]) ∧ (ks.take j ++ p :: ks.drop j).Pairwise (fun p q => alike p q = false) ∧ (ks.take j ++ p :: ks.drop j).length ≤ (done ++ [(x, y)]).length := by
        intro p hp j
        have pm : (ks.take j ++ p :: ks.drop j).Perm (p :: ks) := by
          have := List.perm_middle (a := p) (l₁ := ks.take j) (l₂ := ks.drop j)
          rwa [List.take_append_drop] at this
        refine ⟨fun q hq => ?_, ?_, ?_⟩
        · rcases List.mem_cons.mp (pm.mem_iff.mp hq) with rfl | hq
          · rcases hp with rfl | rfl <;> simp
          · exact mono q hq
        · rw [List.Perm.pairwise_iff (fun h => alike_symm h) pm, List.pairwise_cons]
          refine ⟨fun q hq => ?_, i2⟩
          have un := duos_un nd
          rw [hd, List.pairwise_append] at un
          have key : ∀ q' ∈ done, alike q' (x, y) = false := fun q' m => un.2.2 q' m (x, y) List.mem_cons_self
          rw [Bool.eq_false_iff]
          intro z
          rw [alike_iff] at z
          have key' : ∀ q' ∈ done, q' ≠ (x, y) ∧ q' ≠ (y, x) := fun q' m => by
            have := key q' m
            rw [Bool.eq_false_iff] at this
            constructor
            · intro e; exact this (alike_iff.mpr (.inl e))
            · intro e; exact this (alike_iff.mpr (.inr e))
          rcases i1 q hq with m | m
          · have := key' _ m
            rcases z with rfl | rfl <;> rcases hp with e | e
            · exact this.1 e
            · exact this.2 e
            · simp only [Prod.mk.injEq] at e; exact this.2 (Prod.ext e.2 e.1)
            · simp only [Prod.mk.injEq] at e; exact this.1 (Prod.ext e.2 e.1)
          · have := key' _ m
            rcases z with rfl | rfl <;> rcases hp with e | e
            · rw [e] at this; exact this.2 rfl
            · rw [e] at this; exact this.1 rfl
            · simp only [Prod.mk.injEq] at e; exact this.1 (Prod.ext e.1 e.2)
            · simp only [Prod.mk.injEq] at e; exact this.2 (Prod.ext e.1 e.2)
        · rw [pm.length_eq]; simp; exact i3
      simp only [List.length_map] at hr6
      refine wp_if (fun _ => ?_) fun _ => ?_
      · bv_omega
        refine wp_insert rfl rfl rfl hr5 (by simp; omega) (by simp; omega) ?_
        bv_omega
        obtain ⟨j1, j2, j3⟩ := ins (y, x) (.inr rfl) r5.toNat
        exact ⟨a6, b6, c6, _, .val (nm x), .val (nm y), j1, j2, j3, by simp [tie, List.map_take, List.map_drop]⟩
      · bv_omega
        refine wp_insert rfl rfl rfl hr5 (by simp; omega) (by simp; omega) ?_
        bv_omega
        obtain ⟨j1, j2, j3⟩ := ins (x, y) (.inl rfl) r5.toNat
        exact ⟨a6, b6, c6, _, .val (nm x), .val (nm y), j1, j2, j3, by simp [tie, List.map_take, List.map_drop]⟩
    · bv_omega
      exact ⟨_, _, _, ks, _, _, mono, i2, by simp; omega, rfl⟩
  · rintro e ⟨a, b, c, ks, s, t, i1, i2, i3, rfl⟩
    bv_omega
    refine hP a b c ⟨ts, ks⟩ ⟨?_, nd, by show ts.length ≤ 10; omega, ?_, i2, ?_⟩ (by show (ts.length : Int) ≤ m; omega)
    · intro z
      have z' : ts = [] := z
      rw [z'] at hl
      simp at hl
      omega
    · rintro ⟨p, q⟩ hp
      have fact : ∀ {u v : Nm}, (u, v) ∈ duos ts → u ≠ v ∧ u ∈ ts ∧ v ∈ ts := fun h => ⟨duos_ne nd _ h, (duos_mem h).1, (duos_mem h).2⟩
      rcases i1 _ hp with h | h
      · obtain ⟨f1, f2, f3⟩ := fact h
        simp [pairB, f1, f2, f3]
      · obtain ⟨f1, f2, f3⟩ := fact h
        have f1' : ¬ p = q := fun z => f1 z.symm
        simp [pairB, f1', f2, f3]
    · have hlen : (duos ts).length ≤ 100 := Nat.le_trans (duos_len ts) (Nat.mul_le_mul (by omega : ts.length ≤ 10) (by omega : ts.length ≤ 10))
      show ks.length ≤ 200
      omega
local macro_rules | `(tactic| get_elem_tactic_extensible) => `(tactic| (refine wp_callK (H_law_plan.dv (by assumption)) rfl (by decide) (s_plan (by assumption) (by omega) _ _ _ _ (by omega) (by omega) (fun a' b' c' w h0 h1 => ?_))))
theorem s_pool (H : H_law_pool W fns n) (hk : 1 ≤ k) (ns : List Int) (i : Nat) (hi : i < 100) (hP : ∀ a b c, P (.ok (pool a b c) true [])) : P (runF W fns k (n.f 23) [.val (.fro (ns.map .int)), .val (.int i)]) := by
  refine run_post H.at_ (by omega) ?_
  cases H
  show Wp (exs W (runF W fns (k - 1)) (b_law_pool n) [.val (.fro (ns.map .int)), .val (.int i), .dead, .dead, .dead]) _ _
  unfold b_law_pool
  bv_omega
  refine wp_imp (Q := fun x e1 => ∃ o, x = .val (.int o) ∧ e1 = [.val (.fro (ns.map .int)), .val (.int i), .dead, .dead, .dead]) ?_ ?_
  · refine wp_if (fun h => ?_) fun _ => ?_
    · simp only [List.length_map, decide_eq_true_eq] at h
      have hx : (ns.map D.int)[i]? = some (.int (ns[i]'(by omega))) := by rw [List.getElem?_map, List.getElem?_eq_getElem (by omega)]; rfl
      bv_omega
      refine wp_idxR rfl rfl (idx_at hx) ?_
      bv_omega
      exact rfl
    · bv_omega
      exact rfl
  rintro x e1 ⟨o, rfl, rfl⟩
  bv_omega
  refine wp_forL (f := D.int) (ns.take 8) (by first | rfl | (rw [show (8 : Int) = ((8 : Nat) : Int) from rfl, cut_take, List.map_take])) (fun done e => ∃ m s, e = [.val (.fro (ns.map .int)), .val (.int i), .val (.int o), .val (.int m), s]) ⟨_, _, rfl⟩ ?_ ?_
  · rintro done x rest hd e ⟨m, s, rfl⟩
    refine ⟨_, rfl, ?_⟩
    bv_omega
    exact ⟨_, _, rfl⟩
  · rintro e ⟨m, s, rfl⟩
    bv_omega
    refine wp_if (fun _ => ?_) fun _ => ?_
    · bv_omega
      exact hP _ _ _
    · bv_omega
      exact hP _ _ _
local macro_rules | `(tactic| get_elem_tactic_extensible) => `(tactic| (refine wp_callK (H_law_pool.dv (by assumption)) rfl (by decide) (s_pool (by assumption) (by omega) _ _ (by omega) (fun a' b' c' => ?_))))
end
local macro_rules | `(tactic| get_elem_tactic_extensible) => `(tactic| (refine wp_callK (H_law_plan.dv (by assumption)) rfl (by decide) (s_plan (by assumption) (by omega) _ _ _ _ (by omega) (by omega) (fun a' b' c' w h0 h1 => ?_))))
local macro_rules | `(tactic| get_elem_tactic_extensible) => `(tactic| (refine wp_callK (H_law_pool.dv (by assumption)) rfl (by decide) (s_pool (by assumption) (by omega) _ _ (by omega) (fun a' b' c' => ?_))))
/-! ## webs -/
section
variable {W : Wd} {fns : Nat → Option Fn} {n : Nu} {k : Nat} {P : Res → Prop}
/-- the neighbours of a town -/
def nbr (w : Wb) (t : Nm) : List Nm := w.ts.filter fun u => tied w.ks t u
def sidesD (w : Wb) : D := .dct false (w.ts.map fun t => (nm t, nms (nbr w t)))
def web (c : Nat) (w : Wb) : D := .obj c [("spots", nms w.ts), ("knots", ties w.ks), ("sides", sidesD w)]
theorem s_check_web (H : H_check_web W fns n) (hk : 1 ≤ k) (w : Wb) (hP : P (.ok .non false [])) : P (runF W fns k (n.f 6) [.val (web (n.c 0) w)]) := by
  refine run_post H.at_ hk ?_
  cases H
  show Wp (exs W (runF W fns (k - 1)) (b_check_web n) [.val (web (n.c 0) w)]) _ _
  unfold b_check_web
  bv_omega
  refine wp_ifF rfl ?_
  bv_omega
  exact hP
local macro_rules | `(tactic| get_elem_tactic_extensible) => `(tactic| (refine wp_callK (H_check_web.dv (by assumption)) rfl (by decide) (s_check_web (by assumption) (by omega) _ ?_)))
theorem s_is_pair (H : H_is_pair W fns n) (hk : 1 ≤ k) (ts : List Nm) (p : Nm × Nm) (hP : P (.ok (.bl (pairB ts p)) false [])) : P (runF W fns k (n.f 17) [.val (nms ts), .val (tie p)]) := by
  refine run_post H.at_ hk ?_
  cases H
  show Wp (exs W (runF W fns (k - 1)) (b_is_pair n) [.val (nms ts), .val (tie p), .dead]) _ _
  unfold b_is_pair
  bv_omega
  refine wp_ifF (by simp) ?_
  bv_omega
  exact hP
local macro_rules | `(tactic| get_elem_tactic_extensible) => `(tactic| (refine wp_callK (H_is_pair.dv (by assumption)) rfl (by decide) (s_is_pair (by assumption) (by omega) _ _ ?_)))
theorem s_are_alike (H : H_are_alike W fns n) (hk : 1 ≤ k) (p q : Nm × Nm) (hP : P (.ok (.bl (alike p q)) false [])) : P (runF W fns k (n.f 18) [.val (tie p), .val (tie q)]) := by
  refine run_post H.at_ hk ?_
  cases H
  show Wp (exs W (runF W fns (k - 1)) (b_are_alike n) [.val (tie p), .val (tie q)]) _ _
  unfold b_are_alike
  bv_omega
  exact hP
local macro_rules | `(tactic| get_elem_tactic_extensible) => `(tactic| (refine wp_callK (H_are_alike.dv (by assumption)) rfl (by decide) (s_are_alike (by assumption) (by omega) _ _ ?_)))
theorem s_is_name (H : H_is_name W fns n) (hk : 1 ≤ k) (x : Nm) (hP : P (.ok (.bl true) false [])) : P (runF W fns k (n.f 15) [.val (nm x)]) := by
  refine run_post H.at_ hk ?_
  cases H
  show Wp (exs W (runF W fns (k - 1)) (b_is_name n) [.val (nm x), .dead]) _ _
  unfold b_is_name
  have hl : x.s.cps.toList.length ≤ 9 := by
    have := x.nb
    simp only [nameB, Bool.and_eq_true, decide_eq_true_eq] at this
    have := this.1.2
    show x.s.length ≤ 9
    omega
  bv_omega
  have e : ∀ b, b = true → P (.ok (.bl b) false []) := fun b h => h ▸ hP
  refine e _ ?_
  have := x.nb
  simp only [nameB, Bool.and_eq_true, decide_eq_true_eq] at this
  simp only [decide_true, Bool.true_and, Bool.and_eq_true, decide_eq_true_eq]
  exact ⟨⟨by omega, by omega⟩, this.2⟩
local macro_rules | `(tactic| get_elem_tactic_extensible) => `(tactic| (refine wp_callK (H_is_name.dv (by assumption)) rfl (by decide) (s_is_name (by assumption) (by omega) _ ?_)))
theorem s_check_towns (H : H_check_towns W fns n) (hk : 2 ≤ k) (ts : List Nm) (h0 : ts ≠ []) (h1 : ts.Nodup) (h2 : ts.length ≤ 10) (hP : P (.ok .non false [])) : P (runF W fns k (n.f 16) [.val (nms ts)]) := by
  refine run_post H.at_ (by omega) ?_
  cases H
  show Wp (exs W (runF W fns (k - 1)) (b_check_towns n) [.val (nms ts), .dead, .dead]) _ _
  unfold b_check_towns
  bv_omega
  refine wp_ifF (by simpa using h0) ?_
  bv_omega
  refine wp_forE ts (fun done e => ∃ s t, e = [.val (nms ts), s, t]) ⟨_, _, rfl⟩ ?_ ?_
  · rintro done x rest rfl e ⟨s, t, rfl⟩
    refine ⟨_, bind2, ?_⟩
    bv_omega
    refine wp_ifF ?_ ?_
    · have : done.length < 10 := by simp at h2; omega
      rw [List.nodup_append] at h1
      have hx : x ∉ done := fun m => h1.2.2 x m x List.mem_cons_self rfl
      simp [hx]
      omega
    bv_omega
    exact ⟨_, _, rfl⟩
  · rintro e ⟨s, t, rfl⟩
    bv_omega
    exact hP
local macro_rules | `(tactic| get_elem_tactic_extensible) => `(tactic| (refine wp_callK (H_check_towns.dv (by assumption)) rfl (by decide) (s_check_towns (by assumption) (by omega) _ (by assumption) (by assumption) (by assumption) ?_)))
theorem s_check_ties (H : H_check_ties W fns n) (hk : 2 ≤ k) (ts : List Nm) (ks : List (Nm × Nm)) (h1 : ∀ p ∈ ks, pairB ts p = true) (h2 : ks.Pairwise fun p q => alike p q = false) (h3 : ks.length ≤ 200) (hP : P (.ok .non false [])) : P (runF W fns k (n.f 19) [.val (nms ts), .val (ties ks)]) := by
  refine run_post H.at_ (by omega) ?_
  cases H
  show Wp (exs W (runF W fns (k - 1)) (b_check_ties n) [.val (nms ts), .val (ties ks), .dead, .dead, .dead]) _ _
  unfold b_check_ties
  bv_omega
  refine wp_ifF (by simp) ?_
  bv_omega
  refine wp_forE ks (fun done e => ∃ s t, e = [.val (nms ts), .val (ties ks), s, t, .dead]) ⟨_, _, rfl⟩ ?_ ?_
  · rintro done x rest rfl e ⟨s, t, rfl⟩
    refine ⟨_, bind2, ?_⟩
    have hl : done.length ≤ 200 := by simp at h3; omega
    bv_omega
    refine wp_ifF ?_ ?_
    · rw [h1 x (by simp)]
      rw [List.pairwise_append] at h2
      simp only [Bool.not_true, Bool.false_or, List.any_eq_false]
      intro q hq
      have := h2.2.2 q hq x List.mem_cons_self
      rw [alike_symm this]
      decide
    bv_omega
    exact ⟨_, _, rfl⟩
  · rintro e ⟨s, t, rfl⟩
    bv_omega
    exact hP
local macro_rules | `(tactic| get_elem_tactic_extensible) => `(tactic| (refine wp_callK (H_check_ties.dv (by assumption)) rfl (by decide) (s_check_ties (by assumption) (by omega) _ _ (by assumption) (by assumption) (by assumption) ?_)))
theorem tied_iff {ks : List (Nm × Nm)} {x y : Nm} : tied ks x y = true ↔ (x, y) ∈ ks ∨ (y, x) ∈ ks := by simp [tied]
theorem s_sides_of (H : H_sides_of W fns n) (hk : 1 ≤ k) (w : Wb) (ok : w.Ok) (hP : P (.ok (sidesD w) true [])) : P (runF W fns k (n.f 20) [.val (nms w.ts), .val (ties w.ks)]) := by
  obtain ⟨ts, ks⟩ := w
  refine run_post H.at_ (by omega) ?_
  cases H
  show Wp (exs W (runF W fns (k - 1)) (b_sides_of n) [.val (nms ts), .val (ties ks), .dead, .dead, .dead, .dead]) _ _
  unfold b_sides_of
  bv_omega
  refine wp_forL (f := tie) ks rfl (fun done e => ∃ (l : List ((Nm × Nm) × Bool)) (s t : Sl), (∀ x y, (x, y) ∈ l.map (·.1) ↔ (x, y) ∈ done ∨ (y, x) ∈ done) ∧ l.length ≤ 2 * done.length ∧ (t = .dead ∨ ∃ d, t = .val d) ∧ e = [.val (nms ts), .val (ties ks), .own none (.dct true (l.map (kvD tie D.bl))), s, t, .dead]) ⟨[], _, _, by simp, by simp, .inl rfl, rfl⟩ ?_ ?_
  · rintro done ⟨x, y⟩ rest hd e ⟨l, s, t, h1, h2, ht, rfl⟩
    have hl : l.length ≤ 1000 := by
      have h3 := ok.kl
      have h4 := congrArg List.length hd
      simp at h4 h3
      omega
    refine ⟨_, bind2, ?_⟩
    bv_omega
    refine wp_stoD (f := tie) (g := D.bl) (a := (x, y)) (b := true) rfl rfl (by omega) ?_
    bv_omega
    refine wp_stoD (f := tie) (g := D.bl) (a := (y, x)) (b := true) rfl rfl (by have := length_aput l (x, y) true; omega) ?_
    bv_omega
    refine ⟨_, _, _, fun u v => ?_, ?_, .inr ⟨_, rfl⟩, rfl⟩
    · rw [mem_aput, mem_aput, h1]
      simp only [List.mem_append, List.mem_singleton, Prod.mk.injEq]
      constructor
      · rintro (((a | a) | a) | a) <;> simp_all
      · rintro ((a | a) | (a | a)) <;> simp_all
    · have a1 := length_aput l (x, y) true
      have a2 := length_aput (aput l (x, y) true) (y, x) true
      simp
      omega
  · rintro e ⟨l, s, t, h1, h2, ht, rfl⟩
    have nd := ok.nd
    have hl := ok.len
    simp only at nd hl
    have e : (fun x => (nm x, D.tup ((ts.filter fun u => decide ((x, u) ∈ l.map (·.1))).map nm))) = fun x => (nm x, nms (nbr ⟨ts, ks⟩ x)) := by
      funext x
      refine congrArg (fun z => (nm x, D.tup (List.map nm z))) (List.filter_congr fun u _ => ?_)
      rw [Bool.eq_iff_iff, tied_iff, decide_eq_true_iff]
      exact h1 x u
    rcases ht with rfl | ⟨d, rfl⟩
    · bv_omega
      rw [e]
      exact hP
    · bv_omega
      rw [e]
      exact hP
local macro_rules | `(tactic| get_elem_tactic_extensible) => `(tactic| (refine wp_callK (H_sides_of.dv (by assumption)) rfl (by decide) (s_sides_of (by assumption) (by omega) _ (by assumption) ?_)))
end
local macro_rules | `(tactic| get_elem_tactic_extensible) => `(tactic| (refine wp_callK (H_check_web.dv (by assumption)) rfl (by decide) (s_check_web (by assumption) (by omega) _ ?_)))
local macro_rules | `(tactic| get_elem_tactic_extensible) => `(tactic| (refine wp_callK (H_is_pair.dv (by assumption)) rfl (by decide) (s_is_pair (by assumption) (by omega) _ _ ?_)))
local macro_rules | `(tactic| get_elem_tactic_extensible) => `(tactic| (refine wp_callK (H_are_alike.dv (by assumption)) rfl (by decide) (s_are_alike (by assumption) (by omega) _ _ ?_)))
local macro_rules | `(tactic| get_elem_tactic_extensible) => `(tactic| (refine wp_callK (H_is_name.dv (by assumption)) rfl (by decide) (s_is_name (by assumption) (by omega) _ ?_)))
local macro_rules | `(tactic| get_elem_tactic_extensible) => `(tactic| (refine wp_callK (H_check_towns.dv (by assumption)) rfl (by decide) (s_check_towns (by assumption) (by omega) _ (by assumption) (by assumption) (by assumption) ?_)))
local macro_rules | `(tactic| get_elem_tactic_extensible) => `(tactic| (refine wp_callK (H_check_ties.dv (by assumption)) rfl (by decide) (s_check_ties (by assumption) (by omega) _ _ (by assumption) (by assumption) (by assumption) ?_)))
local macro_rules | `(tactic| get_elem_tactic_extensible) => `(tactic| (refine wp_callK (H_sides_of.dv (by assumption)) rfl (by decide) (s_sides_of (by assumption) (by omega) _ (by assumption) ?_)))
/-! ## webs made; their towns -/
section
variable {W : Wd} {fns : Nat → Option Fn} {n : Nu} {k : Nat} {P : Res → Prop}
theorem s_Web___init__ (H : H_Web___init__ W fns n) (hk : 3 ≤ k) (w : Wb) (ok : w.Ok) (hP : P (.ok .non false [web (n.c 0) w])) : P (runF W fns k (n.f 21) [.own (some 0) (.obj (n.c 0) []), .val (nms w.ts), .val (ties w.ks)]) := by
  refine run_post H.at_ (by omega) ?_
  cases H
  show Wp (exs W (runF W fns (k - 1)) (b_Web___init__ n) [.own (some 0) (.obj (n.c 0) []), .val (nms w.ts), .val (ties w.ks)]) _ _
  unfold b_Web___init__
  have h1 := ok.ne
  have h2 := ok.nd
  have h3 := ok.len
  have h4 := ok.pr
  have h5 := ok.un
  have h6 := ok.kl
  bv_omega
  refine ⟨_, _, _, _, rfl, rfl, by decide, by assumption, ?_⟩
  bv_omega
  refine ⟨_, _, _, _, rfl, rfl, by simp [putF], by assumption, ?_⟩
  bv_omega
  refine ⟨_, _, _, _, rfl, rfl, by simp [putF, ne_sk], by assumption, ?_⟩
  bv_omega
  rw [put_web]
  exact hP
local macro_rules | `(tactic| get_elem_tactic_extensible) => `(tactic| (refine wp_makK (H_Web___init__.dv (by assumption)) rfl (by decide) rfl (s_Web___init__ (by assumption) (by omega) _ (by assumption) ?_)))
theorem s_Web_towns (H : H_Web_towns W fns n) (hk : 1 ≤ k) (w : Wb) (hP : P (.ok (nms w.ts) false [])) : P (runF W fns k (n.f 7) [.val (web (n.c 0) w)]) := by
  refine run_post H.at_ (by omega) ?_
  cases H
  show Wp (exs W (runF W fns (k - 1)) (b_Web_towns n) [.val (web (n.c 0) w)]) _ _
  unfold b_Web_towns
  bv_omega
  exact hP
local macro_rules | `(tactic| get_elem_tactic_extensible) => `(tactic| (refine wp_callK (H_Web_towns.dv (by assumption)) rfl (by decide) (s_Web_towns (by assumption) (by omega) _ ?_)))
theorem s_Web_near (H : H_Web_near W fns n) (hk : 1 ≤ k) (w : Wb) (hP : P (.ok (sidesD w) false [])) : P (runF W fns k (n.f 11) [.val (web (n.c 0) w)]) := by
  refine run_post H.at_ (by omega) ?_
  cases H
  show Wp (exs W (runF W fns (k - 1)) (b_Web_near n) [.val (web (n.c 0) w)]) _ _
  unfold b_Web_near
  bv_omega
  exact hP
local macro_rules | `(tactic| get_elem_tactic_extensible) => `(tactic| (refine wp_callK (H_Web_near.dv (by assumption)) rfl (by decide) (s_Web_near (by assumption) (by omega) _ ?_)))
theorem s_has_town (H : H_has_town W fns n) (hk : 2 ≤ k) (w : Wb) (t : Nm) (hP : P (.ok (.bl (decide (t ∈ w.ts))) false [])) : P (runF W fns k (n.f 8) [.val (web (n.c 0) w), .val (nm t)]) := by
  refine run_post H.at_ (by omega) ?_
  cases H
  show Wp (exs W (runF W fns (k - 1)) (b_has_town n) [.val (web (n.c 0) w), .val (nm t)]) _ _
  unfold b_has_town
  bv_omega
  exact hP
local macro_rules | `(tactic| get_elem_tactic_extensible) => `(tactic| (refine wp_callK (H_has_town.dv (by assumption)) rfl (by decide) (s_has_town (by assumption) (by omega) _ _ ?_)))
theorem s_check_town (H : H_check_town W fns n) (hk : 3 ≤ k) (w : Wb) (t : Nm) (ht : t ∈ w.ts) (hP : P (.ok .non false [])) : P (runF W fns k (n.f 9) [.val (web (n.c 0) w), .val (nm t)]) := by
  refine run_post H.at_ (by omega) ?_
  cases H
  show Wp (exs W (runF W fns (k - 1)) (b_check_town n) [.val (web (n.c 0) w), .val (nm t)]) _ _
  unfold b_check_town
  bv_omega
  refine wp_ifF (by simpa using ht) ?_
  bv_omega
  exact hP
local macro_rules | `(tactic| get_elem_tactic_extensible) => `(tactic| (refine wp_callK (H_check_town.dv (by assumption)) rfl (by decide) (s_check_town (by assumption) (by omega) _ _ (by assumption) ?_)))
theorem s_check_ends (H : H_check_ends W fns n) (hk : 4 ≤ k) (w : Wb) (t u : Nm) (ht : t ∈ w.ts) (hu : u ∈ w.ts) (hP : P (.ok .non false [])) : P (runF W fns k (n.f 10) [.val (web (n.c 0) w), .val (nm t), .val (nm u)]) := by
  refine run_post H.at_ (by omega) ?_
  cases H
  show Wp (exs W (runF W fns (k - 1)) (b_check_ends n) [.val (web (n.c 0) w), .val (nm t), .val (nm u)]) _ _
  unfold b_check_ends
  bv_omega
  exact hP
local macro_rules | `(tactic| get_elem_tactic_extensible) => `(tactic| (refine wp_callK (H_check_ends.dv (by assumption)) rfl (by decide) (s_check_ends (by assumption) (by omega) _ _ _ (by assumption) (by assumption) ?_)))
end
local macro_rules | `(tactic| get_elem_tactic_extensible) => `(tactic| (refine wp_makK (H_Web___init__.dv (by assumption)) rfl (by decide) rfl (s_Web___init__ (by assumption) (by omega) _ (by assumption) ?_)))
local macro_rules | `(tactic| get_elem_tactic_extensible) => `(tactic| (refine wp_callK (H_Web_towns.dv (by assumption)) rfl (by decide) (s_Web_towns (by assumption) (by omega) _ ?_)))
local macro_rules | `(tactic| get_elem_tactic_extensible) => `(tactic| (refine wp_callK (H_Web_near.dv (by assumption)) rfl (by decide) (s_Web_near (by assumption) (by omega) _ ?_)))
local macro_rules | `(tactic| get_elem_tactic_extensible) => `(tactic| (refine wp_callK (H_has_town.dv (by assumption)) rfl (by decide) (s_has_town (by assumption) (by omega) _ _ ?_)))
local macro_rules | `(tactic| get_elem_tactic_extensible) => `(tactic| (refine wp_callK (H_check_town.dv (by assumption)) rfl (by decide) (s_check_town (by assumption) (by omega) _ _ (by assumption) ?_)))
local macro_rules | `(tactic| get_elem_tactic_extensible) => `(tactic| (refine wp_callK (H_check_ends.dv (by assumption)) rfl (by decide) (s_check_ends (by assumption) (by omega) _ _ _ (by assumption) (by assumption) ?_)))
/-! ## ways and distances, plainly -/
theorem tied_symm (ks : List (Nm × Nm)) (x y : Nm) : tied ks x y = tied ks y x := by
  unfold tied
  exact Bool.or_comm _ _
/-- a walk of so many ties, its towns those of S -/
inductive Rch (w : Wb) : Nm → Nm → Nat → Prop where
  | refl {x : Nm} (h : x ∈ w.ts) : Rch w x x 0
  | step {x y z : Nm} {n : Nat} (h : Rch w x y n) (hz : z ∈ w.ts) (t : tied w.ks y z = true) : Rch w x z (n + 1)
theorem Rch.left {w : Wb} {x y : Nm} {n : Nat} (h : Rch w x y n) : x ∈ w.ts := by
  induction h with
  | refl h => exact h
  | step _ _ _ ih => exact ih
theorem Rch.right {w : Wb} {x y : Nm} {n : Nat} (h : Rch w x y n) : y ∈ w.ts := by
  cases h with
  | refl h => exact h
  | step _ hz _ => exact hz
theorem Rch.trans {w : Wb} {x y z : Nm} {m n : Nat} (h : Rch w x y m) (k : Rch w y z n) : Rch w x z (m + n) := by
  induction k with
  | refl _ => exact h
  | step _ hz t ih => exact .step ih hz t
theorem Rch.symm {w : Wb} {x y : Nm} {n : Nat} (h : Rch w x y n) : Rch w y x n := by
  induction h with
  | refl h => exact .refl h
  | step h hz t ih =>
    have : Rch w _ _ 1 := .step (.refl hz) h.right (by rw [tied_symm]; exact t)
    have := this.trans ih
    rwa [Nat.add_comm] at this
/-- the distance is so many -/
def Dst (w : Wb) (x y : Nm) (d : Nat) : Prop := Rch w x y d ∧ ∀ m, m < d → ¬ Rch w x y m
theorem Dst.of {w : Wb} {x y : Nm} {n : Nat} (h : Rch w x y n) : ∃ d, d ≤ n ∧ Dst w x y d := by
  induction n using Nat.strongRecOn with
  | _ n ih =>
    by_cases k : ∃ m, m < n ∧ Rch w x y m
    · obtain ⟨m, hm, km⟩ := k
      obtain ⟨d, hd, kd⟩ := ih m hm km
      exact ⟨d, by omega, kd⟩
    · exact ⟨n, Nat.le_refl _, h, fun m hm km => k ⟨m, hm, km⟩⟩
theorem Dst.symm {w : Wb} {x y : Nm} {d : Nat} (h : Dst w x y d) : Dst w y x d := ⟨h.1.symm, fun m hm k => h.2 m hm k.symm⟩
theorem Dst.le {w : Wb} {x y : Nm} {d n : Nat} (h : Dst w x y d) (k : Rch w x y n) : d ≤ n := Nat.le_of_not_lt fun z => h.2 n z k
theorem Dst.uniq {w : Wb} {x y : Nm} {d e : Nat} (h : Dst w x y d) (k : Dst w x y e) : d = e := Nat.le_antisymm (h.le k.1) (k.le h.1)
theorem Dst.zero {w : Wb} {x : Nm} (h : x ∈ w.ts) : Dst w x x 0 := ⟨.refl h, fun m hm => absurd hm (by omega)⟩
/-- the town ahead of the last one -/
theorem Dst.pred {w : Wb} {x y : Nm} {d : Nat} (h : Dst w x y (d + 1)) : ∃ z, Dst w x z d ∧ tied w.ks z y = true := by
  obtain ⟨h1, h2⟩ := h
  cases h1 with
  | step h1 hz t =>
    refine ⟨_, ⟨h1, fun m hm k => h2 (m + 1) (by omega) (.step k hz t)⟩, t⟩
open Classical in
/-- the distance, if there is a way -/
noncomputable def dist (w : Wb) (x y : Nm) : Option Nat := if h : ∃ d, Dst w x y d then some (choose h) else none
theorem dist_some {w : Wb} {x y : Nm} {d : Nat} : dist w x y = some d ↔ Dst w x y d := by
  unfold dist
  constructor
  · intro h
    split at h
    · rename_i k
      cases h
      exact Classical.choose_spec k
    · cases h
  · intro h
    have k : ∃ d, Dst w x y d := ⟨d, h⟩
    rw [dif_pos k, (Classical.choose_spec k).uniq h]
theorem dist_none {w : Wb} {x y : Nm} : dist w x y = none ↔ ∀ n, ¬ Rch w x y n := by
  constructor
  · intro h n k
    obtain ⟨d, _, kd⟩ := Dst.of k
    rw [dist_some.mpr kd] at h
    cases h
  · intro h
    cases e : dist w x y with
    | none => rfl
    | some d => exact absurd (dist_some.mp e).1 (h d)
theorem dist_symm (w : Wb) (x y : Nm) : dist w x y = dist w y x := by
  cases e : dist w x y with
  | some d => exact (dist_some.mpr (dist_some.mp e).symm).symm
  | none =>
    refine (dist_none.mpr fun n k => ?_).symm
    exact dist_none.mp e n k.symm
/-- a way, by its last town -/
inductive Way (w : Wb) (x : Nm) : List Nm → Nm → Prop where
  | one (h : x ∈ w.ts) : Way w x [x] x
  | snoc {p : List Nm} {z y : Nm} (h : Way w x p z) (hy : y ∈ w.ts) (n : y ∉ p) (t : tied w.ks z y = true) : Way w x (p ++ [y]) y
theorem Way.rch {w : Wb} {x y : Nm} {p : List Nm} (h : Way w x p y) : Rch w x y (p.length - 1) := by
  induction h with
  | one h => exact .refl h
  | @snoc p z y h hy n t ih =>
    have hp : 0 < p.length := by cases h <;> simp
    have := Rch.step ih hy t
    simp only [List.length_append, List.length_cons, List.length_nil]
    have e : p.length - 1 + 1 = p.length + (0 + 1) - 1 := by omega
    rwa [← e]
theorem Way.pos {w : Wb} {x y : Nm} {p : List Nm} (h : Way w x p y) : 0 < p.length := by cases h <;> simp
theorem Way.last {w : Wb} {x y : Nm} {p : List Nm} (h : Way w x p y) : p.getLast? = some y := by cases h <;> simp
theorem Way.nodup {w : Wb} {x y : Nm} {p : List Nm} (h : Way w x p y) : p.Nodup := by
  induction h with
  | one _ => simp
  | snoc _ _ n _ ih =>
    rw [List.nodup_append]
    refine ⟨ih, by simp, ?_⟩
    intro a ha b hb e
    rw [List.mem_singleton] at hb
    exact n (hb ▸ e ▸ ha)
theorem Way.sub {w : Wb} {x y : Nm} {p : List Nm} (h : Way w x p y) : ∀ z ∈ p, z ∈ w.ts := by
  induction h with
  | one h => intro z hz; rw [List.mem_singleton] at hz; exact hz ▸ h
  | snoc _ hy _ _ ih =>
    intro z hz
    rcases List.mem_append.mp hz with hz | hz
    · exact ih z hz
    · rw [List.mem_singleton] at hz; exact hz ▸ hy
/-- each town of a way is reached within it -/
theorem Way.mem_rch {w : Wb} {x y : Nm} {p : List Nm} (h : Way w x p y) : ∀ z ∈ p, ∃ n, n < p.length ∧ Rch w x z n := by
  induction h with
  | one h => intro z hz; rw [List.mem_singleton] at hz; subst hz; exact ⟨0, by simp, .refl h⟩
  | @snoc p z' y h hy n t ih =>
    intro z hz
    rcases List.mem_append.mp hz with hz | hz
    · obtain ⟨m, hm, k⟩ := ih z hz
      exact ⟨m, by simp; omega, k⟩
    · rw [List.mem_singleton] at hz
      subst hz
      have := Way.rch (.snoc h hy n t)
      refine ⟨_, ?_, this⟩
      simp
/-- a shortest walk is a way -/
theorem Dst.way {w : Wb} {x y : Nm} {d : Nat} (h : Dst w x y d) : ∃ p, Way w x p y ∧ p.length = d + 1 := by
  induction d generalizing y with
  | zero =>
    cases h.1 with
    | refl hx => exact ⟨[x], .one hx, rfl⟩
  | succ d ih =>
    obtain ⟨z, hz, t⟩ := h.pred
    obtain ⟨p, hp, hl⟩ := ih hz
    refine ⟨p ++ [y], .snoc hp h.1.right (fun m => ?_) t, by simp [hl]⟩
    obtain ⟨n, hn, k⟩ := hp.mem_rch y m
    exact h.2 n (by omega) k
/-- different ones of some are no more -/
theorem nodup_len {α : Type} [DecidableEq α] : ∀ {l m : List α}, l.Nodup → (∀ x ∈ l, x ∈ m) → l.length ≤ m.length
  | [], _, _, _ => by simp
  | a :: l, m, h, k => by
    rw [List.nodup_cons] at h
    have ha := k a List.mem_cons_self
    have := nodup_len (l := l) (m := m.erase a) h.2 fun x hx => by
      refine (List.mem_erase_of_ne ?_).mpr (k x (List.mem_cons_of_mem _ hx))
      intro e
      exact h.1 (e ▸ hx)
    rw [List.length_erase_of_mem ha] at this
    have : 0 < m.length := List.length_pos_of_mem ha
    simp only [List.length_cons]
    omega
/-! ## distances -/
section
variable {W : Wd} {fns : Nat → Option Fn} {n : Nu} {k : Nat} {P : Res → Prop}
def natD (d : Nat) : D := .int d
theorem idx_sides {w : Wb} {h : Nm} (nd : w.ts.Nodup) (m : h ∈ w.ts) : idxD (sidesD w) (nm h) = some (nms (nbr w h)) := by
  have e : sidesD w = .dct false ((w.ts.map fun t => (t, nbr w t)).map (kvD nm nms)) := by
    unfold sidesD
    rw [List.map_map]
    rfl
  rw [e]
  refine idx_dct (f := nm) (g := nms) (b := nbr w h) ?_ ?_ rfl
  · rw [List.map_map]
    have : ((fun q : Nm × List Nm => q.1) ∘ fun t => (t, nbr w t)) = id := rfl
    rw [this, List.map_id]
    exact nd
  · exact List.mem_map.mpr ⟨h, m, rfl⟩
/-- what is known behind so many turns -/
structure Lv (w : Wb) (t : Nm) (d : Nat) (l : List (Nm × Nat)) (fr : List Nm) : Prop where
  nd : (l.map (·.1)).Nodup
  le : ∀ x e, (x, e) ∈ l → e ≤ d ∧ Dst w t x e
  ge : ∀ x e, e ≤ d → Dst w t x e → (x, e) ∈ l
  fr : ∀ x, x ∈ fr ↔ (x, d) ∈ l
theorem mem_nbr {w : Wb} {x y : Nm} : y ∈ nbr w x ↔ y ∈ w.ts ∧ tied w.ks x y = true := by simp [nbr]
/-- one turn more -/
theorem Lv.next {w : Wb} {t : Nm} {d : Nat} {l : List (Nm × Nat)} {fr later : List Nm} (h : Lv w t d l fr) (h1 : later.Nodup) (h2 : ∀ x ∈ later, x ∉ l.map (·.1) ∧ ∃ z ∈ fr, x ∈ nbr w z) (h3 : ∀ z ∈ fr, ∀ x ∈ nbr w z, x ∈ l.map (·.1) ∨ x ∈ later) : Lv w t (d + 1) (l ++ later.map fun x => (x, d + 1)) later := by
  have key : ∀ x, x ∈ later ↔ Dst w t x (d + 1) := fun x => by
    constructor
    · intro hx
      obtain ⟨a, z, hz, b⟩ := h2 x hx
      have hz' := (h.le z d ((h.fr z).mp hz)).2
      rw [mem_nbr] at b
      refine ⟨.step hz'.1 b.1 b.2, fun m hm k => ?_⟩
      obtain ⟨e, he, ke⟩ := Dst.of k
      exact a (List.mem_map.mpr ⟨(x, e), h.ge x e (by omega) ke, rfl⟩)
    · intro hx
      obtain ⟨z, hz, tz⟩ := hx.pred
      have hf := (h.fr z).mpr (h.ge z d (Nat.le_refl _) hz)
      rcases h3 z hf x (mem_nbr.mpr ⟨hx.1.right, tz⟩) with m | m
      · obtain ⟨⟨x', e⟩, m', rfl⟩ := List.mem_map.mp m
        obtain ⟨he, ke⟩ := h.le _ _ m'
        have := hx.uniq ke
        omega
      · exact m
  have e1 : ((l ++ later.map fun x => (x, d + 1)).map (·.1)) = l.map (·.1) ++ later := by
    rw [List.map_append, List.map_map]
    congr 1
    exact List.map_id _
  refine ⟨?_, fun x e m => ?_, fun x e he k => ?_, fun x => ?_⟩
  · rw [e1, List.nodup_append]
    exact ⟨h.nd, h1, fun a ha b hb e => (h2 b hb).1 (e ▸ ha)⟩
  · rcases List.mem_append.mp m with m | m
    · obtain ⟨a, b⟩ := h.le x e m
      exact ⟨by omega, b⟩
    · obtain ⟨y, hy, z⟩ := List.mem_map.mp m
      cases z
      exact ⟨Nat.le_refl _, (key _).mp hy⟩
  · rcases Nat.lt_or_ge d e with z | z
    · have : e = d + 1 := by omega
      subst this
      exact List.mem_append_right _ (List.mem_map.mpr ⟨x, (key x).mpr k, rfl⟩)
    · exact List.mem_append_left _ (h.ge x e z k)
  · constructor
    · intro hx
      exact List.mem_append_right _ (List.mem_map.mpr ⟨x, hx, rfl⟩)
    · intro m
      rcases List.mem_append.mp m with m | m
      · have := (h.le x (d + 1) m).1
        omega
      · obtain ⟨y, hy, z⟩ := List.mem_map.mp m
        cases z
        exact hy
/-- nothing more behind an empty front -/
theorem Lv.done {w : Wb} {t : Nm} {d : Nat} {l : List (Nm × Nat)} (h : Lv w t d l []) : ∀ x e, (x, e) ∈ l ↔ Dst w t x e := by
  have none : ∀ j x, ¬ Dst w t x (d + j) := by
    intro j
    induction j with
    | zero => intro x k; exact absurd ((h.fr x).mpr (h.ge x d (Nat.le_refl _) k)) (by simp)
    | succ j ih => intro x k; obtain ⟨z, hz, _⟩ := Dst.pred (d := d + j) k; exact ih z hz
  refine fun x e => ⟨fun m => (h.le x e m).2, fun k => ?_⟩
  rcases Nat.lt_or_ge d e with z | z
  · obtain ⟨j, rfl⟩ := Nat.exists_eq_add_of_lt z
    exact absurd k (none (j + 1) x)
  · exact h.ge x e z k
theorem Lv.len {w : Wb} {t : Nm} {d : Nat} {l : List (Nm × Nat)} {fr : List Nm} (h : Lv w t d l fr) : l.length ≤ w.ts.length := by
  have := nodup_len (m := w.ts) h.nd fun x m => by
    obtain ⟨⟨y, e⟩, m', rfl⟩ := List.mem_map.mp m
    exact (h.le _ _ m').2.1.right
  simpa using this
theorem s_distances_from (H : H_distances_from W fns n) (hk : 2 ≤ k) (w : Wb) (ok : w.Ok) (t : Nm) (ht : t ∈ w.ts) (hP : ∀ l : List (Nm × Nat), (l.map (·.1)).Nodup → (∀ x d, (x, d) ∈ l ↔ Dst w t x d) → l.length ≤ 10 → P (.ok (.dct false (l.map (kvD nm natD))) true [])) : P (runF W fns k (n.f 12) [.val (web (n.c 0) w), .val (nm t)]) := by
  refine run_post H.at_ (by omega) ?_
  cases H
  show Wp (exs W (runF W fns (k - 1)) (b_distances_from n) [.val (web (n.c 0) w), .val (nm t), .dead, .dead, .dead, .dead, .dead]) _ _
  unfold b_distances_from
  have nd := ok.nd
  have h10 := ok.len
  bv_omega
  refine wp_whlL (fun m e => ∃ (d : Nat) (l : List (Nm × Nat)) (fr : List Nm) (s4 s5 s6 : Sl), Lv w t d l fr ∧ m = 2 * (11 - l.length) + (if fr = [] then 0 else 1) ∧ e = [.val (web (n.c 0) w), .val (nm t), .own none (.dct false (l.map (kvD nm natD))), .val (.lst (fr.map nm)), s4, s5, s6]) 21 (by omega) ⟨0, [(t, 0)], [t], _, _, _, ⟨by simp, ?_, ?_, by simp⟩, rfl, rfl⟩ ?_
  · intro x e m
    simp only [List.mem_singleton, Prod.mk.injEq] at m
    obtain ⟨rfl, rfl⟩ := m
    exact ⟨by omega, .zero ht⟩
  · intro x e he k
    have : e = 0 := by omega
    subst this
    cases k.1 with
    | refl _ => simp
  · rintro m e ⟨d, l, fr, s4, s5, s6, lv, rfl, rfl⟩
    have hlen := lv.len
    bv_omega
    refine ifP (fun hf => ?_) fun hf => ?_
    · bv_omega
      have hfr : fr ≠ [] := by simpa using hf
      refine wp_forL (f := nm) fr rfl (fun done e => ∃ (later : List Nm) (s5 s6 : Sl), later.Nodup ∧ (∀ x ∈ later, x ∉ l.map (·.1) ∧ ∃ z ∈ fr, x ∈ nbr w z) ∧ (∀ z ∈ done, ∀ x ∈ nbr w z, x ∈ l.map (·.1) ∨ x ∈ later) ∧ e = [.val (web (n.c 0) w), .val (nm t), .own none (.dct false ((l ++ later.map fun x => (x, d + 1)).map (kvD nm natD))), .val (.lst (fr.map nm)), .own none (.lst (later.map nm)), s5, s6]) ⟨[], s5, s6, .nil, by simp, by simp, by simp⟩ ?_ ?_
      · rintro done h rest hd e ⟨later, s5, s6, i1, i2, i3, rfl⟩
        have hm : h ∈ fr := by rw [hd]; simp
        have hl : (h, d) ∈ l := (lv.fr h).mp hm
        have hts : h ∈ w.ts := (lv.le _ _ hl).2.1.right
        refine ⟨_, rfl, ?_⟩
        bv_omega
        refine wp_idxR rfl rfl (idx_sides nd hts) ?_
        bv_omega
        refine wp_forL (f := nm) (nbr w h) rfl (fun done2 e => ∃ (later : List Nm) (s6 : Sl), later.Nodup ∧ (∀ x ∈ later, x ∉ l.map (·.1) ∧ ∃ z ∈ fr, x ∈ nbr w z) ∧ (∀ z ∈ done, ∀ x ∈ nbr w z, x ∈ l.map (·.1) ∨ x ∈ later) ∧ (∀ x ∈ done2, x ∈ l.map (·.1) ∨ x ∈ later) ∧ e = [.val (web (n.c 0) w), .val (nm t), .own none (.dct false ((l ++ later.map fun x => (x, d + 1)).map (kvD nm natD))), .val (.lst (fr.map nm)), .own none (.lst (later.map nm)), .val (nm h), s6]) ⟨later, _, i1, i2, i3, by simp, rfl⟩ ?_ ?_
        · rintro done2 x rest2 hd2 e ⟨later, s6, j1, j2, j3, j4, rfl⟩
          have hx : x ∈ nbr w h := by rw [hd2]; simp
          refine ⟨_, rfl, ?_⟩
          have ek : (l ++ later.map fun x => (x, d + 1)).map (·.1) = l.map (·.1) ++ later := by
            rw [List.map_append, List.map_map]
            congr 1
            exact List.map_id _
          have hnd : ((l ++ later.map fun x => (x, d + 1)).map (·.1)).Nodup := by
            rw [ek, List.nodup_append]
            exact ⟨lv.nd, j1, fun a ha b hb e => (j2 b hb).1 (e ▸ ha)⟩
          have hll : later.length ≤ 10 := Nat.le_trans (nodup_len j1 fun y hy => by
            obtain ⟨_, z, _, hz⟩ := j2 y hy
            exact (mem_nbr.mp hz).1) h10
          bv_omega
          refine wp_if (fun hc => ?_) fun hc => ?_
          · rw [ek] at hc
            have hc' : x ∉ l.map (·.1) ++ later := by simpa using hc
            bv_omega
            refine wp_idxR rfl rfl (idx_dct (f := nm) (g := natD) (a := h) (b := d) hnd (List.mem_append_left _ hl) rfl) ?_
            bv_omega
            refine wp_stoD (f := nm) (g := natD) (a := x) (b := d + 1) rfl rfl (by simp; omega) ?_
            rw [aput_new (by rw [ek]; exact hc')]
            bv_omega
            rw [List.mem_append] at hc'
            refine ⟨later ++ [x], .val (nm x), ?_, ?_, ?_, ?_, by simp⟩
            · rw [List.nodup_append]
              exact ⟨j1, by simp, fun a ha b hb e => by rw [List.mem_singleton] at hb; subst hb; subst e; exact hc' (.inr ha)⟩
            · intro y hy
              rcases List.mem_append.mp hy with hy | hy
              · exact j2 y hy
              · rw [List.mem_singleton] at hy
                subst hy
                exact ⟨fun z => hc' (.inl z), h, hm, hx⟩
            · intro z hz y hy
              rcases j3 z hz y hy with a | a
              · exact .inl a
              · exact .inr (List.mem_append_left _ a)
            · intro y hy
              rcases List.mem_append.mp hy with hy | hy
              · rcases j4 y hy with a | a
                · exact .inl a
                · exact .inr (List.mem_append_left _ a)
              · rw [List.mem_singleton] at hy
                subst hy
                exact .inr (by simp)
          · rw [ek] at hc
            have hc' : x ∈ l.map (·.1) ++ later := by simpa using hc
            bv_omega
            refine ⟨later, _, j1, j2, j3, ?_, rfl⟩
            intro y hy
            rcases List.mem_append.mp hy with hy | hy
            · exact j4 y hy
            · rw [List.mem_singleton] at hy
              subst hy
              exact List.mem_append.mp hc'
        · rintro e ⟨later, s6, j1, j2, j3, j4, rfl⟩
          bv_omega
          refine ⟨later, _, _, j1, j2, fun z hz x hx => ?_, rfl⟩
          rcases List.mem_append.mp hz with hz | hz
          · exact j3 z hz x hx
          · rw [List.mem_singleton] at hz
            subst hz
            exact j4 x hx
      · rintro e ⟨later, s5, s6, i1, i2, i3, rfl⟩
        bv_omega
        have lv' := lv.next i1 i2 i3
        have hlen' := lv'.len
        refine ⟨_, ?_, d + 1, _, later, _, _, _, lv', rfl, rfl⟩
        simp only [hfr, if_false, List.length_append, List.length_map] at hlen' ⊢
        cases later with
        | nil => simp
        | cons a b =>
          simp only [List.length_cons] at hlen' ⊢
          rw [if_neg (by simp)]
          omega
    · bv_omega
      have hfr : fr = [] := by simpa using hf
      subst hfr
      exact hP l lv.nd lv.done (by omega)
local macro_rules | `(tactic| get_elem_tactic_extensible) => `(tactic| (refine wp_callK (H_distances_from.dv (by assumption)) rfl (by decide) (s_distances_from (by assumption) (by omega) _ (by assumption) _ (by assumption) (fun l hl1 hl2 hl3 => ?_))))
def oD : Option Nat → D
  | none => .non
  | some d => natD d
theorem get_dist {w : Wb} {t x : Nm} {l : List (Nm × Nat)} (h1 : (l.map (·.1)).Nodup) (h2 : ∀ x d, (x, d) ∈ l ↔ Dst w t x d) : ((dget (l.map (kvD nm natD)) (nm x)).getD .non) = oD (dist w t x) := by
  rw [dget_map]
  cases e : dist w t x with
  | some d =>
    rw [find_some h1 ((h2 x d).mpr (dist_some.mp e))]
    rfl
  | none =>
    rw [find_none]
    · rfl
    · intro m
      obtain ⟨⟨y, d⟩, m', rfl⟩ := List.mem_map.mp m
      exact dist_none.mp e d ((h2 _ _).mp m').1
theorem s_distance_of (H : H_distance_of W fns n) (hk : 3 ≤ k) (w : Wb) (ok : w.Ok) (t u : Nm) (ht : t ∈ w.ts) (hP : P (.ok (oD (dist w t u)) false [])) : P (runF W fns k (n.f 13) [.val (web (n.c 0) w), .val (nm t), .val (nm u)]) := by
  refine run_post H.at_ (by omega) ?_
  cases H
  show Wp (exs W (runF W fns (k - 1)) (b_distance_of n) [.val (web (n.c 0) w), .val (nm t), .val (nm u)]) _ _
  unfold b_distance_of
  bv_omega
  rename_i l hl1 hl2 hl3
  refine wp_bmtR rfl rfl (y := (.val ((dget (l.map (kvD nm natD)) (nm u)).getD .non), none)) rfl (wp_mt0 ?_)
  bv_omega
  rw [get_dist hl1 hl2]
  exact hP
local macro_rules | `(tactic| get_elem_tactic_extensible) => `(tactic| (refine wp_callK (H_distance_of.dv (by assumption)) rfl (by decide) (s_distance_of (by assumption) (by omega) _ (by assumption) _ _ (by assumption) ?_)))
theorem s_distance (H : H_distance W fns n) (hk : 5 ≤ k) (w : Wb) (ok : w.Ok) (t u : Nm) (ht : t ∈ w.ts) (hu : u ∈ w.ts) (hP : P (.ok (oD (dist w t u)) false [])) : P (runF W fns k (n.f 14) [.val (web (n.c 0) w), .val (nm t), .val (nm u)]) := by
  refine run_post H.at_ (by omega) ?_
  cases H
  show Wp (exs W (runF W fns (k - 1)) (b_distance n) [.val (web (n.c 0) w), .val (nm t), .val (nm u)]) _ _
  unfold b_distance
  bv_omega
  exact hP
local macro_rules | `(tactic| get_elem_tactic_extensible) => `(tactic| (refine wp_callK (H_distance.dv (by assumption)) rfl (by decide) (s_distance (by assumption) (by omega) _ (by assumption) _ _ (by assumption) (by assumption) ?_)))
end
local macro_rules | `(tactic| get_elem_tactic_extensible) => `(tactic| (refine wp_callK (H_distances_from.dv (by assumption)) rfl (by decide) (s_distances_from (by assumption) (by omega) _ (by assumption) _ (by assumption) (fun l hl1 hl2 hl3 => ?_))))
local macro_rules | `(tactic| get_elem_tactic_extensible) => `(tactic| (refine wp_callK (H_distance_of.dv (by assumption)) rfl (by decide) (s_distance_of (by assumption) (by omega) _ (by assumption) _ _ (by assumption) ?_)))
local macro_rules | `(tactic| get_elem_tactic_extensible) => `(tactic| (refine wp_callK (H_distance.dv (by assumption)) rfl (by decide) (s_distance (by assumption) (by omega) _ (by assumption) _ _ (by assumption) (by assumption) ?_)))
/-! ## all ways gone through -/
/-- how many trails may come of one with so many towns left -/
def cst : Nat → Nat
  | 0 => 1
  | m + 1 => 1 + (m + 1) * cst m
theorem cst_pos (m : Nat) : 1 ≤ cst m := by cases m <;> simp [cst]
theorem cst_mono {m n : Nat} (h : m ≤ n) : cst m ≤ cst n := by
  induction n with
  | zero => have : m = 0 := by omega
            subst this; exact Nat.le_refl _
  | succ n ih =>
    rcases Nat.lt_or_ge m (n + 1) with z | z
    · refine Nat.le_trans (ih (by omega)) ?_
      simp only [cst]
      have : cst n ≤ (n + 1) * cst n := Nat.le_mul_of_pos_left _ (by omega)
      omega
    · have : m = n + 1 := by omega
      subst this; exact Nat.le_refl _
/-- what a row of trails may come to -/
def cstL (N : Nat) (fr : List (List Nm)) : Nat := (fr.map fun p => cst (N - p.length)).sum
theorem cstL_app (N : Nat) (a b : List (List Nm)) : cstL N (a ++ b) = cstL N a + cstL N b := by simp [cstL]
theorem cstL_len (N : Nat) : ∀ a : List (List Nm), a.length ≤ cstL N a
  | [] => by simp
  | p :: a => by
    have := cstL_len N a
    have := cst_pos (N - p.length)
    simp only [cstL, List.map_cons, List.sum_cons, List.length_cons] at *
    omega
/-- the trails that one is led on to -/
def goOn (w : Wb) (p : List Nm) : List Nm := w.ts.filter fun y => !decide (y ∈ p) && tied w.ks (p.getLast?.getD ⟨"a", by decide +kernel, by decide +kernel⟩) y
theorem cstL_go {w : Wb} {p : List Nm} (hp : p.Nodup) (hs : ∀ z ∈ p, z ∈ w.ts) (hw : w.ts.Nodup) (l : List Nm) (hl : l.Nodup) (hl2 : ∀ y ∈ l, y ∈ w.ts ∧ y ∉ p) : 1 + cstL w.ts.length (l.map fun y => p ++ [y]) ≤ cst (w.ts.length - p.length) := by
  have h1 : (p ++ l).length ≤ w.ts.length := nodup_len (by
    rw [List.nodup_append]
    exact ⟨hp, hl, fun a ha b hb e => (hl2 b hb).2 (e ▸ ha)⟩) fun x hx => by
      rcases List.mem_append.mp hx with hx | hx
      · exact hs x hx
      · exact (hl2 x hx).1
  rw [List.length_append] at h1
  have e : cstL w.ts.length (l.map fun y => p ++ [y]) = l.length * cst (w.ts.length - (p.length + 1)) := by
    unfold cstL
    rw [List.map_map]
    have : ((fun p : List Nm => cst (w.ts.length - p.length)) ∘ fun y => p ++ [y]) = fun _ => cst (w.ts.length - (p.length + 1)) := by
      funext y
      simp
    rw [this]
    simp [List.map_const', List.sum_replicate_nat]
  rw [e]
  cases hm : w.ts.length - p.length with
  | zero =>
    have : l.length = 0 := by omega
    rw [this]; simp [cst]
  | succ m =>
    have e2 : w.ts.length - (p.length + 1) = m := by omega
    rw [e2]
    simp only [cst]
    have : l.length * cst m ≤ (m + 1) * cst m := Nat.mul_le_mul_right _ (by omega)
    omega
theorem Way.ne {w : Wb} {x y : Nm} {p : List Nm} (h : Way w x p y) : p ≠ [] := by cases h <;> simp
/-- a beginning of a way is a way -/
theorem Way.pre {w : Wb} {x y : Nm} {p : List Nm} (h : Way w x p y) : ∀ q, q <+: p → q ≠ [] → ∃ z, Way w x q z := by
  induction h with
  | one h =>
    intro q hq hn
    obtain ⟨r, e⟩ := hq
    cases q with
    | nil => exact absurd rfl hn
    | cons a q =>
      simp only [List.cons_append, List.cons.injEq, List.append_eq_nil_iff] at e
      obtain ⟨rfl, rfl, rfl⟩ := e
      exact ⟨_, .one h⟩
  | @snoc p z y h hy n t ih =>
    intro q hq hn
    obtain ⟨r, e⟩ := hq
    rcases List.eq_nil_or_concat r with rfl | ⟨r', b, rfl⟩
    · rw [List.append_nil] at e
      subst e
      exact ⟨_, .snoc h hy n t⟩
    · have e' : (q ++ r') ++ [b] = p ++ [y] := by simpa using e
      obtain ⟨e1, _⟩ := List.append_inj' e' rfl
      exact ih q ⟨r', e1⟩ hn
/-- the next town of a way behind a beginning of it -/
theorem Way.nextTown {w : Wb} {x y z : Nm} {p q : List Nm} (h : Way w x p y) (hq : q <+: p) (hz : Way w x q z) (hn : z ≠ y) : ∃ a, a ∈ w.ts ∧ a ∉ q ∧ tied w.ks z a = true ∧ (q ++ [a]) <+: p := by
  obtain ⟨r, e⟩ := hq
  cases r with
  | nil =>
    rw [List.append_nil] at e
    subst e
    have h1 := h.last
    rw [hz.last] at h1
    cases h1
    exact absurd rfl hn
  | cons a r =>
    have hp : (q ++ [a]) <+: p := ⟨r, by rw [← e]; simp⟩
    obtain ⟨b, hb⟩ := h.pre _ hp (by simp)
    have hb' := hb.last
    rw [List.getLast?_concat] at hb'
    cases hb'
    generalize hg : q ++ [a] = g at hb
    cases hb with
    | one h' =>
      have : q = [] := by
        cases q with
        | nil => rfl
        | cons c q => simp at hg
      exact absurd this hz.ne
    | snoc h' hy n t =>
      obtain ⟨e1, e2⟩ := List.append_inj' hg rfl
      cases e2
      subst e1
      have h1 := h'.last
      rw [hz.last] at h1
      cases h1
      exact ⟨a, hy, n, t, hp⟩
/-- a way that begins with a way to its own end is that -/
theorem Way.pre_end {w : Wb} {x y : Nm} {p q : List Nm} (h : Way w x p y) (hq : q <+: p) (hz : Way w x q y) : q = p := by
  obtain ⟨r, e⟩ := hq
  cases r with
  | nil => rw [List.append_nil] at e; exact e
  | cons a r =>
    have nd := h.nodup
    have hl := h.last
    rw [← e] at nd hl
    rw [List.getLast?_append] at hl
    have : (a :: r).getLast? = some y := by
      cases hh : (a :: r).getLast? with
      | none => simp at hh
      | some b => rw [hh] at hl; simpa using hl
    have m1 : y ∈ a :: r := List.mem_of_getLast? this
    have m2 : y ∈ q := List.mem_of_getLast? hz.last
    rw [List.nodup_append] at nd
    exact absurd rfl (nd.2.2 y m2 y m1)
/-! ## all ways, by the law's own look -/
local macro_rules | `(tactic| bv_omega) => `(tactic| (repeat' (first
  | ((with_reducible apply tgE)
     first
     | ((with_reducible apply wp_var); · rfl)
     | (with_reducible apply wp_con)
     | ((with_reducible apply wp_borV); · rfl)
     | ((with_reducible apply wp_borO); · rfl)
     | (with_reducible apply wp_cal)
     | (with_reducible apply wp_bin)
     | (with_reducible apply wp_cmp)
     | (with_reducible apply wp_idx)
     | (with_reducible apply wp_prp)
     | (with_reducible apply wp_blt)
     | (with_reducible apply wp_bmt)
     | (with_reducible apply wp_or)
     | (with_reducible apply wp_and)
     | ((with_reducible apply wp_lc0)
        · (bv_omega; apply And.intro rfl; apply src1 rfl; first | ((with_reducible apply tgTp); first | exact src_pT _ | exact src_pL _ | exact src_pF _ | exact src_pS _) | ((with_reducible apply tgTe); first | exact src_eT _ | exact src_eL _) | ((with_reducible apply tgT1); first | exact src_range (by omega) (by omega) | exact src_range (by simp only [List.length_map]; omega) (by simp only [List.length_map]; omega)))
        · first | rfl | exact map1 _ _ | exact map2 _ _ _ | exact map3 _ _ _ _
        · rfl
        · (intro _ _; rfl)
        · (intro _ _; rfl)
        · (intro _ _; rfl)
        · rfl
        · (intro _ _; bv_omega; all_goals first | exact ⟨rfl, rfl⟩ | rfl)
        · (first | (simp; done) | (simp; omega) | omega))
     | ((with_reducible apply wp_lc)
        · (bv_omega; apply And.intro rfl; apply src1 rfl; first | ((with_reducible apply tgTp); first | exact src_pT _ | exact src_pL _ | exact src_pF _ | exact src_pS _) | ((with_reducible apply tgTe); first | exact src_eT _ | exact src_eL _) | ((with_reducible apply tgT1); first | exact src_range (by omega) (by omega) | exact src_range (by simp only [List.length_map]; omega) (by simp only [List.length_map]; omega)))
        · first | rfl | exact map1 _ _ | exact map2 _ _ _ | exact map3 _ _ _ _
        · rfl
        · (intro _ _; rfl)
        · (intro _ _; rfl)
        · (intro _ _; rfl)
        · rfl
        · (intro _ _; refine wp_cond1 rfl ?_; bv_omega; all_goals first | exact ⟨rfl, rfl⟩ | rfl)
        · (intro _ _ _; bv_omega; all_goals first | exact ⟨rfl, rfl⟩ | rfl)
        · (first | (simp; done) | (simp; omega) | omega))
     | ((with_reducible apply wp_dc0)
        · (bv_omega; apply And.intro rfl; apply src1 rfl; first | ((with_reducible apply tgTp); first | exact src_pT _ | exact src_pL _ | exact src_pF _ | exact src_pS _) | ((with_reducible apply tgTe); first | exact src_eT _ | exact src_eL _) | ((with_reducible apply tgT1); first | exact src_range (by omega) (by omega) | exact src_range (by simp only [List.length_map]; omega) (by simp only [List.length_map]; omega)))
        · first | rfl | exact map1 _ _ | exact map2 _ _ _ | exact map3 _ _ _ _
        · rfl
        · assumption
        · (intro _ _; rfl)
        · (intro _ _; rfl)
        · (intro _ _; rfl)
        · rfl
        · (intro _ _; bv_omega; all_goals first | exact ⟨rfl, rfl⟩ | rfl)
        · (intro _ _; bv_omega; all_goals first | exact ⟨rfl, rfl⟩ | rfl)
        · infer_instance
        · (intro _ _; rfl)
        · (first | (simp; done) | (simp; omega) | omega))
     | ((with_reducible apply wp_mak); · assumption)
     | (with_reducible apply wp_tup)
     | (with_reducible apply wp_lst)
     | (with_reducible apply wp_not)
     | (with_reducible apply wp_neg)
     | (with_reducible apply wp_ifeE)
     | (with_reducible apply wp_isi)
     | (with_reducible apply wp_fld)
     | (with_reducible apply wp_slc)
     | (with_reducible apply wp_rev)
     | (with_reducible apply wp_mth)
     | (with_reducible apply wp_chn)
     | (with_reducible apply wp_dic)
     | (with_reducible apply wp_give)
     | ((with_reducible apply wp_lend); · rfl)
     | ((with_reducible apply wp_frzO); · rfl)
     | ((with_reducible apply wp_frzV); · rfl)
     | ((with_reducible apply wp_movO); · rfl)
     | ((with_reducible apply wp_movV); · rfl)
     | ((with_reducible apply wp_glo); · assumption))
  | ((with_reducible apply tgEs)
     first
     | (with_reducible apply wp_cons)
     | (with_reducible apply wp_nil)
     | (with_reducible apply wp_star))
  | ((with_reducible apply tgS)
     first
     | (with_reducible apply ws_asg)
     | (with_reducible apply ws_exp)
     | (with_reducible apply ws_ife)
     | (with_reducible apply ws_ret)
     | (with_reducible apply ws_sto)
     | (with_reducible apply ws_par)
     | (with_reducible apply ws_unp)
     | (with_reducible apply ws_for)
     | (with_reducible apply ws_whl)
     | (with_reducible apply ws_att)
     | (with_reducible apply ws_retN)
     | (with_reducible apply ws_pas)
     | (with_reducible apply ws_brk)
     | (with_reducible apply ws_cnt))
  | (with_reducible apply ws_cons)
  | (with_reducible apply ws_nil)
  | ((with_reducible apply nx_next); try simp only [List.set_cons_zero, List.set_cons_succ, Int.reduceToNat, Int.toNat_one, Int.toNat_zero])
  | (with_reducible apply nx_ret)
  | ((with_reducible apply wp_or2); rotate_left; intro _; rotate_right)
  | ((with_reducible apply wp_and2); rotate_left; intro _; rotate_right)
  | (with_reducible apply wp_or1)
  | (with_reducible apply wp_and1)
  | ((with_reducible apply tgPb); unfold Pb)
  | ((with_reducible apply tgPq); exact ⟨rfl, rfl⟩)
  | ((with_reducible apply tgK); get_elem_tactic_extensible)
  | ((with_reducible apply tgM); get_elem_tactic_extensible)
  | ((with_reducible apply tgFl); first | refine wp_fldR rfl (by assumption) (lk_spots _ _ _) ?_ | refine wp_fldR rfl (by assumption) (lk_knots _ _ _) ?_ | refine wp_fldR rfl (by assumption) (lk_sides _ _ _) ?_)
  | ((with_reducible apply tgP); refine wp_prpR rfl (by assumption) ?_)
  | (with_reducible apply nx_cnt)
  | (with_reducible apply nx_brk)
  | (with_reducible apply lpk_next)
  | (with_reducible apply lpk_ret)
  | (with_reducible apply lpk_cnt)
  | (with_reducible apply lpk_brk)
  | ((with_reducible apply ck_v); · rfl)
  | ((with_reducible apply ck_f); · rfl)
  | ((with_reducible apply ck_v1)
     · rfl
     · rfl)
  | ((with_reducible apply ck_f1)
     · rfl
     · rfl)
  | ((with_reducible apply end_next); · rfl)
  | ((with_reducible apply end_ret0); · rfl)
  | ((with_reducible apply mk_v); · rfl)
  | ((with_reducible apply tgR)
     first
     | (refine wp_rd2 rfl rfl (wo_lone _) ?_)
     | (refine wp_rd2 rfl rfl (wo_leaf _) ?_)
     | (refine wp_rd2 rfl rfl (wo_pair _) ?_)
     | (refine wp_rd2 rfl rfl (wo_nin _) ?_)
     | (refine wp_rd2 rfl rfl (c_eqL1 _ _) ?_)
     | (refine wp_rd2 rfl rfl (c_eqI _ _) ?_)
     | (refine wp_rd2 rfl rfl (c_neI _ _) ?_)
     | (refine wp_rd2 rfl rfl (b_add _ _) ?_)
     | (refine wp_rd2 rfl rfl (b_sub _ _) ?_)
     | (refine wp_rd2 rfl rfl (b_addL (by first | (simp; done) | (simp; omega) | omega)) ?_)
     | (refine wp_rd2 rfl rfl (b_addT (by first | (simp; done) | (simp; omega) | omega)) ?_)
     | (refine wp_rd2 rfl rfl (c_inN _ _) ?_)
     | (refine wp_rd2 rfl rfl (c_ninN _ _) ?_)
     | (refine wp_rd2 rfl rfl (c_inK' _ _ _) ?_)
     | (refine wp_rd2 rfl rfl (c_inKL _ _ _) ?_)
     | (refine wp_rd2 rfl rfl (c_inT _ _) ?_)
     | (refine wp_rd2 rfl rfl (c_in2 _ _ _) ?_)
     | (refine wp_rd2 rfl rfl (c_inL _ _) ?_)
     | (refine wp_rd2 rfl rfl (c_inD _ _ rfl) ?_)
     | (refine wp_rd2 rfl rfl (c_inD (f := tie) (_, _) _ rfl) ?_)
     | (refine wp_rd2 rfl rfl (c_ninD _ _ rfl) ?_)
     | (refine wp_rd2 rfl rfl (c_ninT _ _) ?_)
     | (refine wp_rd2 rfl rfl (c_ninL _ _) ?_)
     | (refine wp_rd2 rfl rfl (c_eqT0 _) ?_)
     | (refine wp_rd2 rfl rfl (c_neT0 _) ?_)
     | (refine wp_rd2 rfl rfl (c_eqL0 _) ?_)
     | (refine wp_rd2 rfl rfl (c_neL0 _) ?_)
     | (refine wp_rd2 rfl rfl (c_eqL (f := nm) _ _) ?_)
     | (refine wp_rd2 rfl rfl (c_neL (f := nm) _ _) ?_)
     | (refine wp_rd2 rfl rfl (eq_dct0 _) ?_)
     | (refine wp_rd2 rfl rfl (ne_dct0 _) ?_)
     | (refine wp_rd2 rfl rfl (c_eq _ _) ?_)
     | (refine wp_rd2 rfl rfl (c_ne _ _) ?_)
     | (refine wp_rd2 rfl rfl (b_mod (by omega)) ?_)
     | (refine wp_rd2 rfl rfl (b_div (by omega) (by omega)) ?_)
     | (refine wp_rd2 rfl rfl (b_mulL (by omega) (by omega)) ?_)
     | (refine wp_rd2 rfl rfl (b_mulR (by omega) (by omega)) ?_)
     | (refine wp_rd2 rfl rfl (c_neB _ _) ?_)
     | (refine wp_rd2 rfl rfl (c_eqB _ _) ?_)
     | (refine wp_rd2 rfl rfl (c_lt _ _) ?_)
     | (refine wp_rd2 rfl rfl (c_le _ _) ?_)
     | (refine wp_rd2 rfl rfl (c_gt _ _) ?_)
     | (refine wp_rd2 rfl rfl (c_ge _ _) ?_)
     | (refine wp_rd2 rfl rfl (c_is _) ?_)
     | (refine wp_rd2 rfl rfl (c_isn _) ?_)
     | (refine wp_rd2 rfl rfl rfl ?_))
  | (with_reducible apply ws_asgV)
  | (with_reducible apply ws_asgF)
  | (with_reducible apply ws_asgO)
  | (with_reducible apply ws_asgW)
  | (with_reducible apply ws_retV)
  | (with_reducible apply ws_retF)
  | (with_reducible apply ws_par0)
  | (with_reducible apply ws_par1)
  | (with_reducible apply ws_unp0)
  | (with_reducible apply ws_unpN)
  | (with_reducible apply ws_unpS)
  | ((with_reducible apply ws_sub); · rfl)
  | (with_reducible apply wp_dic0)
  | ((with_reducible apply tgDi); refine wp_dic1 rfl rfl rfl ?_)
  | ((with_reducible apply wp_tst))
  | ((refine wp_tupR rfl ?_ ?_); · simp only [List.length_cons, List.length_nil]; decide)
  | ((refine wp_lstR rfl ?_ ?_); · simp only [List.length_cons, List.length_nil]; decide)
  | (with_reducible apply wp_part0)
  | ((with_reducible apply wp_part1); · rfl)
  | ((with_reducible apply tgI); first | refine wp_idxR rfl rfl (idx_0M (by assumption)) ?_ | refine wp_idxR rfl rfl (idx_1M (by assumption)) ?_ | refine wp_idxR rfl rfl (idx_2M (by assumption)) ?_ | refine wp_idxR rfl rfl (idx_3M (by assumption)) ?_ | refine wp_idxR rfl rfl (idx_atM (by assumption)) ?_ | refine wp_idxR rfl rfl (idx_lastM (by assumption)) ?_ | refine wp_idxR rfl rfl (idx_atL (by assumption)) ?_ | refine wp_idxR rfl rfl (idx_near (by assumption) (by assumption)) ?_ | refine wp_idxR rfl rfl (idx_sides (by assumption) (by assumption)) ?_ | refine wp_idxR rfl rfl (idx_0L (by assumption)) ?_ | refine wp_idxR rfl rfl rfl ?_)
  | ((with_reducible apply tgAll); refine wp_bltR rfl (blt_all _ _) ?_)
  | ((with_reducible apply tgAny); refine wp_bltR rfl (blt_any _ _) ?_)
  | ((with_reducible apply tgBl); refine wp_bltR rfl (blt_lenN _) ?_)
  | ((with_reducible apply tgBl); refine wp_bltR rfl rfl ?_)
  | ((with_reducible apply tgD); refine wp_bltR rfl (b_dvm (by omega) (by omega)) ?_)
  | ((with_reducible apply tgC); first | (refine wp_isiR rfl (isi_own (by assumption)) ?_) | (refine wp_isiR rfl rfl ?_))
  | ((with_reducible apply tgL); first | refine wp_slcR rfl (slc_pre _ _ _) ?_ | refine wp_slcR rfl (slc_drop1 _ _ _) ?_ | refine wp_slcR rfl (slc_drop2 _ _ _) ?_ | refine wp_slcR rfl (slc_take _ _ _) ?_ | refine wp_slcR rfl (slc_drop _ _ _) ?_ | refine wp_slcR rfl (slc_init _ _) ?_ | refine wp_slcR rfl (slcL_drop1 _ _ _) ?_ | refine wp_slcR rfl (slcL_take _ _ _) ?_ | refine wp_slcR rfl (slcL_drop _ _ _) ?_ | refine wp_slcR rfl rfl ?_)
  | ((with_reducible apply tgCh)
     apply wp_chnP rfl
     · (bv_omega; all_goals first | exact ⟨rfl, rfl⟩ | rfl)
     · rfl)
  | ((with_reducible apply tg1); first | refine wp_rd1 rfl (rev_tie _) ?_ | refine wp_rd1 rfl rfl ?_)
  | ((with_reducible apply tgO); refine ws_stoR rfl rfl ?_)
  | ((with_reducible apply tgA); refine wp_append rfl rfl (by simp; omega) ?_)
  | ((with_reducible apply tgXm); refine Exists.intro _ (And.intro (mthG_ok rfl rfl (by assumption)) ?_))
  | ((with_reducible apply tgSp); refine Exists.intro _ (And.intro (src1 rfl (by first | exact src_pT _ | exact src_pL _ | exact src_pF _ | exact src_pS _)) ?_))
  | ((with_reducible apply tgSe); refine Exists.intro _ (And.intro (src1 rfl (by first | exact src_eT _ | exact src_eL _)) ?_))
  | ((with_reducible apply tgS1); refine Exists.intro _ (And.intro (src1 rfl (by first | exact src_range (by omega) (by omega) | exact src_range (by simp only [List.length_map]; omega) (by simp only [List.length_map]; omega))) ?_))
  | ((with_reducible apply tgXb); refine Exists.intro _ (And.intro rfl ?_))
  | ((with_reducible apply tgXi); refine Exists.intro _ (And.intro rfl ?_))
  | ((with_reducible apply tgXt); refine Exists.intro _ (And.intro rfl ?_))
  | ((with_reducible apply tgXr); refine Exists.intro _ (And.intro rfl ?_))
  | ((with_reducible apply tgXf); refine Exists.intro _ (And.intro rfl ?_))
  | ((with_reducible apply tgXs); refine Exists.intro _ (And.intro rfl ?_))
  | ((with_reducible apply tgBm); refine And.intro rfl ?_)
  | ((with_reducible apply tgRs); refine And.intro rfl ?_)
  | ((with_reducible apply tgLn); refine And.intro rfl ?_)
  | fail
  )))
local macro_rules | `(tactic| symm_saturate) => `(tactic| (repeat' (first
  | ((with_reducible apply tgE)
     first
     | ((with_reducible apply wp_var); · rfl)
     | (with_reducible apply wp_con)
     | ((with_reducible apply wp_borV); · rfl)
     | ((with_reducible apply wp_borO); · rfl)
     | (with_reducible apply wp_cal)
     | (with_reducible apply wp_bin)
     | (with_reducible apply wp_cmp)
     | (with_reducible apply wp_idx)
     | (with_reducible apply wp_prp)
     | (with_reducible apply wp_blt)
     | (with_reducible apply wp_bmt)
     | ((with_reducible apply wp_lc0)
        · (bv_omega; apply And.intro rfl; apply src1 rfl; first | ((with_reducible apply tgTp); first | exact src_pT _ | exact src_pL _ | exact src_pF _ | exact src_pS _) | ((with_reducible apply tgTe); first | exact src_eT _ | exact src_eL _) | ((with_reducible apply tgT1); first | exact src_range (by omega) (by omega) | exact src_range (by simp only [List.length_map]; omega) (by simp only [List.length_map]; omega)))
        · first | rfl | exact map1 _ _ | exact map2 _ _ _ | exact map3 _ _ _ _
        · rfl
        · (intro _ _; rfl)
        · (intro _ _; rfl)
        · (intro _ _; rfl)
        · rfl
        · (intro _ _; bv_omega; all_goals first | exact ⟨rfl, rfl⟩ | rfl)
        · (first | (simp; done) | (simp; omega) | omega))
     | ((with_reducible apply wp_lc)
        · (bv_omega; apply And.intro rfl; apply src1 rfl; first | ((with_reducible apply tgTp); first | exact src_pT _ | exact src_pL _ | exact src_pF _ | exact src_pS _) | ((with_reducible apply tgTe); first | exact src_eT _ | exact src_eL _) | ((with_reducible apply tgT1); first | exact src_range (by omega) (by omega) | exact src_range (by simp only [List.length_map]; omega) (by simp only [List.length_map]; omega)))
        · first | rfl | exact map1 _ _ | exact map2 _ _ _ | exact map3 _ _ _ _
        · rfl
        · (intro _ _; rfl)
        · (intro _ _; rfl)
        · (intro _ _; rfl)
        · rfl
        · (intro _ _; refine wp_cond1 rfl ?_; bv_omega; all_goals first | exact ⟨rfl, rfl⟩ | rfl)
        · (intro _ _ _; bv_omega; all_goals first | exact ⟨rfl, rfl⟩ | rfl)
        · (first | (simp; done) | (simp; omega) | omega))
     | ((with_reducible apply wp_dc0)
        · (bv_omega; apply And.intro rfl; apply src1 rfl; first | ((with_reducible apply tgTp); first | exact src_pT _ | exact src_pL _ | exact src_pF _ | exact src_pS _) | ((with_reducible apply tgTe); first | exact src_eT _ | exact src_eL _) | ((with_reducible apply tgT1); first | exact src_range (by omega) (by omega) | exact src_range (by simp only [List.length_map]; omega) (by simp only [List.length_map]; omega)))
        · first | rfl | exact map1 _ _ | exact map2 _ _ _ | exact map3 _ _ _ _
        · rfl
        · assumption
        · (intro _ _; rfl)
        · (intro _ _; rfl)
        · (intro _ _; rfl)
        · rfl
        · (intro _ _; bv_omega; all_goals first | exact ⟨rfl, rfl⟩ | rfl)
        · (intro _ _; bv_omega; all_goals first | exact ⟨rfl, rfl⟩ | rfl)
        · infer_instance
        · (intro _ _; rfl)
        · (first | (simp; done) | (simp; omega) | omega))
     | ((with_reducible apply wp_mak); · assumption)
     | (with_reducible apply wp_tup)
     | (with_reducible apply wp_lst)
     | (with_reducible apply wp_not)
     | (with_reducible apply wp_neg)
     | (with_reducible apply wp_ifeE)
     | (with_reducible apply wp_isi)
     | (with_reducible apply wp_fld)
     | (with_reducible apply wp_slc)
     | (with_reducible apply wp_rev)
     | (with_reducible apply wp_mth)
     | (with_reducible apply wp_chn)
     | (with_reducible apply wp_dic)
     | (with_reducible apply wp_give)
     | ((with_reducible apply wp_lend); · rfl)
     | ((with_reducible apply wp_frzO); · rfl)
     | ((with_reducible apply wp_frzV); · rfl)
     | ((with_reducible apply wp_movO); · rfl)
     | ((with_reducible apply wp_movV); · rfl)
     | ((with_reducible apply wp_glo); · assumption))
  | ((with_reducible apply tgEs)
     first
     | (with_reducible apply wp_cons)
     | (with_reducible apply wp_nil)
     | (with_reducible apply wp_star))
  | ((with_reducible apply tgS)
     first
     | (with_reducible apply ws_asg)
     | (with_reducible apply ws_exp)
     | (with_reducible apply ws_ife)
     | (with_reducible apply ws_ret)
     | (with_reducible apply ws_sto)
     | (with_reducible apply ws_par)
     | (with_reducible apply ws_unp)
     | (with_reducible apply ws_for)
     | (with_reducible apply ws_whl)
     | (with_reducible apply ws_att)
     | (with_reducible apply ws_retN)
     | (with_reducible apply ws_pas)
     | (with_reducible apply ws_brk)
     | (with_reducible apply ws_cnt))
  | (with_reducible apply ws_cons)
  | (with_reducible apply ws_nil)
  | ((with_reducible apply nx_next); try simp only [List.set_cons_zero, List.set_cons_succ, Int.reduceToNat, Int.toNat_one, Int.toNat_zero])
  | (with_reducible apply nx_ret)
  | ((with_reducible apply wp_or2); rotate_left; intro _; rotate_right)
  | ((with_reducible apply wp_and2); rotate_left; intro _; rotate_right)
  | (with_reducible apply wp_or1)
  | (with_reducible apply wp_and1)
  | ((with_reducible apply tgPb); unfold Pb)
  | ((with_reducible apply tgPq); exact ⟨rfl, rfl⟩)
  | ((with_reducible apply tgK); get_elem_tactic_extensible)
  | ((with_reducible apply tgM); get_elem_tactic_extensible)
  | ((with_reducible apply tgFl); first | refine wp_fldR rfl (by assumption) (lk_spots _ _ _) ?_ | refine wp_fldR rfl (by assumption) (lk_knots _ _ _) ?_ | refine wp_fldR rfl (by assumption) (lk_sides _ _ _) ?_)
  | ((with_reducible apply tgP); refine wp_prpR rfl (by assumption) ?_)
  | (with_reducible apply nx_cnt)
  | (with_reducible apply nx_brk)
  | (with_reducible apply lpk_next)
  | (with_reducible apply lpk_ret)
  | (with_reducible apply lpk_cnt)
  | (with_reducible apply lpk_brk)
  | ((with_reducible apply ck_v); · rfl)
  | ((with_reducible apply ck_f); · rfl)
  | ((with_reducible apply ck_v1)
     · rfl
     · rfl)
  | ((with_reducible apply ck_f1)
     · rfl
     · rfl)
  | ((with_reducible apply end_next); · rfl)
  | ((with_reducible apply end_ret0); · rfl)
  | ((with_reducible apply mk_v); · rfl)
  | ((with_reducible apply tgR)
     first
     | (refine wp_rd2 rfl rfl (wo_lone _) ?_)
     | (refine wp_rd2 rfl rfl (wo_leaf _) ?_)
     | (refine wp_rd2 rfl rfl (wo_pair _) ?_)
     | (refine wp_rd2 rfl rfl (wo_nin _) ?_)
     | (refine wp_rd2 rfl rfl (c_eqL1 _ _) ?_)
     | (refine wp_rd2 rfl rfl (c_eqI _ _) ?_)
     | (refine wp_rd2 rfl rfl (c_neI _ _) ?_)
     | (refine wp_rd2 rfl rfl (b_add _ _) ?_)
     | (refine wp_rd2 rfl rfl (b_sub _ _) ?_)
     | (refine wp_rd2 rfl rfl (b_addL (by first | (simp; done) | (simp; omega) | omega)) ?_)
     | (refine wp_rd2 rfl rfl (b_addT (by first | (simp; done) | (simp; omega) | omega)) ?_)
     | (refine wp_rd2 rfl rfl (c_inN _ _) ?_)
     | (refine wp_rd2 rfl rfl (c_ninN _ _) ?_)
     | (refine wp_rd2 rfl rfl (c_inK' _ _ _) ?_)
     | (refine wp_rd2 rfl rfl (c_inKL _ _ _) ?_)
     | (refine wp_rd2 rfl rfl (c_inT _ _) ?_)
     | (refine wp_rd2 rfl rfl (c_in2 _ _ _) ?_)
     | (refine wp_rd2 rfl rfl (c_inL _ _) ?_)
     | (refine wp_rd2 rfl rfl (c_inD _ _ rfl) ?_)
     | (refine wp_rd2 rfl rfl (c_inD (f := tie) (_, _) _ rfl) ?_)
     | (refine wp_rd2 rfl rfl (c_ninD _ _ rfl) ?_)
     | (refine wp_rd2 rfl rfl (c_ninT _ _) ?_)
     | (refine wp_rd2 rfl rfl (c_ninL _ _) ?_)
     | (refine wp_rd2 rfl rfl (c_eqT0 _) ?_)
     | (refine wp_rd2 rfl rfl (c_neT0 _) ?_)
     | (refine wp_rd2 rfl rfl (c_eqL0 _) ?_)
     | (refine wp_rd2 rfl rfl (c_neL0 _) ?_)
     | (refine wp_rd2 rfl rfl (c_eqL (f := nm) _ _) ?_)
     | (refine wp_rd2 rfl rfl (c_neL (f := nm) _ _) ?_)
     | (refine wp_rd2 rfl rfl (eq_dct0 _) ?_)
     | (refine wp_rd2 rfl rfl (ne_dct0 _) ?_)
     | (refine wp_rd2 rfl rfl (c_eq _ _) ?_)
     | (refine wp_rd2 rfl rfl (c_ne _ _) ?_)
     | (refine wp_rd2 rfl rfl (b_mod (by omega)) ?_)
     | (refine wp_rd2 rfl rfl (b_div (by omega) (by omega)) ?_)
     | (refine wp_rd2 rfl rfl (b_mulL (by omega) (by omega)) ?_)
     | (refine wp_rd2 rfl rfl (b_mulR (by omega) (by omega)) ?_)
     | (refine wp_rd2 rfl rfl (c_neB _ _) ?_)
     | (refine wp_rd2 rfl rfl (c_eqB _ _) ?_)
     | (refine wp_rd2 rfl rfl (c_lt _ _) ?_)
     | (refine wp_rd2 rfl rfl (c_le _ _) ?_)
     | (refine wp_rd2 rfl rfl (c_gt _ _) ?_)
     | (refine wp_rd2 rfl rfl (c_ge _ _) ?_)
     | (refine wp_rd2 rfl rfl (c_is _) ?_)
     | (refine wp_rd2 rfl rfl (c_isn _) ?_)
     | (refine wp_rd2 rfl rfl rfl ?_))
  | (with_reducible apply ws_asgV)
  | (with_reducible apply ws_asgF)
  | (with_reducible apply ws_asgO)
  | (with_reducible apply ws_asgW)
  | (with_reducible apply ws_retV)
  | (with_reducible apply ws_retF)
  | (with_reducible apply ws_par0)
  | (with_reducible apply ws_par1)
  | (with_reducible apply ws_unp0)
  | (with_reducible apply ws_unpN)
  | (with_reducible apply ws_unpS)
  | ((with_reducible apply ws_sub); · rfl)
  | (with_reducible apply wp_dic0)
  | ((with_reducible apply tgDi); refine wp_dic1 rfl rfl rfl ?_)
  | ((with_reducible apply wp_tst))
  | ((refine wp_tupR rfl ?_ ?_); · simp only [List.length_cons, List.length_nil]; decide)
  | ((refine wp_lstR rfl ?_ ?_); · simp only [List.length_cons, List.length_nil]; decide)
  | (with_reducible apply wp_part0)
  | ((with_reducible apply wp_part1); · rfl)
  | ((with_reducible apply tgI); first | refine wp_idxR rfl rfl (idx_0M (by assumption)) ?_ | refine wp_idxR rfl rfl (idx_1M (by assumption)) ?_ | refine wp_idxR rfl rfl (idx_2M (by assumption)) ?_ | refine wp_idxR rfl rfl (idx_3M (by assumption)) ?_ | refine wp_idxR rfl rfl (idx_atM (by assumption)) ?_ | refine wp_idxR rfl rfl (idx_lastM (by assumption)) ?_ | refine wp_idxR rfl rfl (idx_atL (by assumption)) ?_ | refine wp_idxR rfl rfl (idx_near (by assumption) (by assumption)) ?_ | refine wp_idxR rfl rfl (idx_sides (by assumption) (by assumption)) ?_ | refine wp_idxR rfl rfl (idx_0L (by assumption)) ?_ | refine wp_idxR rfl rfl rfl ?_)
  | ((with_reducible apply tgAll); refine wp_bltR rfl (blt_all _ _) ?_)
  | ((with_reducible apply tgAny); refine wp_bltR rfl (blt_any _ _) ?_)
  | ((with_reducible apply tgBl); refine wp_bltR rfl (blt_lenN _) ?_)
  | ((with_reducible apply tgBl); refine wp_bltR rfl rfl ?_)
  | ((with_reducible apply tgD); refine wp_bltR rfl (b_dvm (by omega) (by omega)) ?_)
  | ((with_reducible apply tgC); first | (refine wp_isiR rfl (isi_own (by assumption)) ?_) | (refine wp_isiR rfl rfl ?_))
  | ((with_reducible apply tgL); first | refine wp_slcR rfl (slc_pre _ _ _) ?_ | refine wp_slcR rfl (slc_drop1 _ _ _) ?_ | refine wp_slcR rfl (slc_drop2 _ _ _) ?_ | refine wp_slcR rfl (slc_take _ _ _) ?_ | refine wp_slcR rfl (slc_drop _ _ _) ?_ | refine wp_slcR rfl (slc_init _ _) ?_ | refine wp_slcR rfl (slcL_drop1 _ _ _) ?_ | refine wp_slcR rfl (slcL_take _ _ _) ?_ | refine wp_slcR rfl (slcL_drop _ _ _) ?_ | refine wp_slcR rfl rfl ?_)
  | ((with_reducible apply tgCh)
     apply wp_chnP rfl
     · (bv_omega; all_goals first | exact ⟨rfl, rfl⟩ | rfl)
     · rfl)
  | ((with_reducible apply tg1); first | refine wp_rd1 rfl (rev_tie _) ?_ | refine wp_rd1 rfl rfl ?_)
  | ((with_reducible apply tgO); refine ws_stoR rfl rfl ?_)
  | ((with_reducible apply tgA); refine wp_append rfl rfl (by simp; omega) ?_)
  | ((with_reducible apply tgXm); refine Exists.intro _ (And.intro (mthG_ok rfl rfl (by assumption)) ?_))
  | ((with_reducible apply tgSp); refine Exists.intro _ (And.intro (src1 rfl (by first | exact src_pT _ | exact src_pL _ | exact src_pF _ | exact src_pS _)) ?_))
  | ((with_reducible apply tgSe); refine Exists.intro _ (And.intro (src1 rfl (by first | exact src_eT _ | exact src_eL _)) ?_))
  | ((with_reducible apply tgS1); refine Exists.intro _ (And.intro (src1 rfl (by first | exact src_range (by omega) (by omega) | exact src_range (by simp only [List.length_map]; omega) (by simp only [List.length_map]; omega))) ?_))
  | ((with_reducible apply tgXb); refine Exists.intro _ (And.intro rfl ?_))
  | ((with_reducible apply tgXi); refine Exists.intro _ (And.intro rfl ?_))
  | ((with_reducible apply tgXt); refine Exists.intro _ (And.intro rfl ?_))
  | ((with_reducible apply tgXr); refine Exists.intro _ (And.intro rfl ?_))
  | ((with_reducible apply tgXf); refine Exists.intro _ (And.intro rfl ?_))
  | ((with_reducible apply tgXs); refine Exists.intro _ (And.intro rfl ?_))
  | ((with_reducible apply tgBm); refine And.intro rfl ?_)
  | ((with_reducible apply tgRs); refine And.intro rfl ?_)
  | ((with_reducible apply tgLn); refine And.intro rfl ?_)
  | fail
  )))
section
variable {W : Wd} {fns : Nat → Option Fn} {n : Nu} {k : Nat} {P : Res → Prop}
theorem s_tied (H : H_law_tied W fns n) (hk : 1 ≤ k) (ks : List (Nm × Nm)) (x y : Nm) (hP : P (.ok (.bl (tied ks x y)) false [])) : P (runF W fns k (n.f 4) [.val (ties ks), .val (nm x), .val (nm y)]) := by
  refine run_post H.at_ hk ?_
  cases H
  show Wp (exs W (runF W fns (k - 1)) (b_law_tied n) [.val (ties ks), .val (nm x), .val (nm y)]) _ _
  unfold b_law_tied
  bv_omega
  exact hP
local macro_rules | `(tactic| get_elem_tactic_extensible) => `(tactic| (refine wp_callK (H_law_tied.dv (by assumption)) rfl (by decide) (s_tied (by assumption) (by omega) _ _ _ ?_)))
theorem cst9 : cst 9 = 986410 := by decide +kernel
/-- the state of the search -/
structure Tr (w : Wb) (x y : Nm) (fd fr : List (List Nm)) : Prop where
  hfr : ∀ q ∈ fr, ∃ z, Way w x q z
  hfd : ∀ p ∈ fd, Way w x p y
  all : ∀ p, Way w x p y → p ∈ fd ∨ ∃ q ∈ fr, q <+: p
  nd : fd.Nodup
  ac : fr.Pairwise fun a b => ¬ a <+: b ∧ ¬ b <+: a
  ap : ∀ p ∈ fd, ∀ q ∈ fr, ¬ q <+: p
  len : fd.length + cstL w.ts.length fr ≤ cst 9
theorem Tr.start {w : Wb} {x y : Nm} (hx : x ∈ w.ts) (hl : w.ts.length ≤ 10) : Tr w x y [] [[x]] := by
  refine ⟨?_, by simp, fun p h => .inr ⟨[x], by simp, ?_⟩, .nil, by simp, by simp, ?_⟩
  · intro q hq
    rw [List.mem_singleton] at hq
    exact ⟨x, hq ▸ .one hx⟩
  · induction h with
    | one _ => exact List.prefix_refl _
    | snoc _ _ _ _ ih => exact ih.trans (List.prefix_append _ _)
  · simp only [cstL, List.map_cons, List.map_nil, List.sum_cons, List.sum_nil, List.length_cons, List.length_nil]
    have := cst_mono (show w.ts.length - (0 + 1) ≤ 9 by omega)
    omega
theorem Tr.hit {w : Wb} {x y : Nm} {fd fr : List (List Nm)} {q : List Nm} (h : Tr w x y fd (fr ++ [q])) (hq : Way w x q y) : Tr w x y (fd ++ [q]) fr := by
  have ac := h.ac
  rw [List.pairwise_append] at ac
  refine ⟨fun p m => h.hfr p (List.mem_append_left _ m), ?_, ?_, ?_, ac.1, ?_, ?_⟩
  · intro p m
    rcases List.mem_append.mp m with m | m
    · exact h.hfd p m
    · rw [List.mem_singleton] at m
      exact m ▸ hq
  · intro p hp
    rcases h.all p hp with m | ⟨r, m, hr⟩
    · exact .inl (List.mem_append_left _ m)
    · rcases List.mem_append.mp m with m | m
      · exact .inr ⟨r, m, hr⟩
      · rw [List.mem_singleton] at m
        subst m
        rw [hp.pre_end hr hq]
        exact .inl (by simp)
  · rw [List.nodup_append]
    refine ⟨h.nd, by simp, fun a ha b hb e => ?_⟩
    rw [List.mem_singleton] at hb
    subst hb; subst e
    exact h.ap a ha a (by simp) (List.prefix_refl _)
  · intro p hp r hr
    rcases List.mem_append.mp hp with m | m
    · exact h.ap p m r (List.mem_append_left _ hr)
    · rw [List.mem_singleton] at m
      subst m
      exact (ac.2.2 r hr p (by simp)).1
  · have := h.len
    rw [cstL_app] at this
    have h2 := cst_pos (w.ts.length - q.length)
    simp only [cstL, List.map_cons, List.map_nil, List.sum_cons, List.sum_nil, List.length_append, List.length_cons, List.length_nil] at *
    omega
theorem Tr.go {w : Wb} {x y z : Nm} {fd fr : List (List Nm)} {q : List Nm} (h : Tr w x y fd (fr ++ [q])) (hw : w.ts.Nodup) (hq : Way w x q z) (hn : z ≠ y) : Tr w x y fd (fr ++ (w.ts.filter fun a => !decide (a ∈ q) && tied w.ks z a).map fun a => q ++ [a]) ∧ cstL w.ts.length (fr ++ (w.ts.filter fun a => !decide (a ∈ q) && tied w.ks z a).map fun a => q ++ [a]) < cstL w.ts.length (fr ++ [q]) := by
  have ac := h.ac
  rw [List.pairwise_append] at ac
  generalize hf : (w.ts.filter fun a => !decide (a ∈ q) && tied w.ks z a) = l
  have ml : ∀ a, a ∈ l ↔ a ∈ w.ts ∧ a ∉ q ∧ tied w.ks z a = true := fun a => by rw [← hf]; simp
  have ln : l.Nodup := hf ▸ hw.filter _
  have c1 := cstL_go hq.nodup hq.sub hw l ln fun a ha => ⟨((ml a).mp ha).1, ((ml a).mp ha).2.1⟩
  have c2 : cstL w.ts.length (fr ++ l.map fun a => q ++ [a]) + 1 ≤ cstL w.ts.length (fr ++ [q]) := by
    rw [cstL_app, cstL_app]
    have : cstL w.ts.length [q] = cst (w.ts.length - q.length) := by simp [cstL]
    omega
  have kid : ∀ a b : Nm, ∀ r ∈ fr, ¬ r <+: (q ++ [a]) ∧ ¬ (q ++ [a]) <+: r := fun a b r hr => by
    have := ac.2.2 r hr q (by simp)
    constructor
    · intro k
      rcases List.prefix_concat_iff.mp k with k | k
      · exact this.2 (k ▸ List.prefix_append _ _)
      · exact this.1 k
    · intro k
      exact this.2 ((List.prefix_append _ _).trans k)
  refine ⟨⟨?_, h.hfd, ?_, h.nd, ?_, ?_, ?_⟩, by omega⟩
  · intro r m
    rcases List.mem_append.mp m with m | m
    · exact h.hfr r (List.mem_append_left _ m)
    · obtain ⟨a, ha, rfl⟩ := List.mem_map.mp m
      obtain ⟨a1, a2, a3⟩ := (ml a).mp ha
      exact ⟨a, .snoc hq a1 a2 a3⟩
  · intro p hp
    rcases h.all p hp with m | ⟨r, m, hr⟩
    · exact .inl m
    · rcases List.mem_append.mp m with m | m
      · exact .inr ⟨r, List.mem_append_left _ m, hr⟩
      · rw [List.mem_singleton] at m
        subst m
        obtain ⟨a, a1, a2, a3, a4⟩ := hp.nextTown hr hq hn
        exact .inr ⟨r ++ [a], List.mem_append_right _ (List.mem_map.mpr ⟨a, (ml a).mpr ⟨a1, a2, a3⟩, rfl⟩), a4⟩
  · rw [List.pairwise_append]
    refine ⟨ac.1, ?_, ?_⟩
    · rw [List.pairwise_map]
      refine List.Pairwise.imp ?_ ln
      intro a b hab
      constructor
      · intro k
        have := List.IsPrefix.eq_of_length k (by simp)
        exact hab (by simpa using this)
      · intro k
        have := List.IsPrefix.eq_of_length k (by simp)
        exact hab (by simpa using this.symm)
    · intro r hr s hs
      obtain ⟨a, ha, rfl⟩ := List.mem_map.mp hs
      exact kid a a r hr
  · intro p hp r m
    rcases List.mem_append.mp m with m | m
    · exact h.ap p hp r (List.mem_append_left _ m)
    · obtain ⟨a, ha, rfl⟩ := List.mem_map.mp m
      intro k
      exact h.ap p hp q (by simp) ((List.prefix_append _ _).trans k)
  · have := h.len
    omega
theorem s_trails (H : H_law_trails W fns n) (hk : 2 ≤ k) (w : Wb) (ok : w.Ok) (x y : Nm) (hx : x ∈ w.ts) (hP : ∀ ps : List (List Nm), (∀ p, p ∈ ps ↔ Way w x p y) → ps.Nodup → ps.length ≤ 1000000 → P (.ok (.lst (ps.map nms)) true [])) : P (runF W fns k (n.f 5) [.val (nms w.ts), .val (ties w.ks), .val (nm x), .val (nm y)]) := by
  refine run_post H.at_ (by omega) ?_
  cases H
  show Wp (exs W (runF W fns (k - 1)) (b_law_trails n) [.val (nms w.ts), .val (ties w.ks), .val (nm x), .val (nm y), .dead, .dead, .dead, .dead, .dead]) _ _
  unfold b_law_trails
  have hl := ok.len
  have c9 := cst9
  bv_omega
  refine wp_whlL (fun m e => ∃ (fd fr : List (List Nm)) (s6 s7 : Sl), Tr w x y fd fr ∧ m = cstL w.ts.length fr ∧ e = [.val (nms w.ts), .val (ties w.ks), .val (nm x), .val (nm y), .own none (.lst (fd.map nms)), .own none (.lst (fr.map nms)), s6, s7, .dead]) (cstL w.ts.length [[x]]) ?_ ⟨[], [[x]], _, _, .start hx hl, rfl, rfl⟩ ?_
  · have := (Tr.start (y := y) hx hl).len
    omega
  · rintro m e ⟨fd, fr, s6, s7, tr, rfl, rfl⟩
    have l1 := tr.len
    have l2 := cstL_len w.ts.length fr
    bv_omega
    refine ifP (fun hf => ?_) fun hf => ?_
    · have hfr : fr ≠ [] := by simpa using hf
      obtain ⟨fr, q, rfl⟩ : ∃ fr' q, fr = fr' ++ [q] := ⟨_, _, (List.dropLast_concat_getLast hfr).symm⟩
      obtain ⟨z, hz⟩ := tr.hfr q (by simp)
      have hzl := hz.last
      have hq10 : q.length ≤ 10 := Nat.le_trans (nodup_len hz.nodup hz.sub) hl
      bv_omega
      refine wp_pop0 (o := none) (xs := fr.map nms) (d := nms q) (by simp) ?_
      bv_omega
      refine wp_if (fun hc => ?_) fun hc => ?_
      · have hzy : z = y := by simpa using hc
        subst hzy
        bv_omega
        refine ⟨_, ?_, fd ++ [q], fr, .val (nms q), s7, tr.hit hz, rfl, by simp⟩
        rw [cstL_app]
        have := cst_pos (w.ts.length - q.length)
        simp only [cstL, List.map_cons, List.map_nil, List.sum_cons, List.sum_nil]
        omega
      · have hzy : z ≠ y := by simpa using hc
        obtain ⟨g1, g2⟩ := tr.go ok.nd hz hzy
        have l3 := g1.len
        have l4 := cstL_len w.ts.length (fr ++ (w.ts.filter fun a => !decide (a ∈ q) && tied w.ks z a).map fun a => q ++ [a])
        have hfl : (w.ts.filter fun a => !decide (a ∈ q) && tied w.ks z a).length ≤ 10 := Nat.le_trans (List.length_filter_le _ _) hl
        bv_omega
        refine wp_rd2 rfl rfl (b_addL (by simp only [List.length_append, List.length_map] at l4 ⊢; omega)) ?_
        bv_omega
        refine ⟨_, g2, fd, _, .val (nms q), .val (.lst ((w.ts.filter fun a => !decide (a ∈ q) && tied w.ks z a).map nm)), g1, rfl, ?_⟩
        rw [List.map_append, List.map_map]
        have : (nms ∘ fun a => q ++ [a]) = fun x => D.tup (List.map nm q ++ [nm x]) := by
          funext x
          simp [nms]
        rw [this]
    · bv_omega
      have hfr : fr = [] := by simpa using hf
      subst hfr
      exact hP fd (fun p => ⟨tr.hfd p, fun h => (tr.all p h).elim id fun ⟨q, m, _⟩ => absurd m (by simp)⟩) tr.nd (by omega)
local macro_rules | `(tactic| get_elem_tactic_extensible) => `(tactic| (refine wp_callK (H_law_trails.dv (by assumption)) rfl (by decide) (s_trails (by assumption) (by omega) _ (by assumption) _ _ (by assumption) (fun ps hp1 hp2 hp3 => ?_))))
end
local macro_rules | `(tactic| get_elem_tactic_extensible) => `(tactic| (refine wp_callK (H_law_tied.dv (by assumption)) rfl (by decide) (s_tied (by assumption) (by omega) _ _ _ ?_)))
local macro_rules | `(tactic| get_elem_tactic_extensible) => `(tactic| (refine wp_callK (H_law_trails.dv (by assumption)) rfl (by decide) (s_trails (by assumption) (by omega) _ (by assumption) _ _ (by assumption) (fun ps hp1 hp2 hp3 => ?_))))
/-! ## parts -/
theorem Rch.congr {w v : Wb} (h : ∀ x, x ∈ w.ts → x ∈ v.ts) (t : ∀ x y, x ∈ w.ts → y ∈ w.ts → tied w.ks x y = true → tied v.ks x y = true) {x y : Nm} {n : Nat} (r : Rch w x y n) : Rch v x y n := by
  induction r with
  | refl hx => exact .refl (h _ hx)
  | step r hz tt ih => exact .step ih (h _ hz) (t _ _ r.right hz tt)
/-- a row of towns hangs together -/
def Whole (ks : List (Nm × Nm)) (p : List Nm) : Prop := ∀ x ∈ p, ∀ y ∈ p, ∃ n, Rch ⟨p, ks⟩ x y n
theorem Whole.perm {ks : List (Nm × Nm)} {p q : List Nm} (h : ∀ x, x ∈ p ↔ x ∈ q) : Whole ks p ↔ Whole ks q := by
  have key : ∀ {p q : List Nm}, (∀ x, x ∈ p ↔ x ∈ q) → Whole ks p → Whole ks q := @fun p q h w x hx y hy => by
    obtain ⟨n, r⟩ := w x ((h x).mpr hx) y ((h y).mpr hy)
    exact ⟨n, r.congr (w := ⟨p, ks⟩) (v := ⟨q, ks⟩) (fun z => (h z).mp) fun _ _ _ _ t => t⟩
  exact ⟨key h, key fun x => (h x).symm⟩
/-- all of it is reached from one town -/
theorem Whole.of {ks : List (Nm × Nm)} {p : List Nm} {a : Nm} (h : ∀ y ∈ p, ∃ n, Rch ⟨p, ks⟩ a y n) : Whole ks p := fun x hx y hy => by
  obtain ⟨m, r⟩ := h x hx
  obtain ⟨n, s⟩ := h y hy
  exact ⟨_, r.symm.trans s⟩
/-- as many are reached as there are -/
theorem Whole.count {ks : List (Nm × Nm)} {p : List Nm} (hp : p.Nodup) {a : Nm} (ha : a ∈ p) {l : List (Nm × Nat)} (h1 : (l.map (·.1)).Nodup) (h2 : ∀ x, x ∈ l.map (·.1) ↔ ∃ n, Rch ⟨p, ks⟩ a x n) : l.length = p.length ↔ Whole ks p := by
  have sub : ∀ x ∈ l.map (·.1), x ∈ p := fun x hx => by
    obtain ⟨n, r⟩ := (h2 x).mp hx
    exact r.right
  constructor
  · intro e
    refine .of (a := a) fun y hy => ?_
    rw [← h2]
    refine Decidable.byContradiction fun hn => ?_
    have := nodup_len (l := y :: l.map (·.1)) (m := p) (List.nodup_cons.mpr ⟨hn, h1⟩) fun x hx => by
      rcases List.mem_cons.mp hx with rfl | hx
      · exact hy
      · exact sub x hx
    simp at this
    omega
  · intro w
    have a1 := nodup_len h1 sub
    have a2 := nodup_len hp fun x hx => (h2 x).mpr (w a ha x hx)
    simp at a1 a2
    omega
theorem Whole.one {ks : List (Nm × Nm)} {a : Nm} : Whole ks [a] := fun x hx y hy => by
  rw [List.mem_singleton] at hx hy
  subst hx; subst hy
  exact ⟨0, .refl (by simp)⟩
theorem Whole.two {ks : List (Nm × Nm)} {a b : Nm} (hab : a ≠ b) : Whole ks [a, b] ↔ tied ks a b = true := by
  constructor
  · intro w
    obtain ⟨n, r⟩ := w a (by simp) b (by simp)
    have key : ∀ {x y n}, Rch ⟨[a, b], ks⟩ x y n → x = a → y = b → tied ks a b = true := by
      intro x y n r
      induction r with
      | refl _ => intro e1 e2; exact absurd (e1.symm.trans e2) hab
      | step r hz t ih =>
        intro e1 e2
        subst e2
        have hy := r.right
        simp only [List.mem_cons, List.not_mem_nil, or_false] at hy
        rcases hy with rfl | rfl
        · exact t
        · exact ih e1 rfl
    exact key r rfl rfl
  · intro t
    refine .of (a := a) fun y hy => ?_
    simp only [List.mem_cons, List.not_mem_nil, or_false] at hy
    rcases hy with rfl | rfl
    · exact ⟨0, .refl (by simp)⟩
    · exact ⟨1, .step (.refl (by simp)) (by simp) t⟩
/-- all lots of a row, each in its order -/
def lots (ts : List Nm) : List (List Nm) := ts.foldl (fun l x => l ++ l.map fun p => p ++ [x]) [[]]
theorem lots_snoc (ts : List Nm) (x : Nm) : lots (ts ++ [x]) = lots ts ++ (lots ts).map fun p => p ++ [x] := by simp [lots]
theorem lots_ind {P : List Nm → List Nm → Prop} (h0 : P [] []) (h1 : ∀ ts p x, P ts p → P (ts ++ [x]) p) (h2 : ∀ ts p x, P ts p → P (ts ++ [x]) (p ++ [x])) (ts : List Nm) : ∀ p ∈ lots ts, P ts p := by
  have key : ∀ n, ∀ ts : List Nm, ts.length = n → ∀ p ∈ lots ts, P ts p := by
    intro n
    induction n with
    | zero =>
      intro ts hl p hp
      have : ts = [] := List.length_eq_zero_iff.mp hl
      subst this
      simp [lots] at hp
      subst hp
      exact h0
    | succ n ih =>
      intro ts hl p hp
      have hne : ts ≠ [] := by intro e; subst e; simp at hl
      obtain ⟨ts', x, rfl⟩ : ∃ ts' x, ts = ts' ++ [x] := ⟨_, _, (List.dropLast_concat_getLast hne).symm⟩
      rw [lots_snoc] at hp
      have ih' := ih ts' (by simpa using hl)
      rcases List.mem_append.mp hp with hp | hp
      · exact h1 _ _ _ (ih' p hp)
      · obtain ⟨q, hq, rfl⟩ := List.mem_map.mp hp
        exact h2 _ _ _ (ih' q hq)
  exact key _ ts rfl
theorem lots_sub {ts p : List Nm} (h : p ∈ lots ts) : p.Sublist ts := lots_ind (P := fun ts p => p.Sublist ts) (List.Sublist.refl _) (fun ts p x h => h.trans (List.sublist_append_left _ _)) (fun ts p x h => List.Sublist.append h (List.Sublist.refl _)) ts p h
theorem lots_len (ts : List Nm) : (lots ts).length = 2 ^ ts.length := by
  have key : ∀ n, ∀ ts : List Nm, ts.length = n → (lots ts).length = 2 ^ n := by
    intro n
    induction n with
    | zero => intro ts hl; rw [List.length_eq_zero_iff.mp hl]; rfl
    | succ n ih =>
      intro ts hl
      have hne : ts ≠ [] := by intro e; subst e; simp at hl
      obtain ⟨ts', x, rfl⟩ : ∃ ts' x, ts = ts' ++ [x] := ⟨_, _, (List.dropLast_concat_getLast hne).symm⟩
      rw [lots_snoc, List.length_append, List.length_map, ih ts' (by simpa using hl), Nat.pow_succ]
      omega
  exact key _ ts rfl
/-- a part's web -/
def sub (w : Wb) (p : List Nm) : Wb := ⟨w.ts.filter fun t => decide (t ∈ p), w.ks.filter fun k => decide (k.1 ∈ p) && decide (k.2 ∈ p)⟩
theorem mem_sub {w : Wb} {p : List Nm} {x : Nm} : x ∈ (sub w p).ts ↔ x ∈ w.ts ∧ x ∈ p := by simp [sub]
theorem tied_sub {w : Wb} {p : List Nm} {x y : Nm} (hx : x ∈ p) (hy : y ∈ p) : tied (sub w p).ks x y = tied w.ks x y := by simp [sub, tied, hx, hy]
theorem sub_ok {w : Wb} (ok : w.Ok) {p : List Nm} (h : ∃ x ∈ p, x ∈ w.ts) : (sub w p).Ok := by
  refine ⟨?_, ok.nd.filter _, Nat.le_trans (List.length_filter_le _ _) ok.len, ?_, ok.un.filter _, Nat.le_trans (List.length_filter_le _ _) ok.kl⟩
  · obtain ⟨x, hx, hw⟩ := h
    intro e
    have : x ∈ (sub w p).ts := mem_sub.mpr ⟨hw, hx⟩
    rw [e] at this
    simp at this
  · intro k hk
    have hk' := List.mem_filter.mp hk
    have h1 := ok.pr k hk'.1
    have h2 := hk'.2
    simp only [pairB, Bool.and_eq_true, Bool.not_eq_true', decide_eq_false_iff_not, decide_eq_true_eq] at h1 h2 ⊢
    exact ⟨h1.1, mem_sub.mpr ⟨h1.2.1, h2.1⟩, mem_sub.mpr ⟨h1.2.2, h2.2⟩⟩
theorem rch_sub {w : Wb} {p : List Nm} (hs : ∀ x ∈ p, x ∈ w.ts) {x y : Nm} {n : Nat} : Rch (sub w p) x y n ↔ Rch ⟨p, w.ks⟩ x y n := by
  constructor
  · intro r
    exact r.congr (fun z hz => (mem_sub.mp hz).2) fun a b ha hb t => by
      rw [tied_sub (mem_sub.mp ha).2 (mem_sub.mp hb).2] at t
      exact t
  · intro r
    exact r.congr (fun z hz => mem_sub.mpr ⟨hs z hz, hz⟩) fun a b ha hb t => by
      rw [tied_sub ha hb]
      exact t
/-! ### a search by a queue -/
/-- what is known: all up to d; in A the unread of d, in B those of d + 1 -/
structure Qv (w : Wb) (t : Nm) (d : Nat) (l : List (Nm × Nat)) (A B : List Nm) : Prop where
  nd : (l.map (·.1)).Nodup
  le : ∀ x e, (x, e) ∈ l → e ≤ d + 1 ∧ Dst w t x e
  ge : ∀ x e, e ≤ d → Dst w t x e → (x, e) ∈ l
  hA : ∀ x ∈ A, (x, d) ∈ l
  hB : ∀ x, x ∈ B ↔ (x, d + 1) ∈ l
  rd : ∀ x, (x, d) ∈ l → x ∉ A → ∀ y ∈ w.ts, tied w.ks x y = true → y ∈ l.map (·.1)
theorem Qv.start {w : Wb} {t : Nm} (ht : t ∈ w.ts) : Qv w t 0 [(t, 0)] [t] [] := by
  refine ⟨by simp, ?_, ?_, by simp, by simp, ?_⟩
  · intro x e m
    simp only [List.mem_singleton, Prod.mk.injEq] at m
    obtain ⟨rfl, rfl⟩ := m
    exact ⟨by omega, .zero ht⟩
  · intro x e he k
    have : e = 0 := by omega
    subst this
    cases k.1 with
    | refl _ => simp
  · intro x hx hn
    simp only [List.mem_singleton, Prod.mk.injEq, and_true] at hx hn
    exact absurd hx hn
theorem Qv.shift {w : Wb} {t : Nm} {d : Nat} {l : List (Nm × Nat)} {B : List Nm} (h : Qv w t d l [] B) : Qv w t (d + 1) l B [] := by
  refine ⟨h.nd, fun x e m => ⟨by have := (h.le x e m).1; omega, (h.le x e m).2⟩, ?_, fun x hx => (h.hB x).mp hx, ?_, ?_⟩
  · intro x e he k
    rcases Nat.lt_or_ge d e with z | z
    · have : e = d + 1 := by omega
      subst this
      obtain ⟨y, hy, ty⟩ := k.pred
      have := h.rd y (h.ge y d (Nat.le_refl _) hy) (by simp) x k.1.right ty
      obtain ⟨⟨x', e'⟩, m, rfl⟩ := List.mem_map.mp this
      have := (h.le _ _ m).2.uniq k
      exact this ▸ m
    · exact h.ge x e z k
  · intro x
    constructor
    · intro m; simp at m
    · intro m
      have := (h.le _ _ m).1
      omega
  · intro x hx hn
    exact absurd ((h.hB x).mpr hx) hn
theorem Qv.done {w : Wb} {t : Nm} {d : Nat} {l : List (Nm × Nat)} (h : Qv w t d l [] []) : ∀ x e, (x, e) ∈ l ↔ Dst w t x e := by
  have none : ∀ j x, ¬ Dst w t x (d + 1 + j) := by
    intro j
    induction j with
    | zero =>
      intro x k
      have h' := h.shift
      have := h'.hA
      have hx := h'.ge x (d + 1) (Nat.le_refl _) k
      exact absurd ((h.hB x).mpr hx) (by simp)
    | succ j ih => intro x k; obtain ⟨z, hz, _⟩ := Dst.pred (d := d + 1 + j) k; exact ih z hz
  refine fun x e => ⟨fun m => (h.le x e m).2, fun k => ?_⟩
  rcases Nat.lt_or_ge d e with z | z
  · obtain ⟨j, rfl⟩ := Nat.exists_eq_add_of_lt z
    exact absurd k (by have := none j x; rwa [show d + 1 + j = d + j + 1 by omega] at this)
  · exact h.ge x e z k
theorem Qv.len {w : Wb} {t : Nm} {d : Nat} {l : List (Nm × Nat)} {A B : List Nm} (h : Qv w t d l A B) : l.length ≤ w.ts.length := by
  have := nodup_len (m := w.ts) h.nd fun x m => by
    obtain ⟨⟨y, e⟩, m', rfl⟩ := List.mem_map.mp m
    exact (h.le _ _ m').2.1.right
  simpa using this
/-! ## the law's own search; lots; parts -/
section
variable {W : Wd} {fns : Nat → Option Fn} {n : Nu} {k : Nat} {P : Res → Prop}
theorem s_reach (H : H_law_reach W fns n) (hk : 2 ≤ k) (ts : List Nm) (ks : List (Nm × Nm)) (t : Nm) (hl : ts.length ≤ 10) (ht : t ∈ ts) (hP : ∀ l : List (Nm × Nat), (l.map (·.1)).Nodup → (∀ x d, (x, d) ∈ l ↔ Dst ⟨ts, ks⟩ t x d) → l.length ≤ 10 → P (.ok (.dct false (l.map (kvD nm natD))) true [])) : P (runF W fns k (n.f 27) [.val (nms ts), .val (ties ks), .val (nm t)]) := by
  refine run_post H.at_ (by omega) ?_
  cases H
  show Wp (exs W (runF W fns (k - 1)) (b_law_reach n) [.val (nms ts), .val (ties ks), .val (nm t), .dead, .dead, .dead, .dead]) _ _
  unfold b_law_reach
  symm_saturate
  refine wp_whlL (fun m e => ∃ (d : Nat) (l : List (Nm × Nat)) (A B : List Nm) (s5 s6 : Sl), Qv ⟨ts, ks⟩ t d l A B ∧ m = 2 * (11 - l.length) + (A.length + B.length) ∧ m ≤ 21 ∧ e = [.val (nms ts), .val (ties ks), .val (nm t), .own none (.dct false (l.map (kvD nm natD))), .own none (.lst ((A ++ B).map nm)), s5, s6]) 21 (by omega) ⟨0, [(t, 0)], [t], [], _, _, .start ht, rfl, by simp, rfl⟩ ?_
  rintro m e ⟨d, l, A, B, s5, s6, qv, rfl, hm21, rfl⟩
  have hlen : l.length ≤ ts.length := qv.len
  symm_saturate
  refine ifP (fun hf => ?_) fun hf => ?_
  · have hne : A ++ B ≠ [] := by simpa using hf
    obtain ⟨d, A', B', x, qv, hab⟩ : ∃ d A' B' x, Qv ⟨ts, ks⟩ t d l (x :: A') B' ∧ A ++ B = x :: A' ++ B' := by
      cases A with
      | cons x A => exact ⟨d, A, B, x, qv, rfl⟩
      | nil =>
        cases B with
        | nil => simp at hne
        | cons x B => exact ⟨d + 1, B, [], x, qv.shift, by simp⟩
    have hab' := congrArg List.length hab
    simp only [List.length_append, List.length_cons] at hab'
    rw [hab, hab']
    symm_saturate
    refine wp_pop1 (o := none) (xs := (x :: A' ++ B').map nm) (d := nm x) rfl rfl (by omega) (by omega) rfl ?_
    symm_saturate
    have ee : ((x :: A' ++ B').map nm).eraseIdx (Int.toNat 0) = (A' ++ B').map nm := by simp
    try rw [ee]
    have hxl : (x, d) ∈ l := qv.hA x (by simp)
    refine wp_forL (f := nm) ts rfl (fun done e => ∃ (l' : List (Nm × Nat)) (B'' : List Nm) (s6 : Sl), (l'.map (·.1)).Nodup ∧ (∀ x e, (x, e) ∈ l' → e ≤ d + 1 ∧ Dst ⟨ts, ks⟩ t x e) ∧ (∀ x e, e ≤ d → Dst ⟨ts, ks⟩ t x e → (x, e) ∈ l') ∧ (∀ x ∈ A', (x, d) ∈ l') ∧ (∀ x, x ∈ B'' ↔ (x, d + 1) ∈ l') ∧ (∀ z, (z, d) ∈ l' → z ∉ A' → z ≠ x → ∀ y ∈ ts, tied ks z y = true → y ∈ l'.map (·.1)) ∧ (∀ y ∈ done, tied ks x y = true → y ∈ l'.map (·.1)) ∧ (x, d) ∈ l' ∧ l'.length ≤ ts.length ∧ 2 * (11 - l'.length) + (A'.length + B''.length) < 2 * (11 - l.length) + (A'.length + 1 + B'.length) ∧ e = [.val (nms ts), .val (ties ks), .val (nm t), .own none (.dct false (l'.map (kvD nm natD))), .own none (.lst ((A' ++ B'').map nm)), .val (nm x), s6]) ⟨l, B', s6, qv.nd, qv.le, qv.ge, fun y hy => qv.hA y (by simp [hy]), qv.hB, fun z hz h1 h2 y hy ty => qv.rd z hz (by simp [h1, h2]) y hy ty, by simp, hxl, hlen, by omega, rfl⟩ ?_ ?_
    · rintro done y rest hd e ⟨l', B'', s6, i1, i2, i3, i4, i5, i6, i7, i8, i9, i10, rfl⟩
      have hy : y ∈ ts := by rw [hd]; simp
      refine ⟨_, rfl, ?_⟩
      bv_omega
      refine wp_if (fun hc => ?_) fun hc => ?_
      · simp only [Bool.and_eq_true, Bool.not_eq_true', decide_eq_false_iff_not] at hc
        obtain ⟨hc1, hc2⟩ := hc
        have dy : Dst ⟨ts, ks⟩ t y (d + 1) := by
          refine ⟨.step (i2 x d i8).2.1 hy hc2, fun m hm k => ?_⟩
          obtain ⟨e, he, ke⟩ := Dst.of k
          exact hc1 (List.mem_map.mpr ⟨(y, e), i3 y e (by omega) ke, rfl⟩)
        have hlen' : (l' ++ [(y, d + 1)]).length ≤ ts.length := by
          have := nodup_len (l := (l' ++ [(y, d + 1)]).map (·.1)) (m := ts) (by
            rw [List.map_append, List.nodup_append]
            exact ⟨i1, by simp, fun a ha b hb e => by simp at hb; exact hc1 (hb ▸ e ▸ ha)⟩) fun z hz => by
              obtain ⟨⟨z', e'⟩, m', rfl⟩ := List.mem_map.mp hz
              rcases List.mem_append.mp m' with m' | m'
              · exact (i2 _ _ m').2.1.right
              · simp only [List.mem_singleton, Prod.mk.injEq] at m'
                obtain ⟨rfl, rfl⟩ := m'
                exact hy
          simpa using this
        have hlen2 := hlen'
        rw [List.length_append] at hlen2
        simp only [List.length_cons, List.length_nil] at hlen2
        bv_omega
        refine wp_idxR rfl rfl (idx_dct (f := nm) (g := natD) (a := x) (b := d) i1 i8 rfl) ?_
        bv_omega
        refine wp_stoD (f := nm) (g := natD) (a := y) (b := d + 1) rfl rfl (by omega) ?_
        rw [aput_new hc1]
        bv_omega
        have ek : (l' ++ [(y, d + 1)]).map (·.1) = l'.map (·.1) ++ [y] := by simp
        refine ⟨l' ++ [(y, d + 1)], B'' ++ [y], .val (nm y), ?_, ?_, ?_, ?_, ?_, ?_, ?_, ?_, hlen', ?_, by simp⟩
        · rw [ek, List.nodup_append]
          exact ⟨i1, by simp, fun a ha b hb e => by simp at hb; exact hc1 (hb ▸ e ▸ ha)⟩
        · intro z e m'
          rcases List.mem_append.mp m' with m' | m'
          · exact i2 z e m'
          · simp only [List.mem_singleton, Prod.mk.injEq] at m'
            obtain ⟨rfl, rfl⟩ := m'
            exact ⟨Nat.le_refl _, dy⟩
        · exact fun z e he k => List.mem_append_left _ (i3 z e he k)
        · exact fun z hz => List.mem_append_left _ (i4 z hz)
        · intro z
          simp only [List.mem_append, List.mem_singleton, Prod.mk.injEq, and_true]
          rw [i5 z]
        · intro z hz h1 h2 u hu tu
          rw [ek]
          rcases List.mem_append.mp hz with hz | hz
          · exact List.mem_append_left _ (i6 z hz h1 h2 u hu tu)
          · simp at hz
        · intro z hz tz
          rw [ek]
          rcases List.mem_append.mp hz with hz | hz
          · exact List.mem_append_left _ (i7 z hz tz)
          · rw [List.mem_singleton] at hz
            subst hz
            simp
        · exact List.mem_append_left _ i8
        · simp only [List.length_append, List.length_cons, List.length_nil]
          omega
      · bv_omega
        refine ⟨l', B'', _, i1, i2, i3, i4, i5, i6, fun z hz tz => ?_, i8, i9, i10, rfl⟩
        rcases List.mem_append.mp hz with hz | hz
        · exact i7 z hz tz
        · rw [List.mem_singleton] at hz
          subst hz
          rw [tz] at hc
          simpa using hc
    · rintro e ⟨l', B'', s6, i1, i2, i3, i4, i5, i6, i7, i8, i9, i10, rfl⟩
      bv_omega
      refine ⟨_, i10, d, l', A', B'', _, _, ⟨i1, i2, i3, i4, i5, fun z hz h1 y hy ty => ?_⟩, rfl, by omega, rfl⟩
      by_cases e : z = x
      · subst e
        exact i7 y hy ty
      · exact i6 z hz h1 e y hy ty
  · bv_omega
    have hne : A ++ B = [] := by simpa using hf
    obtain ⟨rfl, rfl⟩ := List.append_eq_nil_iff.mp hne
    exact hP l qv.nd qv.done (by omega)
local macro_rules | `(tactic| get_elem_tactic_extensible) => `(tactic| (refine wp_callK (H_law_reach.dv (by assumption)) rfl (by decide) (s_reach (by assumption) (by omega) _ _ _ (by assumption) (by assumption) (fun l hl1 hl2 hl3 => ?_))))
end
local macro_rules | `(tactic| get_elem_tactic_extensible) => `(tactic| (refine wp_callK (H_law_reach.dv (by assumption)) rfl (by decide) (s_reach (by assumption) (by omega) _ _ _ (by assumption) (by assumption) (fun l hl1 hl2 hl3 => ?_))))
/-! ## lots; parts that hang together -/
section
variable {W : Wd} {fns : Nat → Option Fn} {n : Nu} {k : Nat} {P : Res → Prop}
theorem s_lots (H : H_law_lots W fns n) (hk : 1 ≤ k) (ts : List Nm) (hl : ts.length ≤ 10) (hP : P (.ok (.lst ((lots ts).map nms)) false [])) : P (runF W fns k (n.f 25) [.val (nms ts)]) := by
  refine run_post H.at_ (by omega) ?_
  cases H
  show Wp (exs W (runF W fns (k - 1)) (b_law_lots n) [.val (nms ts), .dead, .dead, .dead]) _ _
  unfold b_law_lots
  bv_omega
  refine wp_forL (f := nm) ts rfl (fun done e => ∃ (s : Sl), e = [.val (nms ts), .val (.lst ((lots done).map nms)), s, .dead]) ⟨_, rfl⟩ ?_ ?_
  · rintro done x rest hd e ⟨s, rfl⟩
    have hdl : done.length ≤ 9 := by have := congrArg List.length hd; simp at this; omega
    have h2 : (lots done).length ≤ 512 := by rw [lots_len]; exact Nat.pow_le_pow_right (by omega) hdl
    refine ⟨_, rfl, ?_⟩
    symm_saturate
    refine wp_lc0 (f := nms) (g := fun p => nms (p ++ [x])) (xs := lots done) (bt := fun p => [.val (nms ts), .val (.lst ((lots done).map nms)), .val (nm x), .val (nms p)]) (ys := (lots done).map nms) ?_ rfl rfl (fun _ _ => rfl) (fun _ _ => rfl) (fun _ _ => rfl) rfl ?_ (by omega) ?_
    · bv_omega
      exact And.intro rfl (src1 rfl (src_pL _))
    · intro p hp
      have hpl : p.length ≤ 10 := by have := (lots_sub hp).length_le; omega
      bv_omega
      refine ⟨?_, rfl⟩
      simp [Rv.fz, nms]
    · symm_saturate
      refine ⟨.val (nm x), ?_⟩
      rw [lots_snoc, List.map_append, List.map_map]
      rfl
  · rintro e ⟨s, rfl⟩
    bv_omega
    exact hP
local macro_rules | `(tactic| get_elem_tactic_extensible) => `(tactic| (refine wp_callK (H_law_lots.dv (by assumption)) rfl (by decide) (s_lots (by assumption) (by omega) _ (by assumption) ?_)))
theorem s_mixed (H : H_law_mixed W fns n) (hk : 2 ≤ k) (a b c : Int) (p : List Nm) (hp : p.length ≤ 100) (hP : ∀ a b c (q : List Nm), q.Perm p → P (.ok (nms q) false [pool a b c])) : P (runF W fns k (n.f 26) [.own (some 0) (pool a b c), .val (nms p)]) := by
  refine run_post H.at_ (by omega) ?_
  cases H
  show Wp (exs W (runF W fns (k - 1)) (b_law_mixed n) [.own (some 0) (pool a b c), .val (nms p), .dead, .dead]) _ _
  unfold b_law_mixed
  bv_omega
  refine wp_whlL (fun m e => ∃ a b c l f, (f ++ l).Perm p ∧ m = l.length ∧ e = [.own (some 0) (pool a b c), .val (nms p), .own none (.lst (l.map nm)), .own none (.lst (f.map nm))]) p.length (by omega) ⟨a, b, c, p, [], List.Perm.refl _, rfl, rfl⟩ ?_
  rintro m e ⟨a, b, c, l, f, h, rfl, rfl⟩
  have hlen := h.length_eq
  rw [List.length_append] at hlen
  symm_saturate
  refine ifP (fun hf => ?_) fun hf => ?_
  · have hne : l ≠ [] := by simpa using hf
    have hpos : 0 < l.length := List.length_pos_iff.mpr hne
    bv_omega
    rename_i a' b' c' r hr0 hr1
    simp only [List.length_map] at hr1
    have hlt : r.toNat < l.length := by omega
    refine wp_pop1 rfl rfl hr0 (by omega) (d := nm l[r.toNat]) (by rw [List.getElem?_map, List.getElem?_eq_getElem hlt]; rfl) ?_
    bv_omega
    rw [erase_map]
    refine ⟨_, ?_, a', b', c', l.eraseIdx r.toNat, f ++ [l[r.toNat]], ?_, rfl, by simp⟩
    · rw [List.length_eraseIdx, if_pos hlt]; omega
    · have e1 : l = l.take r.toNat ++ l[r.toNat] :: l.drop (r.toNat + 1) := by simp
      have e2 : l.eraseIdx r.toNat = l.take r.toNat ++ l.drop (r.toNat + 1) := List.eraseIdx_eq_take_drop_succ _ _
      rw [e2, List.append_assoc]
      refine List.Perm.trans ?_ h
      refine List.Perm.append_left _ ?_
      have := (List.perm_middle (a := l[r.toNat]) (l₁ := l.take r.toNat) (l₂ := l.drop (r.toNat + 1))).symm
      rw [← e1] at this
      exact this
  · bv_omega
    have hne : l = [] := by simpa using hf
    subst hne
    rw [List.append_nil] at h
    exact hP a b c f h
local macro_rules | `(tactic| get_elem_tactic_extensible) => `(tactic| (refine wp_callK (H_law_mixed.dv (by assumption)) rfl (by decide) (s_mixed (by assumption) (by omega) _ _ _ _ (by first | assumption | omega) (fun a' b' c' q h0 => ?_))))
noncomputable def wholeB (ks : List (Nm × Nm)) (p : List Nm) : Bool := @decide (Whole ks p) (Classical.propDecidable _)
theorem wholeB_iff {ks : List (Nm × Nm)} {p : List Nm} : wholeB ks p = true ↔ Whole ks p := by
  unfold wholeB
  exact @decide_eq_true_iff _ (Classical.propDecidable _)
theorem count_eq {ks : List (Nm × Nm)} {p : List Nm} (hp : p.Nodup) {a : Nm} (ha : a ∈ p) {w : Wb} (hw : ∀ x n, Rch w a x n ↔ Rch ⟨p, ks⟩ a x n) {l : List (Nm × Nat)} (h1 : (l.map (·.1)).Nodup) (h2 : ∀ x d, (x, d) ∈ l ↔ Dst w a x d) : decide ((l.length : Int) = (p.length : Int)) = wholeB ks p := by
  rw [Bool.eq_iff_iff, wholeB_iff, decide_eq_true_iff, ← Whole.count hp ha h1]
  · omega
  · intro x
    constructor
    · intro hx
      obtain ⟨⟨x', d⟩, m, rfl⟩ := List.mem_map.mp hx
      exact ⟨d, (hw _ _).mp ((h2 _ _).mp m).1⟩
    · rintro ⟨n, r⟩
      obtain ⟨d, _, hd⟩ := Dst.of ((hw x n).mpr r)
      exact List.mem_map.mpr ⟨(x, d), (h2 x d).mpr hd, rfl⟩
theorem s_is_whole (H : H_law_is_whole W fns n) (hk : 3 ≤ k) (p : List Nm) (ks : List (Nm × Nm)) (hp : p.Nodup) (hl : p.length ≤ 10) (a : Nm) (ha0 : p[0]? = some a) (hP : P (.ok (.bl (wholeB ks p)) false [])) : P (runF W fns k (n.f 28) [.val (nms p), .val (ties ks)]) := by
  refine run_post H.at_ (by omega) ?_
  cases H
  show Wp (exs W (runF W fns (k - 1)) (b_law_is_whole n) [.val (nms p), .val (ties ks)]) _ _
  unfold b_law_is_whole
  have ha : a ∈ p := List.mem_of_getElem? ha0
  bv_omega
  rename_i l hl1 hl2 hl3
  have := count_eq (w := ⟨p, ks⟩) (ks := ks) hp ha (fun x n => Iff.rfl) hl1 hl2
  simp only [List.length_map]
  rw [this]
  exact hP
local macro_rules | `(tactic| get_elem_tactic_extensible) => `(tactic| (refine wp_callK (H_law_is_whole.dv (by assumption)) rfl (by decide) (s_is_whole (by assumption) (by omega) _ _ (by assumption) (by assumption) _ (by assumption) ?_)))
theorem s_Web_ties (H : H_Web_ties W fns n) (hk : 1 ≤ k) (w : Wb) (hP : P (.ok (ties w.ks) false [])) : P (runF W fns k (n.f 30) [.val (web (n.c 0) w)]) := by
  refine run_post H.at_ (by omega) ?_
  cases H
  show Wp (exs W (runF W fns (k - 1)) (b_Web_ties n) [.val (web (n.c 0) w)]) _ _
  unfold b_Web_ties
  bv_omega
  exact hP
local macro_rules | `(tactic| get_elem_tactic_extensible) => `(tactic| (refine wp_callK (H_Web_ties.dv (by assumption)) rfl (by decide) (s_Web_ties (by assumption) (by omega) _ ?_)))
theorem s_check_part (H : H_check_part W fns n) (hk : 3 ≤ k) (w : Wb) (p : List Nm) (h0 : p ≠ []) (h1 : p.Nodup) (h2 : ∀ x ∈ p, x ∈ w.ts) (hP : P (.ok .non false [])) : P (runF W fns k (n.f 29) [.val (web (n.c 0) w), .val (nms p)]) := by
  refine run_post H.at_ (by omega) ?_
  cases H
  show Wp (exs W (runF W fns (k - 1)) (b_check_part n) [.val (web (n.c 0) w), .val (nms p), .dead, .dead]) _ _
  unfold b_check_part
  bv_omega
  refine wp_ifF (by simpa using h0) ?_
  bv_omega
  refine wp_forE p (fun done e => ∃ s t, e = [.val (web (n.c 0) w), .val (nms p), s, t]) ⟨_, _, rfl⟩ ?_ ?_
  · rintro done x rest rfl e ⟨s, t, rfl⟩
    refine ⟨_, bind2, ?_⟩
    bv_omega
    refine wp_ifF ?_ ?_
    · have hx : x ∉ done := fun m => (List.nodup_append.mp h1).2.2 x m x List.mem_cons_self rfl
      have hw : x ∈ w.ts := h2 x (by simp)
      simp [hx, hw]
    bv_omega
    exact ⟨_, _, rfl⟩
  · rintro e ⟨s, t, rfl⟩
    bv_omega
    exact hP
local macro_rules | `(tactic| get_elem_tactic_extensible) => `(tactic| (refine wp_callK (H_check_part.dv (by assumption)) rfl (by decide) (s_check_part (by assumption) (by omega) _ _ (by assumption) (by assumption) (by assumption) ?_)))
theorem s_part_of (H : H_part_of W fns n) (hk : 4 ≤ k) (w : Wb) (ok : w.Ok) (p : List Nm) (hs : ∃ x ∈ p, x ∈ w.ts) (hP : P (.ok (web (n.c 0) (sub w p)) true [])) : P (runF W fns k (n.f 31) [.val (web (n.c 0) w), .val (nms p)]) := by
  refine run_post H.at_ (by omega) ?_
  cases H
  show Wp (exs W (runF W fns (k - 1)) (b_part_of n) [.val (web (n.c 0) w), .val (nms p), .dead, .dead, .dead]) _ _
  unfold b_part_of
  have ok' := sub_ok ok hs
  have hl := ok.kl
  have hl2 := ok.len
  bv_omega
  refine wp_makK (H_Web___init__.dv (by assumption)) rfl (by decide) rfl (s_Web___init__ (by assumption) (by omega) (sub w p) ok' ?_)
  bv_omega
  exact hP
local macro_rules | `(tactic| get_elem_tactic_extensible) => `(tactic| (refine wp_callK (H_part_of.dv (by assumption)) rfl (by decide) (s_part_of (by assumption) (by omega) _ (by assumption) _ (by assumption) ?_)))
theorem s_hangs_of (H : H_hangs_of W fns n) (hk : 5 ≤ k) (w : Wb) (ok : w.Ok) (p : List Nm) (h1 : p.Nodup) (h2 : ∀ x ∈ p, x ∈ w.ts) (a : Nm) (ha0 : p[0]? = some a) (hP : P (.ok (.bl (wholeB w.ks p)) false [])) : P (runF W fns k (n.f 32) [.val (web (n.c 0) w), .val (nms p)]) := by
  refine run_post H.at_ (by omega) ?_
  cases H
  show Wp (exs W (runF W fns (k - 1)) (b_hangs_of n) [.val (web (n.c 0) w), .val (nms p)]) _ _
  unfold b_hangs_of
  have ha : a ∈ p := List.mem_of_getElem? ha0
  have hs : ∃ x ∈ p, x ∈ w.ts := ⟨a, ha, h2 a ha⟩
  have ok' := sub_ok ok hs
  have has : a ∈ (sub w p).ts := mem_sub.mpr ⟨h2 a ha, ha⟩
  bv_omega
  rename_i l hl1 hl2 hl3
  have := count_eq (w := sub w p) (ks := w.ks) h1 ha (fun x n => rch_sub h2) hl1 hl2
  simp only [List.length_map]
  rw [this]
  exact hP
local macro_rules | `(tactic| get_elem_tactic_extensible) => `(tactic| (refine wp_callK (H_hangs_of.dv (by assumption)) rfl (by decide) (s_hangs_of (by assumption) (by omega) _ (by assumption) _ (by assumption) (by assumption) _ (by assumption) ?_)))
theorem s_hangs (H : H_hangs W fns n) (hk : 6 ≤ k) (w : Wb) (ok : w.Ok) (p : List Nm) (h1 : p.Nodup) (h2 : ∀ x ∈ p, x ∈ w.ts) (a : Nm) (ha0 : p[0]? = some a) (hP : P (.ok (.bl (wholeB w.ks p)) false [])) : P (runF W fns k (n.f 33) [.val (web (n.c 0) w), .val (nms p)]) := by
  refine run_post H.at_ (by omega) ?_
  cases H
  show Wp (exs W (runF W fns (k - 1)) (b_hangs n) [.val (web (n.c 0) w), .val (nms p)]) _ _
  unfold b_hangs
  have h0 : p ≠ [] := by intro e; rw [e] at ha0; simp at ha0
  bv_omega
  exact hP
local macro_rules | `(tactic| get_elem_tactic_extensible) => `(tactic| (refine wp_callK (H_hangs.dv (by assumption)) rfl (by decide) (s_hangs (by assumption) (by omega) _ (by assumption) _ (by assumption) (by assumption) _ (by assumption) ?_)))
end
local macro_rules | `(tactic| get_elem_tactic_extensible) => `(tactic| (refine wp_callK (H_law_lots.dv (by assumption)) rfl (by decide) (s_lots (by assumption) (by omega) _ (by assumption) ?_)))
local macro_rules | `(tactic| get_elem_tactic_extensible) => `(tactic| (refine wp_callK (H_law_mixed.dv (by assumption)) rfl (by decide) (s_mixed (by assumption) (by omega) _ _ _ _ (by first | assumption | omega) (fun a' b' c' q h0 => ?_))))
local macro_rules | `(tactic| get_elem_tactic_extensible) => `(tactic| (refine wp_callK (H_law_is_whole.dv (by assumption)) rfl (by decide) (s_is_whole (by assumption) (by omega) _ _ (by assumption) (by assumption) _ (by assumption) ?_)))
local macro_rules | `(tactic| get_elem_tactic_extensible) => `(tactic| (refine wp_callK (H_Web_ties.dv (by assumption)) rfl (by decide) (s_Web_ties (by assumption) (by omega) _ ?_)))
local macro_rules | `(tactic| get_elem_tactic_extensible) => `(tactic| (refine wp_callK (H_check_part.dv (by assumption)) rfl (by decide) (s_check_part (by assumption) (by omega) _ _ (by assumption) (by assumption) (by assumption) ?_)))
local macro_rules | `(tactic| get_elem_tactic_extensible) => `(tactic| (refine wp_callK (H_part_of.dv (by assumption)) rfl (by decide) (s_part_of (by assumption) (by omega) _ (by assumption) _ (by assumption) ?_)))
local macro_rules | `(tactic| get_elem_tactic_extensible) => `(tactic| (refine wp_callK (H_hangs_of.dv (by assumption)) rfl (by decide) (s_hangs_of (by assumption) (by omega) _ (by assumption) _ (by assumption) (by assumption) _ (by assumption) ?_)))
local macro_rules | `(tactic| get_elem_tactic_extensible) => `(tactic| (refine wp_callK (H_hangs.dv (by assumption)) rfl (by decide) (s_hangs (by assumption) (by omega) _ (by assumption) _ (by assumption) (by assumption) _ (by assumption) ?_)))
/-! ## draws of the second kind -/
section
variable {W : Wd} {fns : Nat → Option Fn} {n : Nu} {k : Nat} {P : Res → Prop}
/-- what a well's second number may be -/
abbrev Mx := {b : Int // 0 ≤ b ∧ b < 2147483399}
def well (a : Int) (b : Mx) (c : Int) : D := .lst [.int a, .int b.1, .int c]
theorem s_dip (H : H_law_dip W fns n) (hk : 1 ≤ k) (a : Int) (b : Mx) (c t : Int) (h0 : 0 < t) (h1 : t < 1073741824) (hP : ∀ a' b' c' (j : Nat), (j : Int) < t → P (.ok (.int j) false [well a' b' c'])) : P (runF W fns k (n.f 36) [.own (some 0) (well a b c), .val (.int t)]) := by
  have hP' : ∀ a' (b' : Int) c' (j : Int), 0 ≤ b' → b' < 2147483399 → 0 ≤ j → j < t → P (.ok (.int j) false [.lst [.int a', .int b', .int c']]) := fun a' b' c' j g g' h h' => by
    obtain ⟨j, rfl⟩ := Int.eq_ofNat_of_zero_le h
    exact hP _ ⟨b', g, g'⟩ _ j h'
  obtain ⟨b, b0, b1⟩ := b
  refine run_post H.at_ hk ?_
  show Wp (exs W (runF W fns (k - 1)) (b_law_dip n) [.own (some 0) (.lst [.int a, .int b, .int c]), .val (.int t), .dead, .dead]) _ _
  unfold b_law_dip
  bv_omega
  refine wp_if (fun hc => ?_) fun hc => ?_
  · bv_omega
    exact hP' _ _ _ _ b0 b1 (Int.emod_nonneg _ (by omega)) (Int.emod_lt_of_pos _ h0)
  · bv_omega
    exact hP' _ _ _ _ (Int.emod_nonneg _ (by omega)) (Int.emod_lt_of_pos _ (by omega)) (Int.emod_nonneg _ (by omega)) (Int.emod_lt_of_pos _ h0)
local macro_rules | `(tactic| get_elem_tactic_extensible) => `(tactic| (refine wp_callK (H_law_dip.dv (by assumption)) rfl (by decide) (s_dip (by assumption) (by omega) _ _ _ _ (by first | omega | (simp only [List.length_map, List.length_append, List.length_cons, List.length_nil]; omega)) (by first | omega | (simp only [List.length_map, List.length_append, List.length_cons, List.length_nil]; omega)) (fun a' b' c' j h0 => ?_))))
theorem s_picked {α : Type} {f : α → D} (H : H_law_picked W fns n) (hk : 2 ≤ k) (a : Int) (b : Mx) (c m : Int) (xs : List α) (d : D) (hd : d = .lst (xs.map f) ∨ d = .tup (xs.map f)) (hl : xs.length ≤ 1000) (h0 : 0 ≤ m) (h1 : m ≤ xs.length) (hP : ∀ a' b' c' (ys zs : List α), (ys ++ zs).Perm xs → ys.length = m.toNat → P (.ok (.lst (ys.map f)) true [well a' b' c'])) : P (runF W fns k (n.f 37) [.own (some 0) (well a b c), .val d, .val (.int m)]) := by
  refine run_post H.at_ (by omega) ?_
  cases H
  show Wp (exs W (runF W fns (k - 1)) (b_law_picked n) [.own (some 0) (well a b c), .val d, .val (.int m), .dead, .dead, .dead, .dead]) _ _
  unfold b_law_picked
  have e0 : bltD .list [d] = some (.fresh (.lst (xs.map f))) := by
    rcases hd with rfl | rfl <;> rfl
  apply ws_cons
  apply ws_par
  apply wp_cons
  apply wp_blt
  bv_omega
  refine wp_bltR rfl e0 ?_
  bv_omega
  refine wp_forR (fun i e => ∃ a b c rest found s5 s6, (found ++ rest).Perm xs ∧ found.length = i ∧ e = [.own (some 0) (well a b c), .val d, .val (.int m), .val (.lst (rest.map f)), .own none (.lst (found.map f)), s5, s6]) ⟨a, b, c, xs, [], _, _, List.Perm.refl _, rfl, rfl⟩ ?_ ?_
  · rintro i hi e ⟨a, b, c, rest, found, s5, s6, h1, h2, rfl⟩
    have hrl := h1.length_eq
    rw [List.length_append] at hrl
    refine ⟨_, rfl, ?_⟩
    bv_omega
    rename_i a' b' c' j hj
    simp only [List.length_map] at hj
    obtain ⟨x, hx⟩ : ∃ x, rest[j]? = some x := ⟨_, List.getElem?_eq_getElem (by omega)⟩
    bv_omega
    have hlt : j < rest.length := by omega
    refine ⟨a', b', c', rest.take j ++ rest.drop (j + 1), found ++ [x], .val (.int i), .val (.int j), ?_, by simp [h2], by simp⟩
    refine List.Perm.trans ?_ h1
    rw [List.append_assoc]
    refine List.Perm.append_left _ ?_
    have e1 : rest = rest.take j ++ x :: rest.drop (j + 1) := by
      rw [List.getElem?_eq_getElem hlt] at hx
      cases hx
      simp
    have := (List.perm_middle (a := x) (l₁ := rest.take j) (l₂ := rest.drop (j + 1))).symm
    rw [← e1] at this
    exact this
  · rintro e ⟨a, b, c, rest, found, s5, s6, h2, h3, rfl⟩
    bv_omega
    exact hP a b c found rest h2 h3
local macro_rules | `(tactic| get_elem_tactic_extensible) => `(tactic| (refine wp_callK (H_law_picked.dv (by assumption)) rfl (by decide) (s_picked (f := nm) (by assumption) (by omega) _ _ _ _ _ _ (by first | exact .inl rfl | exact .inr rfl) (by omega) (by omega) (by first | omega | (simp only [List.length_map, List.length_append, List.length_cons, List.length_nil]; omega)) (fun a' b' c' ys zs h0 h1 => ?_))))
local macro_rules | `(tactic| get_elem_tactic_extensible) => `(tactic| (refine wp_callK (H_law_picked.dv (by assumption)) rfl (by decide) (s_picked (f := tie) (by assumption) (by omega) _ _ _ _ _ _ (by first | exact .inl rfl | exact .inr rfl) (by omega) (by omega) (by first | omega | (simp only [List.length_map, List.length_append, List.length_cons, List.length_nil]; omega)) (fun a' b' c' ys zs h0 h1 => ?_))))
/-- the second menu -/
def menu2 : List Nm := [⟨"a", by decide +kernel, by decide +kernel⟩, ⟨"b", by decide +kernel, by decide +kernel⟩, ⟨"c", by decide +kernel, by decide +kernel⟩, ⟨"d", by decide +kernel, by decide +kernel⟩, ⟨"e", by decide +kernel, by decide +kernel⟩, ⟨"f", by decide +kernel, by decide +kernel⟩, ⟨"ab", by decide +kernel, by decide +kernel⟩, ⟨"ba", by decide +kernel, by decide +kernel⟩, ⟨"elm", by decide +kernel, by decide +kernel⟩, ⟨"oak", by decide +kernel, by decide +kernel⟩, ⟨"zz", by decide +kernel, by decide +kernel⟩, ⟨"abcdefgh", by decide +kernel, by decide +kernel⟩, ⟨"q", by decide +kernel, by decide +kernel⟩, ⟨"river", by decide +kernel, by decide +kernel⟩]
theorem menu2_nd : menu2.Nodup := by decide +kernel
theorem s_names2 (H : H_law_names_2 W fns n) (hk : 3 ≤ k) (a : Int) (b : Mx) (c m : Int) (h0 : 0 ≤ m) (h1 : m ≤ 14) (hP : ∀ a' b' c' (ts : List Nm), ts.Nodup → ts.length = m.toNat → P (.ok (nms ts) false [well a' b' c'])) : P (runF W fns k (n.f 38) [.own (some 0) (well a b c), .val (.int m)]) := by
  refine run_post H.at_ (by omega) ?_
  cases H
  show Wp (exs W (runF W fns (k - 1)) (b_law_names_2 n) [.own (some 0) (well a b c), .val (.int m), .dead]) _ _
  unfold b_law_names_2
  bv_omega
  refine wp_callK (H_law_picked.dv (by assumption)) rfl (by decide) (s_picked (f := nm) (xs := menu2) (by assumption) (by omega) _ _ _ _ _ (.inl rfl) (by decide) (by omega) (by show m ≤ 14; omega) (fun a' b' c' ys zs h2 h3 => ?_))
  bv_omega
  have := h2.nodup_iff.mpr menu2_nd
  exact hP _ _ _ ys (List.nodup_append.mp this).1 h3
local macro_rules | `(tactic| get_elem_tactic_extensible) => `(tactic| (refine wp_callK (H_law_names_2.dv (by assumption)) rfl (by decide) (s_names2 (by assumption) (by omega) _ _ _ _ (by omega) (by omega) (fun a' b' c' ts h0 h1 => ?_))))
theorem s_pairs (H : H_law_pairs W fns n) (hk : 1 ≤ k) (xs : List Nm) (hl : xs.length ≤ 20) (hP : P (.ok (.lst ((duos xs).map tie)) false [])) : P (runF W fns k (n.f 39) [.val (nms xs)]) := by
  refine run_post H.at_ (by omega) ?_
  cases H
  show Wp (exs W (runF W fns (k - 1)) (b_law_pairs n) [.val (nms xs), .dead, .dead, .dead]) _ _
  unfold b_law_pairs
  bv_omega
  rw [show (((xs.map nm).length : Nat) : Int).toNat = xs.length by simp]
  refine wp_forR (fun i e => ∃ f s, f ++ duos (xs.drop i) = duos xs ∧ e = [.val (nms xs), .val (.lst (f.map tie)), s, .dead]) ⟨[], _, rfl, rfl⟩ ?_ ?_
  · rintro i hi e ⟨f, s, h1, rfl⟩
    refine ⟨_, rfl, ?_⟩
    have hx : xs[i]? = some xs[i] := List.getElem?_eq_getElem hi
    bv_omega
    refine wp_rd2 rfl rfl (b_addL ?_) ?_
    · have h2 := congrArg List.length h1
      have h3 := duos_len xs
      have : xs.length * xs.length ≤ 20 * 20 := Nat.mul_le_mul hl hl
      simp at h2 ⊢; omega
    bv_omega
    refine ⟨f ++ (xs.drop (i + 1)).map (fun y => (xs[i], y)), _, ?_, by rw [List.map_append, List.map_map]; rfl⟩
    rw [List.append_assoc, ← h1]
    congr 1
    rw [List.drop_eq_getElem_cons hi]
    rfl
  · rintro e ⟨f, s, h1, rfl⟩
    bv_omega
    rw [List.drop_length] at h1
    simp only [duos, List.append_nil] at h1
    rw [h1]
    exact hP
local macro_rules | `(tactic| get_elem_tactic_extensible) => `(tactic| (refine wp_callK (H_law_pairs.dv (by assumption)) rfl (by decide) (s_pairs (by assumption) (by omega) _ (by omega) ?_)))
def swp (p : Nm × Nm) : Nm × Nm := (p.2, p.1)
theorem s_one_of {α : Type} {f : α → D} (H : H_law_one_of W fns n) (hk : 2 ≤ k) (a : Int) (b : Mx) (c : Int) (xs : List α) (d : D) (hd : d = .lst (xs.map f) ∨ d = .tup (xs.map f)) (h0 : 0 < xs.length) (hl : xs.length ≤ 1000) (hP : ∀ a' b' c' (x : α), x ∈ xs → P (.ok (f x) false [well a' b' c'])) : P (runF W fns k (n.f 41) [.own (some 0) (well a b c), .val d]) := by
  refine run_post H.at_ (by omega) ?_
  cases H
  show Wp (exs W (runF W fns (k - 1)) (b_law_one_of n) [.own (some 0) (well a b c), .val d]) _ _
  unfold b_law_one_of
  rcases hd with rfl | rfl
  all_goals
    bv_omega
    rename_i a' b' c' j hj
    simp only [List.length_map] at hj
    obtain ⟨x, hx⟩ : ∃ x, xs[j]? = some x := ⟨_, List.getElem?_eq_getElem (by omega)⟩
    bv_omega
    exact hP _ _ _ x (List.mem_of_getElem? hx)
theorem s_alike2 (H : H_law_alike W fns n) (hk : 1 ≤ k) (p q : Nm × Nm) (hP : P (.ok (.bl (decide (p = q) || decide (p = swp q))) false [])) : P (runF W fns k (n.f 45) [.val (tie p), .val (tie q)]) := by
  refine run_post H.at_ (by omega) ?_
  cases H
  show Wp (exs W (runF W fns (k - 1)) (b_law_alike n) [.val (tie p), .val (tie q)]) _ _
  unfold b_law_alike
  bv_omega
  exact hP
local macro_rules | `(tactic| get_elem_tactic_extensible) => `(tactic| (refine wp_callK (H_law_alike.dv (by assumption)) rfl (by decide) (s_alike2 (by assumption) (by omega) _ _ ?_)))
end
local macro_rules | `(tactic| get_elem_tactic_extensible) => `(tactic| (refine wp_callK (H_law_dip.dv (by assumption)) rfl (by decide) (s_dip (by assumption) (by omega) _ _ _ _ (by first | omega | (simp only [List.length_map, List.length_append, List.length_cons, List.length_nil]; omega)) (by first | omega | (simp only [List.length_map, List.length_append, List.length_cons, List.length_nil]; omega)) (fun a' b' c' j h0 => ?_))))
local macro_rules | `(tactic| get_elem_tactic_extensible) => `(tactic| (refine wp_callK (H_law_picked.dv (by assumption)) rfl (by decide) (s_picked (f := nm) (by assumption) (by omega) _ _ _ _ _ _ (by first | exact .inl rfl | exact .inr rfl) (by omega) (by omega) (by first | omega | (simp only [List.length_map, List.length_append, List.length_cons, List.length_nil]; omega)) (fun a' b' c' ys zs h0 h1 => ?_))))
local macro_rules | `(tactic| get_elem_tactic_extensible) => `(tactic| (refine wp_callK (H_law_picked.dv (by assumption)) rfl (by decide) (s_picked (f := tie) (by assumption) (by omega) _ _ _ _ _ _ (by first | exact .inl rfl | exact .inr rfl) (by omega) (by omega) (by first | omega | (simp only [List.length_map, List.length_append, List.length_cons, List.length_nil]; omega)) (fun a' b' c' ys zs h0 h1 => ?_))))
local macro_rules | `(tactic| get_elem_tactic_extensible) => `(tactic| (refine wp_callK (H_law_names_2.dv (by assumption)) rfl (by decide) (s_names2 (by assumption) (by omega) _ _ _ _ (by omega) (by omega) (fun a' b' c' ts h0 h1 => ?_))))
local macro_rules | `(tactic| get_elem_tactic_extensible) => `(tactic| (refine wp_callK (H_law_pairs.dv (by assumption)) rfl (by decide) (s_pairs (by assumption) (by omega) _ (by omega) ?_)))
local macro_rules | `(tactic| get_elem_tactic_extensible) => `(tactic| (refine wp_callK (H_law_alike.dv (by assumption)) rfl (by decide) (s_alike2 (by assumption) (by omega) _ _ ?_)))
/-! ## drawn webs of the second kind -/
section
variable {W : Wd} {fns : Nat → Option Fn} {n : Nu} {k : Nat} {P : Res → Prop}
theorem s_turned (H : H_law_turned W fns n) (hk : 3 ≤ k) (a : Int) (b : Mx) (c : Int) (ks : List (Nm × Nm)) (hl : ks.length ≤ 1000) (hP : ∀ a' b' c' (ls : List (Nm × Nm)), ls.length = ks.length → (∀ p ∈ ls, p ∈ ks ∨ swp p ∈ ks) → (∀ p ∈ ks, p ∈ ls ∨ swp p ∈ ls) → ((ks.Pairwise fun p q => alike p q = false) → ls.Pairwise fun p q => alike p q = false) → P (.ok (ties ls) false [well a' b' c'])) : P (runF W fns k (n.f 40) [.own (some 0) (well a b c), .val (.lst (ks.map tie))]) := by
  refine run_post H.at_ (by omega) ?_
  cases H
  show Wp (exs W (runF W fns (k - 1)) (b_law_turned n) [.own (some 0) (well a b c), .val (.lst (ks.map tie)), .dead, .dead, .dead]) _ _
  unfold b_law_turned
  bv_omega
  rename_i a1 b1 c1 ys zs hp hlen
  have hz : zs = [] := by
    have := hp.length_eq
    simp at this hlen
    exact List.eq_nil_of_length_eq_zero (by omega)
  subst hz
  rw [List.append_nil] at hp
  have hyl := hp.length_eq
  refine wp_forL (f := tie) ys rfl (fun done e => ∃ (a : Int) (b : Mx) (c : Int) (ls : List (Nm × Nm)) (s t : Sl), ls.length = done.length ∧ (∀ p ∈ ls, p ∈ done ∨ swp p ∈ done) ∧ (∀ p ∈ done, p ∈ ls ∨ swp p ∈ ls) ∧ ((done.Pairwise fun p q => alike p q = false) → ls.Pairwise fun p q => alike p q = false) ∧ e = [.own (some 0) (well a b c), .val (.lst (ks.map tie)), .own none (.lst (ls.map tie)), s, t]) ⟨_, _, _, [], _, _, rfl, by simp, by simp, fun _ => .nil, rfl⟩ ?_ ?_
  · rintro done ⟨x, y⟩ rest hd e ⟨a, b, c, ls, s, t, i1, i2, i3, i4, rfl⟩
    have hdl := congrArg List.length hd
    rw [List.length_append, List.length_cons] at hdl
    refine ⟨_, rfl, ?_⟩
    bv_omega
    have fin : ∀ p : Nm × Nm, (p = (x, y) ∨ p = swp (x, y)) → (ls ++ [p]).length = (done ++ [(x, y)]).length ∧ (∀ q ∈ ls ++ [p], q ∈ done ++ [(x, y)] ∨ swp q ∈ done ++ [(x, y)]) ∧ (∀ q ∈ done ++ [(x, y)], q ∈ ls ++ [p] ∨ swp q ∈ ls ++ [p]) ∧ (((done ++ [(x, y)]).Pairwise fun p q => alike p q = false) → (ls ++ [p]).Pairwise fun p q => alike p q = false) := by
      intro p hp
      refine ⟨by simp [i1], fun q hq => ?_, fun q hq => ?_, fun hw => ?_⟩
      · rcases List.mem_append.mp hq with hq | hq
        · exact (i2 q hq).imp (List.mem_append_left _) (List.mem_append_left _)
        · rw [List.mem_singleton] at hq
          subst hq
          rcases hp with rfl | rfl
          · exact .inl (by simp)
          · exact .inr (by simp [swp])
      · rcases List.mem_append.mp hq with hq | hq
        · exact (i3 q hq).imp (List.mem_append_left _) (List.mem_append_left _)
        · rw [List.mem_singleton] at hq
          subst hq
          rcases hp with rfl | rfl
          · exact .inl (by simp)
          · exact .inr (by simp)
      · rw [List.pairwise_append] at hw ⊢
        refine ⟨i4 hw.1, by simp, fun q hq r hr => ?_⟩
        rw [List.mem_singleton] at hr
        subst hr
        have key : ∀ q' ∈ done, alike q' (x, y) = false := fun q' m => hw.2.2 q' m _ List.mem_cons_self
        rw [Bool.eq_false_iff]
        intro z
        have key' : ∀ q' ∈ done, ¬ (q' = (x, y) ∨ q' = swp (x, y)) := fun q' m e => by
          have := key q' m
          rw [Bool.eq_false_iff] at this
          exact this (alike_iff.mpr e)
        rw [alike_iff] at z
        rcases i2 q hq with m | m
        · refine key' _ m ?_
          rcases z with rfl | rfl <;> rcases hp with rfl | rfl <;> simp [swp]
        · refine key' _ m ?_
          rcases z with rfl | rfl <;> rcases hp with rfl | rfl <;> simp [swp]
    rename_i a2 b2 c2 j hj
    refine wp_if (fun _ => ?_) fun _ => ?_
    · bv_omega
      obtain ⟨f1, f2, f3, f4⟩ := fin (x, y) (.inl rfl)
      exact ⟨a2, b2, c2, _, _, _, f1, f2, f3, f4, by simp [tie]; exact ⟨rfl, rfl⟩⟩
    · bv_omega
      obtain ⟨f1, f2, f3, f4⟩ := fin (y, x) (.inr rfl)
      exact ⟨a2, b2, c2, _, _, _, f1, f2, f3, f4, by simp [tie]; exact ⟨rfl, rfl⟩⟩
  · rintro e ⟨a, b, c, ls, s, t, i1, i2, i3, i4, rfl⟩
    bv_omega
    refine hP a b c ls (by omega) (fun p hp' => (i2 p hp').imp (fun z => hp.mem_iff.mp z) fun z => hp.mem_iff.mp z) (fun p hp' => i3 p (hp.mem_iff.mpr hp')) fun hw => i4 ?_
    exact (List.Perm.pairwise_iff (fun h => alike_symm h) hp).mpr hw
local macro_rules | `(tactic| get_elem_tactic_extensible) => `(tactic| (refine wp_callK (H_law_turned.dv (by assumption)) rfl (by decide) (s_turned (by assumption) (by omega) _ _ _ _ (by omega) (fun a' b' c' ls h0 h1 h2 h3 => ?_))))
end
local macro_rules | `(tactic| get_elem_tactic_extensible) => `(tactic| (refine wp_callK (H_law_turned.dv (by assumption)) rfl (by decide) (s_turned (by assumption) (by omega) _ _ _ _ (by omega) (fun a' b' c' ls h0 h1 h2 h3 => ?_))))
/-! ## near ones, grown webs -/
section
variable {W : Wd} {fns : Nat → Option Fn} {n : Nu} {k : Nat} {P : Res → Prop}
def nmL (ts : List Nm) : D := .lst (ts.map nm)
def nearD (ts : List Nm) (ks : List (Nm × Nm)) : D := .dct false ((ts.map fun t => (t, nbr ⟨ts, ks⟩ t)).map (kvD nm nmL))
theorem s_near (H : H_law_near W fns n) (hk : 1 ≤ k) (ts : List Nm) (ks : List (Nm × Nm)) (hn : ts.Nodup) (hl : ts.length ≤ 20) (hP : P (.ok (nearD ts ks) true [])) : P (runF W fns k (n.f 43) [.val (nms ts), .val (ties ks)]) := by
  refine run_post H.at_ (by omega) ?_
  cases H
  show Wp (exs W (runF W fns (k - 1)) (b_law_near n) [.val (nms ts), .val (ties ks), .dead, .dead, .dead]) _ _
  unfold b_law_near
  bv_omega
  refine wp_forL (f := nm) ts rfl (fun done e => ∃ s, e = [.val (nms ts), .val (ties ks), .own none (.dct false ((done.map fun t => (t, nbr ⟨ts, ks⟩ t)).map (kvD nm nmL))), s, .dead]) ⟨_, rfl⟩ ?_ ?_
  · rintro done x rest hd e ⟨s, rfl⟩
    have hdl : done.length ≤ 20 := by have := congrArg List.length hd; simp at this; omega
    refine ⟨_, rfl, ?_⟩
    bv_omega
    refine wp_stoD (f := nm) (g := nmL) (a := x) (b := nbr ⟨ts, ks⟩ x) rfl rfl (by simp; omega) ?_
    rw [aput_new (by
      rw [List.map_map]
      intro m
      obtain ⟨y, hy, e⟩ := List.mem_map.mp m
      have e' : y = x := e
      subst e'
      rw [hd] at hn
      exact (List.nodup_append.mp hn).2.2 y hy y List.mem_cons_self rfl)]
    bv_omega
    exact ⟨.val (nm x), by simp⟩
  · rintro e ⟨s, rfl⟩
    bv_omega
    exact hP
theorem s_nearL (H : H_law_near W fns n) (hk : 1 ≤ k) (ts : List Nm) (ks : List (Nm × Nm)) (hn : ts.Nodup) (hl : ts.length ≤ 20) (hP : P (.ok (nearD ts ks) true [.lst (ks.map tie)])) : P (runF W fns k (n.f 43) [.val (nms ts), .own (some 0) (.lst (ks.map tie))]) := by
  refine run_post H.at_ (by omega) ?_
  cases H
  show Wp (exs W (runF W fns (k - 1)) (b_law_near n) [.val (nms ts), .own (some 1) (.lst (ks.map tie)), .dead, .dead, .dead]) _ _
  unfold b_law_near
  bv_omega
  refine wp_forL (f := nm) ts rfl (fun done e => ∃ s, e = [.val (nms ts), .own (some 1) (.lst (ks.map tie)), .own none (.dct false ((done.map fun t => (t, nbr ⟨ts, ks⟩ t)).map (kvD nm nmL))), s, .dead]) ⟨_, rfl⟩ ?_ ?_
  · rintro done x rest hd e ⟨s, rfl⟩
    have hdl : done.length ≤ 20 := by have := congrArg List.length hd; simp at this; omega
    refine ⟨_, rfl, ?_⟩
    bv_omega
    refine wp_stoD (f := nm) (g := nmL) (a := x) (b := nbr ⟨ts, ks⟩ x) rfl rfl (by simp; omega) ?_
    rw [aput_new (by
      rw [List.map_map]
      intro m
      obtain ⟨y, hy, e⟩ := List.mem_map.mp m
      have e' : y = x := e
      subst e'
      rw [hd] at hn
      exact (List.nodup_append.mp hn).2.2 y hy y List.mem_cons_self rfl)]
    bv_omega
    exact ⟨.val (nm x), by simp⟩
  · rintro e ⟨s, rfl⟩
    bv_omega
    exact hP
local macro_rules | `(tactic| get_elem_tactic_extensible) => `(tactic| (refine wp_callK (H_law_near.dv (by assumption)) rfl (by decide) (s_near (by assumption) (by omega) _ _ (by assumption) (by omega) ?_)))
local macro_rules | `(tactic| get_elem_tactic_extensible) => `(tactic| (refine wp_callK (H_law_near.dv (by assumption)) rfl (by decide) (s_nearL (by assumption) (by omega) _ _ (by assumption) (by omega) ?_)))
/-- ties of some towns, no two of the same two -/
structure TK (ts : List Nm) (ks : List (Nm × Nm)) : Prop where
  pr : ∀ p ∈ ks, pairB ts p = true
  un : ks.Pairwise fun p q => alike p q = false
theorem pairB_iff {ts : List Nm} {p : Nm × Nm} : pairB ts p = true ↔ p.1 ≠ p.2 ∧ p.1 ∈ ts ∧ p.2 ∈ ts := by simp [pairB]
theorem TK.nil {ts : List Nm} : TK ts [] := ⟨by simp, .nil⟩
theorem TK.sub {ts : List Nm} {ks ls : List (Nm × Nm)} (h : TK ts ks) (s : ls.Sublist ks) : TK ts ls := ⟨fun p m => h.pr p (s.subset m), h.un.sublist s⟩
theorem TK.mono {ts us : List Nm} {ks : List (Nm × Nm)} (h : TK ts ks) (s : ∀ x ∈ ts, x ∈ us) : TK us ks := ⟨fun p m => by
  have := h.pr p m
  rw [pairB_iff] at this ⊢
  exact ⟨this.1, s _ this.2.1, s _ this.2.2⟩, h.un⟩
theorem TK.snoc {ts : List Nm} {ks : List (Nm × Nm)} {p : Nm × Nm} (h : TK ts ks) (hp : pairB ts p = true) (hq : ∀ q ∈ ks, alike q p = false) : TK ts (ks ++ [p]) := ⟨fun q m => by
  rcases List.mem_append.mp m with m | m
  · exact h.pr q m
  · rw [List.mem_singleton] at m; subst m; exact hp, by
  rw [List.pairwise_append]
  exact ⟨h.un, by simp, fun q hq' r hr => by rw [List.mem_singleton] at hr; subst hr; exact hq q hq'⟩⟩
theorem TK.irr {ts : List Nm} {ks : List (Nm × Nm)} (h : TK ts ks) (x : Nm) : tied ks x x = false := by
  rw [Bool.eq_false_iff]
  intro z
  rw [tied_iff] at z
  rcases z with z | z <;> exact (pairB_iff.mp (h.pr _ z)).1 rfl
/-- a town more, with some ties -/
theorem TK.add {ts L : List Nm} {ks : List (Nm × Nm)} {x : Nm} (h : TK ts ks) (hx : x ∉ ts) (hn : L.Nodup) (hL : ∀ u ∈ L, u ∈ ts) : TK (ts ++ [x]) (ks ++ L.map fun u => (u, x)) := by
  refine ⟨fun p m => ?_, ?_⟩
  · rcases List.mem_append.mp m with m | m
    · exact (h.mono (fun y hy => List.mem_append_left _ hy)).pr p m
    · obtain ⟨u, hu, rfl⟩ := List.mem_map.mp m
      rw [pairB_iff]
      exact ⟨fun e => hx ((show u = x from e) ▸ hL u hu), List.mem_append_left _ (hL u hu), by simp⟩
  · rw [List.pairwise_append]
    refine ⟨h.un, ?_, fun p hp q hq => ?_⟩
    · rw [List.pairwise_map]
      refine List.Pairwise.imp_of_mem ?_ hn
      intro u v hu hv huv
      rw [Bool.eq_false_iff]
      intro z
      rw [alike_iff] at z
      rcases z with z | z
      · simp only [Prod.mk.injEq, and_true] at z; exact huv z
      · simp only [Prod.mk.injEq] at z; exact hx (z.1 ▸ hL u hu)
    · obtain ⟨u, hu, rfl⟩ := List.mem_map.mp hq
      have hp' := pairB_iff.mp (h.pr p hp)
      rw [Bool.eq_false_iff]
      intro z
      rw [alike_iff] at z
      rcases z with z | z
      · rw [z] at hp'; exact hx hp'.2.2
      · rw [z] at hp'; exact hx hp'.2.1
theorem idx_near {ts : List Nm} {ks : List (Nm × Nm)} {m : Nm} (nd : ts.Nodup) (h : m ∈ ts) : idxD (nearD ts ks) (nm m) = some (nmL (nbr ⟨ts, ks⟩ m)) := by
  refine idx_dct (f := nm) (g := nmL) (b := nbr ⟨ts, ks⟩ m) ?_ ?_ rfl
  · rw [List.map_map]
    have : ((fun q : Nm × List Nm => q.1) ∘ fun t => (t, nbr ⟨ts, ks⟩ t)) = id := rfl
    rw [this, List.map_id]
    exact nd
  · exact List.mem_map.mpr ⟨m, h, rfl⟩
theorem s_grown_pairs (H : H_law_grown_pairs W fns n) (hk : 3 ≤ k) (a : Int) (b : Mx) (c : Int) (ts : List Nm) (hn : ts.Nodup) (h0 : 0 < ts.length) (hl : ts.length ≤ 10) (hP : ∀ a' b' c' (ks : List (Nm × Nm)), TK ts ks → ks.length ≤ 100 → P (.ok (.lst (ks.map tie)) true [well a' b' c'])) : P (runF W fns k (n.f 44) [.own (some 0) (well a b c), .val (nms ts)]) := by
  refine run_post H.at_ (by omega) ?_
  cases H
  show Wp (exs W (runF W fns (k - 1)) (b_law_grown_pairs n) [.own (some 0) (well a b c), .val (nms ts), .dead, .dead, .dead, .dead, .dead, .dead, .dead]) _ _
  unfold b_law_grown_pairs
  bv_omega
  refine Exists.intro _ (And.intro (src1 rfl (src_range2 (i := 1) (j := (ts.map nm).length) (by simp; omega) (by simp; omega))) ?_)
  refine wp_forL (f := fun i : Nat => D.int ((i + 1 : Nat) : Int)) (List.range ((ts.map nm).length - 1)) rfl (fun done e => ∃ (a : Int) (b : Mx) (c : Int) (ks : List (Nm × Nm)) (s3 s4 s5 s6 s7 : Sl), TK (ts.take (done.length + 1)) ks ∧ ks.length ≤ 10 * done.length ∧ e = [.own (some 0) (well a b c), .val (nms ts), .own none (.lst (ks.map tie)), s3, s4, s5, s6, s7, .dead]) ⟨_, _, _, [], _, _, _, _, _, .nil, by simp, rfl⟩ ?_ ?_
  · rintro done i rest hd e ⟨a, b, c, ks, s3, s4, s5, s6, s7, gk, hkl, rfl⟩
    obtain ⟨hi, him⟩ := range_split hd
    simp only [List.length_map] at him
    refine ⟨_, rfl, ?_⟩
    obtain ⟨x, hx⟩ : ∃ x, ts[i + 1]? = some x := ⟨_, List.getElem?_eq_getElem (by omega)⟩
    have e1 : ts.take (i + 1 + 1) = ts.take (i + 1) ++ [x] := by rw [List.take_succ, hx]; rfl
    have hxn : x ∉ ts.take (i + 1) := fun m => by
      have : (ts.take (i + 1 + 1)).Nodup := hn.sublist (List.take_sublist _ _)
      rw [e1] at this
      exact (List.nodup_append.mp this).2.2 x m x (by simp) rfl
    bv_omega
    rename_i a1 b1 c1 j hj
    have hnd : (ts.take (i + 1)).Nodup := hn.sublist (List.take_sublist _ _)
    have htl : (ts.take (i + 1)).length ≤ 20 := by rw [List.length_take]; omega
    obtain ⟨y, hy⟩ : ∃ y, ts[j]? = some y := ⟨_, List.getElem?_eq_getElem (by omega)⟩
    have hyt : y ∈ ts.take (i + 1) := by
      refine List.mem_of_getElem? (i := j) ?_
      rw [List.getElem?_take, if_pos (by omega), hy]
    bv_omega
    refine wp_idxR rfl rfl (idx_near hnd hyt) ?_
    rw [← hi] at gk
    have nb1 : (nbr ⟨ts.take (i + 1), ks⟩ y).Nodup := hnd.sublist List.filter_sublist
    have nb2 : ∀ u ∈ nbr ⟨ts.take (i + 1), ks⟩ y, u ∈ ts.take (i + 1) := fun u hu => (mem_nbr.mp hu).1
    have nb3 : y ∉ nbr ⟨ts.take (i + 1), ks⟩ y := fun m => by
      have := (mem_nbr.mp m).2
      rw [gk.irr] at this
      cases this
    have nbl : (nbr ⟨ts.take (i + 1), ks⟩ y).length ≤ 9 := by
      have h := nodup_len nb1 nb2
      rw [List.length_take] at h
      omega
    generalize hN : nbr ⟨ts.take (i + 1), ks⟩ y = N at nb1 nb2 nb3 nbl
    have fin : ∀ (a : Int) (b : Mx) (c : Int) (L : List Nm) (s3 s4 s5 s6 s7 : Sl) (dd : List D), dd = ks.map tie ++ L.map (fun u => tie (u, x)) → L.Nodup → (∀ u ∈ L, u ∈ ts.take (i + 1)) → L.length ≤ 10 → ∃ (a' : Int) (b' : Mx) (c' : Int) (ks' : List (Nm × Nm)) (t3 t4 t5 t6 t7 : Sl), TK (ts.take ((done ++ [i]).length + 1)) ks' ∧ ks'.length ≤ 10 * (done ++ [i]).length ∧ ([.own (some 0) (well a b c), .val (nms ts), .own none (.lst dd), s3, s4, s5, s6, s7, .dead] : Fm) = [.own (some 0) (well a' b' c'), .val (nms ts), .own none (.lst (ks'.map tie)), t3, t4, t5, t6, t7, .dead] := by
      intro a b c L s3 s4 s5 s6 s7 dd h1 h2 h3 h4
      refine ⟨a, b, c, ks ++ L.map (fun u => (u, x)), s3, s4, s5, s6, s7, ?_, by simp; omega, by rw [h1]; simp⟩
      rw [show (done ++ [i]).length + 1 = i + 1 + 1 by simp; omega, e1]
      exact gk.add hxn h2 h3
    have hkl2 : ks.length ≤ 100 := by omega
    bv_omega
    rename_i a2 b2 c2 wy hwy
    refine wp_if (fun h1 => ?_) fun h1 => ?_
    · bv_omega
      refine wp_if (fun h2 => ?_) fun h2 => ?_
      · have hNe : N = [] := by
          simp at h1 h2
          rcases h1.2 with h | h
          · omega
          · exact h
        subst hNe
        bv_omega
        refine wp_ifF (by simp) ?_
        bv_omega
        exact fin _ _ _ [y] _ _ _ _ _ _ (by simp [tie]) (by simp) (by simpa using hyt) (by simp)
      · bv_omega
        exact fin _ _ _ [y] _ _ _ _ _ _ (by simp [tie]) (by simp) (by simpa using hyt) (by simp)
    · bv_omega
      refine wp_if (fun h2 => ?_) fun h2 => ?_
      · bv_omega
        refine wp_if (fun h3 => ?_) fun h3 => ?_
        · bv_omega
          exact fin _ _ _ (N ++ [y]) _ _ _ _ _ _ (by simp [tie]) (by rw [List.nodup_append]; exact ⟨nb1, by simp, fun u hu v hv e => by rw [List.mem_singleton] at hv; subst hv; subst e; exact nb3 hu⟩) (fun u hu => (List.mem_append.mp hu).elim (nb2 u) fun h => by rw [List.mem_singleton] at h; subst h; exact hyt) (by simp; omega)
        · bv_omega
          exact fin _ _ _ N _ _ _ _ _ _ (by simp [tie]) nb1 nb2 (by omega)
      · bv_omega
        exact fin _ _ _ [] _ _ _ _ _ _ (by simp) .nil (by simp) (by simp)
  · rintro e ⟨a, b, c, ks, s3, s4, s5, s6, s7, gk, hkl, rfl⟩
    bv_omega
    refine hP a b c ks ?_ ?_
    · rw [List.length_range, List.length_map, show ts.length - 1 + 1 = ts.length by omega, List.take_length] at gk
      exact gk
    · rw [List.length_range, List.length_map] at hkl
      omega
local macro_rules | `(tactic| get_elem_tactic_extensible) => `(tactic| (refine wp_callK (H_law_grown_pairs.dv (by assumption)) rfl (by decide) (s_grown_pairs (by assumption) (by omega) _ _ _ _ (by assumption) (by omega) (by omega) (fun a' b' c' ks h0 h1 => ?_))))
end
local macro_rules | `(tactic| get_elem_tactic_extensible) => `(tactic| (refine wp_callK (H_law_near.dv (by assumption)) rfl (by decide) (s_near (by assumption) (by omega) _ _ (by assumption) (by omega) ?_)))
local macro_rules | `(tactic| get_elem_tactic_extensible) => `(tactic| (refine wp_callK (H_law_near.dv (by assumption)) rfl (by decide) (s_nearL (by assumption) (by omega) _ _ (by assumption) (by omega) ?_)))
local macro_rules | `(tactic| get_elem_tactic_extensible) => `(tactic| (refine wp_callK (H_law_grown_pairs.dv (by assumption)) rfl (by decide) (s_grown_pairs (by assumption) (by omega) _ _ _ _ (by assumption) (by omega) (by omega) (fun a' b' c' ks h0 h1 => ?_))))
/-! ## barred webs, webs -/
local macro_rules | `(tactic| bv_omega) => `(tactic| (repeat' (first
  | ((with_reducible apply tgE)
     first
     | ((with_reducible apply wp_var); · rfl)
     | (with_reducible apply wp_con)
     | ((with_reducible apply wp_borV); · rfl)
     | ((with_reducible apply wp_borO); · rfl)
     | (with_reducible apply wp_cal)
     | (with_reducible apply wp_bin)
     | (with_reducible apply wp_cmp)
     | (with_reducible apply wp_idx)
     | (with_reducible apply wp_prp)
     | (with_reducible apply wp_blt)
     | (with_reducible apply wp_bmt)
     | (with_reducible apply wp_or)
     | (with_reducible apply wp_and)
     | ((with_reducible apply wp_lc0)
        · (bv_omega; apply And.intro rfl; apply src1 rfl; first | ((with_reducible apply tgTp); first | exact src_pT _ | exact src_pL _ | exact src_pF _ | exact src_pS _) | ((with_reducible apply tgTe); first | exact src_eT _ | exact src_eL _) | ((with_reducible apply tgT1); first | exact src_range (by omega) (by omega) | exact src_range (by simp only [List.length_map]; omega) (by simp only [List.length_map]; omega)))
        · first | rfl | exact map1 _ _ | exact map2 _ _ _ | exact map3 _ _ _ _
        · rfl
        · (intro _ _; rfl)
        · (intro _ _; rfl)
        · (intro _ _; rfl)
        · rfl
        · (intro _ _; bv_omega; all_goals first | exact ⟨rfl, rfl⟩ | rfl)
        · (first | (simp; done) | (simp; omega) | omega))
     | ((with_reducible apply wp_lc)
        · (bv_omega; apply And.intro rfl; apply src1 rfl; first | ((with_reducible apply tgTp); first | exact src_pT _ | exact src_pL _ | exact src_pF _ | exact src_pS _) | ((with_reducible apply tgTe); first | exact src_eT _ | exact src_eL _) | ((with_reducible apply tgT1); first | exact src_range (by omega) (by omega) | exact src_range (by simp only [List.length_map]; omega) (by simp only [List.length_map]; omega)))
        · first | rfl | exact map1 _ _ | exact map2 _ _ _ | exact map3 _ _ _ _
        · rfl
        · (intro _ _; rfl)
        · (intro _ _; rfl)
        · (intro _ _; rfl)
        · rfl
        · (intro _ _; refine wp_cond1 rfl ?_; bv_omega; all_goals first | exact ⟨rfl, rfl⟩ | rfl)
        · (intro _ _ _; bv_omega; all_goals first | exact ⟨rfl, rfl⟩ | rfl)
        · (first | (simp; done) | (simp; omega) | omega))
     | ((with_reducible apply wp_dc0)
        · (bv_omega; apply And.intro rfl; apply src1 rfl; first | ((with_reducible apply tgTp); first | exact src_pT _ | exact src_pL _ | exact src_pF _ | exact src_pS _) | ((with_reducible apply tgTe); first | exact src_eT _ | exact src_eL _) | ((with_reducible apply tgT1); first | exact src_range (by omega) (by omega) | exact src_range (by simp only [List.length_map]; omega) (by simp only [List.length_map]; omega)))
        · first | rfl | exact map1 _ _ | exact map2 _ _ _ | exact map3 _ _ _ _
        · rfl
        · assumption
        · (intro _ _; rfl)
        · (intro _ _; rfl)
        · (intro _ _; rfl)
        · rfl
        · (intro _ _; bv_omega; all_goals first | exact ⟨rfl, rfl⟩ | rfl)
        · (intro _ _; bv_omega; all_goals first | exact ⟨rfl, rfl⟩ | rfl)
        · infer_instance
        · (intro _ _; rfl)
        · (first | (simp; done) | (simp; omega) | omega))
     | ((with_reducible apply wp_mak); · assumption)
     | (with_reducible apply wp_tup)
     | (with_reducible apply wp_lst)
     | (with_reducible apply wp_not)
     | (with_reducible apply wp_neg)
     | (with_reducible apply wp_ifeE)
     | (with_reducible apply wp_isi)
     | (with_reducible apply wp_fld)
     | (with_reducible apply wp_slc)
     | (with_reducible apply wp_rev)
     | (with_reducible apply wp_mth)
     | (with_reducible apply wp_chn)
     | (with_reducible apply wp_dic)
     | (with_reducible apply wp_give)
     | ((with_reducible apply wp_lend); · rfl)
     | ((with_reducible apply wp_frzO); · rfl)
     | ((with_reducible apply wp_frzV); · rfl)
     | ((with_reducible apply wp_movO); · rfl)
     | ((with_reducible apply wp_movV); · rfl)
     | ((with_reducible apply wp_glo); · assumption))
  | ((with_reducible apply tgEs)
     first
     | (with_reducible apply wp_cons)
     | (with_reducible apply wp_nil)
     | (with_reducible apply wp_star))
  | ((with_reducible apply tgS)
     first
     | (with_reducible apply ws_asg)
     | (with_reducible apply ws_exp)
     | (with_reducible apply ws_ife)
     | (with_reducible apply ws_ret)
     | (with_reducible apply ws_sto)
     | (with_reducible apply ws_par)
     | (with_reducible apply ws_unp)
     | (with_reducible apply ws_for)
     | (with_reducible apply ws_whl)
     | (with_reducible apply ws_att)
     | (with_reducible apply ws_retN)
     | (with_reducible apply ws_pas)
     | (with_reducible apply ws_brk)
     | (with_reducible apply ws_cnt))
  | (with_reducible apply ws_cons)
  | (with_reducible apply ws_nil)
  | ((with_reducible apply nx_next); try simp only [List.set_cons_zero, List.set_cons_succ, Int.reduceToNat, Int.toNat_one, Int.toNat_zero])
  | (with_reducible apply nx_ret)
  | ((with_reducible apply wp_or2); rotate_left; intro _; rotate_right)
  | ((with_reducible apply wp_and2); rotate_left; intro _; rotate_right)
  | (with_reducible apply wp_or1)
  | (with_reducible apply wp_and1)
  | ((with_reducible apply tgPb); unfold Pb)
  | ((with_reducible apply tgPq); exact ⟨rfl, rfl⟩)
  | ((with_reducible apply tgK); get_elem_tactic_extensible)
  | ((with_reducible apply tgM); get_elem_tactic_extensible)
  | ((with_reducible apply tgFl); first | refine wp_fldR rfl (by assumption) (lk_spots _ _ _) ?_ | refine wp_fldR rfl (by assumption) (lk_knots _ _ _) ?_ | refine wp_fldR rfl (by assumption) (lk_sides _ _ _) ?_)
  | ((with_reducible apply tgP); refine wp_prpR rfl (by assumption) ?_)
  | (with_reducible apply nx_cnt)
  | (with_reducible apply nx_brk)
  | (with_reducible apply lpk_next)
  | (with_reducible apply lpk_ret)
  | (with_reducible apply lpk_cnt)
  | (with_reducible apply lpk_brk)
  | ((with_reducible apply ck_v); · rfl)
  | ((with_reducible apply ck_f); · rfl)
  | ((with_reducible apply ck_v1)
     · rfl
     · rfl)
  | ((with_reducible apply ck_f1)
     · rfl
     · rfl)
  | ((with_reducible apply end_next); · rfl)
  | ((with_reducible apply end_ret0); · rfl)
  | ((with_reducible apply mk_v); · rfl)
  | ((with_reducible apply tgR)
     first
     | (refine wp_rd2 rfl rfl (wo_lone _) ?_)
     | (refine wp_rd2 rfl rfl (wo_leaf _) ?_)
     | (refine wp_rd2 rfl rfl (wo_pair _) ?_)
     | (refine wp_rd2 rfl rfl (wo_nin _) ?_)
     | (refine wp_rd2 rfl rfl (c_eqL1 _ _) ?_)
     | (refine wp_rd2 rfl rfl (c_eqI _ _) ?_)
     | (refine wp_rd2 rfl rfl (c_neI _ _) ?_)
     | (refine wp_rd2 rfl rfl (b_add _ _) ?_)
     | (refine wp_rd2 rfl rfl (b_sub _ _) ?_)
     | (refine wp_rd2 rfl rfl (b_addL (by first | (simp; done) | (simp; omega) | omega)) ?_)
     | (refine wp_rd2 rfl rfl (b_addT (by first | (simp; done) | (simp; omega) | omega)) ?_)
     | (refine wp_rd2 rfl rfl (c_inN _ _) ?_)
     | (refine wp_rd2 rfl rfl (c_ninN _ _) ?_)
     | (refine wp_rd2 rfl rfl (c_inK' _ _ _) ?_)
     | (refine wp_rd2 rfl rfl (c_inKL _ _ _) ?_)
     | (refine wp_rd2 rfl rfl (c_inT _ _) ?_)
     | (refine wp_rd2 rfl rfl (c_in2 _ _ _) ?_)
     | (refine wp_rd2 rfl rfl (c_inL _ _) ?_)
     | (refine wp_rd2 rfl rfl (c_inD _ _ rfl) ?_)
     | (refine wp_rd2 rfl rfl (c_inD (f := tie) (_, _) _ rfl) ?_)
     | (refine wp_rd2 rfl rfl (c_ninD _ _ rfl) ?_)
     | (refine wp_rd2 rfl rfl (c_ninT _ _) ?_)
     | (refine wp_rd2 rfl rfl (c_ninL _ _) ?_)
     | (refine wp_rd2 rfl rfl (c_eqT0 _) ?_)
     | (refine wp_rd2 rfl rfl (c_neT0 _) ?_)
     | (refine wp_rd2 rfl rfl (c_eqL0 _) ?_)
     | (refine wp_rd2 rfl rfl (c_neL0 _) ?_)
     | (refine wp_rd2 rfl rfl (c_eqL (f := nm) _ _) ?_)
     | (refine wp_rd2 rfl rfl (c_neL (f := nm) _ _) ?_)
     | (refine wp_rd2 rfl rfl (eq_dct0 _) ?_)
     | (refine wp_rd2 rfl rfl (ne_dct0 _) ?_)
     | (refine wp_rd2 rfl rfl (c_eq _ _) ?_)
     | (refine wp_rd2 rfl rfl (c_ne _ _) ?_)
     | (refine wp_rd2 rfl rfl (b_mod (by omega)) ?_)
     | (refine wp_rd2 rfl rfl (b_div (by omega) (by omega)) ?_)
     | (refine wp_rd2 rfl rfl (b_mulL (by omega) (by omega)) ?_)
     | (refine wp_rd2 rfl rfl (b_mulR (by omega) (by omega)) ?_)
     | (refine wp_rd2 rfl rfl (c_neB _ _) ?_)
     | (refine wp_rd2 rfl rfl (c_eqB _ _) ?_)
     | (refine wp_rd2 rfl rfl (c_lt _ _) ?_)
     | (refine wp_rd2 rfl rfl (c_le _ _) ?_)
     | (refine wp_rd2 rfl rfl (c_gt _ _) ?_)
     | (refine wp_rd2 rfl rfl (c_ge _ _) ?_)
     | (refine wp_rd2 rfl rfl (c_is _) ?_)
     | (refine wp_rd2 rfl rfl (c_isn _) ?_)
     | (refine wp_rd2 rfl rfl rfl ?_))
  | (with_reducible apply ws_asgV)
  | (with_reducible apply ws_asgF)
  | (with_reducible apply ws_asgO)
  | (with_reducible apply ws_asgW)
  | (with_reducible apply ws_retV)
  | (with_reducible apply ws_retF)
  | (with_reducible apply ws_par0)
  | (with_reducible apply ws_par1)
  | (with_reducible apply ws_unp0)
  | (with_reducible apply ws_unpN)
  | (with_reducible apply ws_unpS)
  | ((with_reducible apply ws_sub); · rfl)
  | (with_reducible apply wp_dic0)
  | ((with_reducible apply tgDi); refine wp_dic1 rfl rfl rfl ?_)
  | ((with_reducible apply wp_tst))
  | ((refine wp_tupR rfl ?_ ?_); · simp only [List.length_cons, List.length_nil]; decide)
  | ((refine wp_lstR rfl ?_ ?_); · simp only [List.length_cons, List.length_nil]; decide)
  | (with_reducible apply wp_part0)
  | ((with_reducible apply wp_part1); · rfl)
  | ((with_reducible apply tgI); first | refine wp_idxR rfl rfl (idx_0M (by assumption)) ?_ | refine wp_idxR rfl rfl (idx_1M (by assumption)) ?_ | refine wp_idxR rfl rfl (idx_2M (by assumption)) ?_ | refine wp_idxR rfl rfl (idx_3M (by assumption)) ?_ | refine wp_idxR rfl rfl (idx_atM (by assumption)) ?_ | refine wp_idxR rfl rfl (idx_lastM (by assumption)) ?_ | refine wp_idxR rfl rfl (idx_atL (by assumption)) ?_ | refine wp_idxR rfl rfl (idx_near (by assumption) (by assumption)) ?_ | refine wp_idxR rfl rfl (idx_sides (by assumption) (by assumption)) ?_ | refine wp_idxR rfl rfl (idx_0L (by assumption)) ?_ | refine wp_idxR rfl rfl rfl ?_)
  | ((with_reducible apply tgAll); refine wp_bltR rfl (blt_all _ _) ?_)
  | ((with_reducible apply tgAny); refine wp_bltR rfl (blt_any _ _) ?_)
  | ((with_reducible apply tgBl); refine wp_bltR rfl (blt_lenN _) ?_)
  | ((with_reducible apply tgBl); refine wp_bltR rfl rfl ?_)
  | ((with_reducible apply tgD); refine wp_bltR rfl (b_dvm (by omega) (by omega)) ?_)
  | ((with_reducible apply tgC); first | (refine wp_isiR rfl (isi_own (by assumption)) ?_) | (refine wp_isiR rfl rfl ?_))
  | ((with_reducible apply tgL); first | refine wp_slcR rfl (slc_pre _ _ _) ?_ | refine wp_slcR rfl (slc_drop1 _ _ _) ?_ | refine wp_slcR rfl (slc_drop2 _ _ _) ?_ | refine wp_slcR rfl (slc_take _ _ _) ?_ | refine wp_slcR rfl (slc_drop _ _ _) ?_ | refine wp_slcR rfl (slc_init _ _) ?_ | refine wp_slcR rfl (slcL_drop1 _ _ _) ?_ | refine wp_slcR rfl (slcL_take _ _ _) ?_ | refine wp_slcR rfl (slcL_drop _ _ _) ?_ | refine wp_slcR rfl rfl ?_)
  | ((with_reducible apply tgCh)
     apply wp_chnP rfl
     · (bv_omega; all_goals first | exact ⟨rfl, rfl⟩ | rfl)
     · rfl)
  | ((with_reducible apply tg1); first | refine wp_rd1 rfl (rev_tie _) ?_ | refine wp_rd1 rfl rfl ?_)
  | ((with_reducible apply tgO); refine ws_stoR rfl rfl ?_)
  | ((with_reducible apply tgA); refine wp_append rfl rfl (by simp; omega) ?_)
  | ((with_reducible apply tgXm); refine Exists.intro _ (And.intro (mthG_ok rfl rfl (by assumption)) ?_))
  | ((with_reducible apply tgSp); refine Exists.intro _ (And.intro (src1 rfl (by first | exact src_pT _ | exact src_pL _ | exact src_pF _ | exact src_pS _)) ?_))
  | ((with_reducible apply tgSe); refine Exists.intro _ (And.intro (src1 rfl (by first | exact src_eT _ | exact src_eL _)) ?_))
  | ((with_reducible apply tgS1); refine Exists.intro _ (And.intro (src1 rfl (by first | exact src_range (by omega) (by omega) | exact src_range (by simp only [List.length_map]; omega) (by simp only [List.length_map]; omega))) ?_))
  | ((with_reducible apply tgXb); refine Exists.intro _ (And.intro rfl ?_))
  | ((with_reducible apply tgXi); refine Exists.intro _ (And.intro rfl ?_))
  | ((with_reducible apply tgXt); refine Exists.intro _ (And.intro rfl ?_))
  | ((with_reducible apply tgXr); refine Exists.intro _ (And.intro rfl ?_))
  | ((with_reducible apply tgXf); refine Exists.intro _ (And.intro rfl ?_))
  | ((with_reducible apply tgXs); refine Exists.intro _ (And.intro rfl ?_))
  | ((with_reducible apply tgBm); refine And.intro rfl ?_)
  | ((with_reducible apply tgRs); refine And.intro rfl ?_)
  | ((with_reducible apply tgLn); refine And.intro rfl ?_)
  | fail
  )))
local macro_rules | `(tactic| symm_saturate) => `(tactic| (repeat' (first
  | ((with_reducible apply tgE)
     first
     | ((with_reducible apply wp_var); · rfl)
     | (with_reducible apply wp_con)
     | ((with_reducible apply wp_borV); · rfl)
     | ((with_reducible apply wp_borO); · rfl)
     | (with_reducible apply wp_cal)
     | (with_reducible apply wp_bin)
     | (with_reducible apply wp_cmp)
     | (with_reducible apply wp_idx)
     | (with_reducible apply wp_prp)
     | (with_reducible apply wp_blt)
     | (with_reducible apply wp_bmt)
     | ((with_reducible apply wp_lc0)
        · (bv_omega; apply And.intro rfl; apply src1 rfl; first | ((with_reducible apply tgTp); first | exact src_pT _ | exact src_pL _ | exact src_pF _ | exact src_pS _) | ((with_reducible apply tgTe); first | exact src_eT _ | exact src_eL _) | ((with_reducible apply tgT1); first | exact src_range (by omega) (by omega) | exact src_range (by simp only [List.length_map]; omega) (by simp only [List.length_map]; omega)))
        · first | rfl | exact map1 _ _ | exact map2 _ _ _ | exact map3 _ _ _ _
        · rfl
        · (intro _ _; rfl)
        · (intro _ _; rfl)
        · (intro _ _; rfl)
        · rfl
        · (intro _ _; bv_omega; all_goals first | exact ⟨rfl, rfl⟩ | rfl)
        · (first | (simp; done) | (simp; omega) | omega))
     | ((with_reducible apply wp_lc)
        · (bv_omega; apply And.intro rfl; apply src1 rfl; first | ((with_reducible apply tgTp); first | exact src_pT _ | exact src_pL _ | exact src_pF _ | exact src_pS _) | ((with_reducible apply tgTe); first | exact src_eT _ | exact src_eL _) | ((with_reducible apply tgT1); first | exact src_range (by omega) (by omega) | exact src_range (by simp only [List.length_map]; omega) (by simp only [List.length_map]; omega)))
        · first | rfl | exact map1 _ _ | exact map2 _ _ _ | exact map3 _ _ _ _
        · rfl
        · (intro _ _; rfl)
        · (intro _ _; rfl)
        · (intro _ _; rfl)
        · rfl
        · (intro _ _; refine wp_cond1 rfl ?_; bv_omega; all_goals first | exact ⟨rfl, rfl⟩ | rfl)
        · (intro _ _ _; bv_omega; all_goals first | exact ⟨rfl, rfl⟩ | rfl)
        · (first | (simp; done) | (simp; omega) | omega))
     | ((with_reducible apply wp_dc0)
        · (bv_omega; apply And.intro rfl; apply src1 rfl; first | ((with_reducible apply tgTp); first | exact src_pT _ | exact src_pL _ | exact src_pF _ | exact src_pS _) | ((with_reducible apply tgTe); first | exact src_eT _ | exact src_eL _) | ((with_reducible apply tgT1); first | exact src_range (by omega) (by omega) | exact src_range (by simp only [List.length_map]; omega) (by simp only [List.length_map]; omega)))
        · first | rfl | exact map1 _ _ | exact map2 _ _ _ | exact map3 _ _ _ _
        · rfl
        · assumption
        · (intro _ _; rfl)
        · (intro _ _; rfl)
        · (intro _ _; rfl)
        · rfl
        · (intro _ _; bv_omega; all_goals first | exact ⟨rfl, rfl⟩ | rfl)
        · (intro _ _; bv_omega; all_goals first | exact ⟨rfl, rfl⟩ | rfl)
        · infer_instance
        · (intro _ _; rfl)
        · (first | (simp; done) | (simp; omega) | omega))
     | ((with_reducible apply wp_mak); · assumption)
     | (with_reducible apply wp_tup)
     | (with_reducible apply wp_lst)
     | (with_reducible apply wp_not)
     | (with_reducible apply wp_neg)
     | (with_reducible apply wp_ifeE)
     | (with_reducible apply wp_isi)
     | (with_reducible apply wp_fld)
     | (with_reducible apply wp_slc)
     | (with_reducible apply wp_rev)
     | (with_reducible apply wp_mth)
     | (with_reducible apply wp_chn)
     | (with_reducible apply wp_dic)
     | (with_reducible apply wp_give)
     | ((with_reducible apply wp_lend); · rfl)
     | ((with_reducible apply wp_frzO); · rfl)
     | ((with_reducible apply wp_frzV); · rfl)
     | ((with_reducible apply wp_movO); · rfl)
     | ((with_reducible apply wp_movV); · rfl)
     | ((with_reducible apply wp_glo); · assumption))
  | ((with_reducible apply tgEs)
     first
     | (with_reducible apply wp_cons)
     | (with_reducible apply wp_nil)
     | (with_reducible apply wp_star))
  | ((with_reducible apply tgS)
     first
     | (with_reducible apply ws_asg)
     | (with_reducible apply ws_exp)
     | (with_reducible apply ws_ife)
     | (with_reducible apply ws_ret)
     | (with_reducible apply ws_sto)
     | (with_reducible apply ws_par)
     | (with_reducible apply ws_unp)
     | (with_reducible apply ws_for)
     | (with_reducible apply ws_whl)
     | (with_reducible apply ws_att)
     | (with_reducible apply ws_retN)
     | (with_reducible apply ws_pas)
     | (with_reducible apply ws_brk)
     | (with_reducible apply ws_cnt))
  | (with_reducible apply ws_cons)
  | (with_reducible apply ws_nil)
  | ((with_reducible apply nx_next); try simp only [List.set_cons_zero, List.set_cons_succ, Int.reduceToNat, Int.toNat_one, Int.toNat_zero])
  | (with_reducible apply nx_ret)
  | ((with_reducible apply wp_or2); rotate_left; intro _; rotate_right)
  | ((with_reducible apply wp_and2); rotate_left; intro _; rotate_right)
  | (with_reducible apply wp_or1)
  | (with_reducible apply wp_and1)
  | ((with_reducible apply tgPb); unfold Pb)
  | ((with_reducible apply tgPq); exact ⟨rfl, rfl⟩)
  | ((with_reducible apply tgK); get_elem_tactic_extensible)
  | ((with_reducible apply tgM); get_elem_tactic_extensible)
  | ((with_reducible apply tgFl); first | refine wp_fldR rfl (by assumption) (lk_spots _ _ _) ?_ | refine wp_fldR rfl (by assumption) (lk_knots _ _ _) ?_ | refine wp_fldR rfl (by assumption) (lk_sides _ _ _) ?_)
  | ((with_reducible apply tgP); refine wp_prpR rfl (by assumption) ?_)
  | (with_reducible apply nx_cnt)
  | (with_reducible apply nx_brk)
  | (with_reducible apply lpk_next)
  | (with_reducible apply lpk_ret)
  | (with_reducible apply lpk_cnt)
  | (with_reducible apply lpk_brk)
  | ((with_reducible apply ck_v); · rfl)
  | ((with_reducible apply ck_f); · rfl)
  | ((with_reducible apply ck_v1)
     · rfl
     · rfl)
  | ((with_reducible apply ck_f1)
     · rfl
     · rfl)
  | ((with_reducible apply end_next); · rfl)
  | ((with_reducible apply end_ret0); · rfl)
  | ((with_reducible apply mk_v); · rfl)
  | ((with_reducible apply tgR)
     first
     | (refine wp_rd2 rfl rfl (wo_lone _) ?_)
     | (refine wp_rd2 rfl rfl (wo_leaf _) ?_)
     | (refine wp_rd2 rfl rfl (wo_pair _) ?_)
     | (refine wp_rd2 rfl rfl (wo_nin _) ?_)
     | (refine wp_rd2 rfl rfl (c_eqL1 _ _) ?_)
     | (refine wp_rd2 rfl rfl (c_eqI _ _) ?_)
     | (refine wp_rd2 rfl rfl (c_neI _ _) ?_)
     | (refine wp_rd2 rfl rfl (b_add _ _) ?_)
     | (refine wp_rd2 rfl rfl (b_sub _ _) ?_)
     | (refine wp_rd2 rfl rfl (b_addL (by first | (simp; done) | (simp; omega) | omega)) ?_)
     | (refine wp_rd2 rfl rfl (b_addT (by first | (simp; done) | (simp; omega) | omega)) ?_)
     | (refine wp_rd2 rfl rfl (c_inN _ _) ?_)
     | (refine wp_rd2 rfl rfl (c_ninN _ _) ?_)
     | (refine wp_rd2 rfl rfl (c_inK' _ _ _) ?_)
     | (refine wp_rd2 rfl rfl (c_inKL _ _ _) ?_)
     | (refine wp_rd2 rfl rfl (c_inT _ _) ?_)
     | (refine wp_rd2 rfl rfl (c_in2 _ _ _) ?_)
     | (refine wp_rd2 rfl rfl (c_inL _ _) ?_)
     | (refine wp_rd2 rfl rfl (c_inD _ _ rfl) ?_)
     | (refine wp_rd2 rfl rfl (c_inD (f := tie) (_, _) _ rfl) ?_)
     | (refine wp_rd2 rfl rfl (c_ninD _ _ rfl) ?_)
     | (refine wp_rd2 rfl rfl (c_ninT _ _) ?_)
     | (refine wp_rd2 rfl rfl (c_ninL _ _) ?_)
     | (refine wp_rd2 rfl rfl (c_eqT0 _) ?_)
     | (refine wp_rd2 rfl rfl (c_neT0 _) ?_)
     | (refine wp_rd2 rfl rfl (c_eqL0 _) ?_)
     | (refine wp_rd2 rfl rfl (c_neL0 _) ?_)
     | (refine wp_rd2 rfl rfl (c_eqL (f := nm) _ _) ?_)
     | (refine wp_rd2 rfl rfl (c_neL (f := nm) _ _) ?_)
     | (refine wp_rd2 rfl rfl (eq_dct0 _) ?_)
     | (refine wp_rd2 rfl rfl (ne_dct0 _) ?_)
     | (refine wp_rd2 rfl rfl (c_eq _ _) ?_)
     | (refine wp_rd2 rfl rfl (c_ne _ _) ?_)
     | (refine wp_rd2 rfl rfl (b_mod (by omega)) ?_)
     | (refine wp_rd2 rfl rfl (b_div (by omega) (by omega)) ?_)
     | (refine wp_rd2 rfl rfl (b_mulL (by omega) (by omega)) ?_)
     | (refine wp_rd2 rfl rfl (b_mulR (by omega) (by omega)) ?_)
     | (refine wp_rd2 rfl rfl (c_neB _ _) ?_)
     | (refine wp_rd2 rfl rfl (c_eqB _ _) ?_)
     | (refine wp_rd2 rfl rfl (c_lt _ _) ?_)
     | (refine wp_rd2 rfl rfl (c_le _ _) ?_)
     | (refine wp_rd2 rfl rfl (c_gt _ _) ?_)
     | (refine wp_rd2 rfl rfl (c_ge _ _) ?_)
     | (refine wp_rd2 rfl rfl (c_is _) ?_)
     | (refine wp_rd2 rfl rfl (c_isn _) ?_)
     | (refine wp_rd2 rfl rfl rfl ?_))
  | (with_reducible apply ws_asgV)
  | (with_reducible apply ws_asgF)
  | (with_reducible apply ws_asgO)
  | (with_reducible apply ws_asgW)
  | (with_reducible apply ws_retV)
  | (with_reducible apply ws_retF)
  | (with_reducible apply ws_par0)
  | (with_reducible apply ws_par1)
  | (with_reducible apply ws_unp0)
  | (with_reducible apply ws_unpN)
  | (with_reducible apply ws_unpS)
  | ((with_reducible apply ws_sub); · rfl)
  | (with_reducible apply wp_dic0)
  | ((with_reducible apply tgDi); refine wp_dic1 rfl rfl rfl ?_)
  | ((with_reducible apply wp_tst))
  | ((refine wp_tupR rfl ?_ ?_); · simp only [List.length_cons, List.length_nil]; decide)
  | ((refine wp_lstR rfl ?_ ?_); · simp only [List.length_cons, List.length_nil]; decide)
  | (with_reducible apply wp_part0)
  | ((with_reducible apply wp_part1); · rfl)
  | ((with_reducible apply tgI); first | refine wp_idxR rfl rfl (idx_0M (by assumption)) ?_ | refine wp_idxR rfl rfl (idx_1M (by assumption)) ?_ | refine wp_idxR rfl rfl (idx_2M (by assumption)) ?_ | refine wp_idxR rfl rfl (idx_3M (by assumption)) ?_ | refine wp_idxR rfl rfl (idx_atM (by assumption)) ?_ | refine wp_idxR rfl rfl (idx_lastM (by assumption)) ?_ | refine wp_idxR rfl rfl (idx_atL (by assumption)) ?_ | refine wp_idxR rfl rfl (idx_near (by assumption) (by assumption)) ?_ | refine wp_idxR rfl rfl (idx_sides (by assumption) (by assumption)) ?_ | refine wp_idxR rfl rfl (idx_0L (by assumption)) ?_ | refine wp_idxR rfl rfl rfl ?_)
  | ((with_reducible apply tgAll); refine wp_bltR rfl (blt_all _ _) ?_)
  | ((with_reducible apply tgAny); refine wp_bltR rfl (blt_any _ _) ?_)
  | ((with_reducible apply tgBl); refine wp_bltR rfl (blt_lenN _) ?_)
  | ((with_reducible apply tgBl); refine wp_bltR rfl rfl ?_)
  | ((with_reducible apply tgD); refine wp_bltR rfl (b_dvm (by omega) (by omega)) ?_)
  | ((with_reducible apply tgC); first | (refine wp_isiR rfl (isi_own (by assumption)) ?_) | (refine wp_isiR rfl rfl ?_))
  | ((with_reducible apply tgL); first | refine wp_slcR rfl (slc_pre _ _ _) ?_ | refine wp_slcR rfl (slc_drop1 _ _ _) ?_ | refine wp_slcR rfl (slc_drop2 _ _ _) ?_ | refine wp_slcR rfl (slc_take _ _ _) ?_ | refine wp_slcR rfl (slc_drop _ _ _) ?_ | refine wp_slcR rfl (slc_init _ _) ?_ | refine wp_slcR rfl (slcL_drop1 _ _ _) ?_ | refine wp_slcR rfl (slcL_take _ _ _) ?_ | refine wp_slcR rfl (slcL_drop _ _ _) ?_ | refine wp_slcR rfl rfl ?_)
  | ((with_reducible apply tgCh)
     apply wp_chnP rfl
     · (bv_omega; all_goals first | exact ⟨rfl, rfl⟩ | rfl)
     · rfl)
  | ((with_reducible apply tg1); first | refine wp_rd1 rfl (rev_tie _) ?_ | refine wp_rd1 rfl rfl ?_)
  | ((with_reducible apply tgO); refine ws_stoR rfl rfl ?_)
  | ((with_reducible apply tgA); refine wp_append rfl rfl (by simp; omega) ?_)
  | ((with_reducible apply tgXm); refine Exists.intro _ (And.intro (mthG_ok rfl rfl (by assumption)) ?_))
  | ((with_reducible apply tgSp); refine Exists.intro _ (And.intro (src1 rfl (by first | exact src_pT _ | exact src_pL _ | exact src_pF _ | exact src_pS _)) ?_))
  | ((with_reducible apply tgSe); refine Exists.intro _ (And.intro (src1 rfl (by first | exact src_eT _ | exact src_eL _)) ?_))
  | ((with_reducible apply tgS1); refine Exists.intro _ (And.intro (src1 rfl (by first | exact src_range (by omega) (by omega) | exact src_range (by simp only [List.length_map]; omega) (by simp only [List.length_map]; omega))) ?_))
  | ((with_reducible apply tgXb); refine Exists.intro _ (And.intro rfl ?_))
  | ((with_reducible apply tgXi); refine Exists.intro _ (And.intro rfl ?_))
  | ((with_reducible apply tgXt); refine Exists.intro _ (And.intro rfl ?_))
  | ((with_reducible apply tgXr); refine Exists.intro _ (And.intro rfl ?_))
  | ((with_reducible apply tgXf); refine Exists.intro _ (And.intro rfl ?_))
  | ((with_reducible apply tgXs); refine Exists.intro _ (And.intro rfl ?_))
  | ((with_reducible apply tgBm); refine And.intro rfl ?_)
  | ((with_reducible apply tgRs); refine And.intro rfl ?_)
  | ((with_reducible apply tgLn); refine And.intro rfl ?_)
  | fail
  )))
section
variable {W : Wd} {fns : Nat → Option Fn} {n : Nu} {k : Nat} {P : Res → Prop}
theorem pairwise_map_right {x : Nm} {L : List Nm} (hn : L.Nodup) (hx : x ∉ L) : (L.map fun u => (u, x)).Pairwise fun p q => alike p q = false := by
  rw [List.pairwise_map]
  refine List.Pairwise.imp_of_mem ?_ hn
  intro u v hu hv huv
  rw [Bool.eq_false_iff]
  intro z
  rw [alike_iff] at z
  rcases z with z | z
  · simp only [Prod.mk.injEq, and_true] at z; exact huv z
  · simp only [Prod.mk.injEq] at z; exact hx (z.1 ▸ hu)
/-- leaves behind other ties -/
theorem TK.leaves {ts L : List Nm} {ks : List (Nm × Nm)} {x : Nm} (h : TK ts ks) (hx : x ∈ ts) (hn : L.Nodup) (hL : ∀ u ∈ L, u ∈ ts ∧ u ≠ x) (hk : ∀ u ∈ L, ∀ p ∈ ks, p.1 ≠ u ∧ p.2 ≠ u) : TK ts (ks ++ L.map fun u => (u, x)) := by
  refine ⟨fun p m => ?_, ?_⟩
  · rcases List.mem_append.mp m with m | m
    · exact h.pr p m
    · obtain ⟨u, hu, rfl⟩ := List.mem_map.mp m
      rw [pairB_iff]
      exact ⟨(hL u hu).2, (hL u hu).1, hx⟩
  · rw [List.pairwise_append]
    refine ⟨h.un, pairwise_map_right hn fun m => (hL x m).2 rfl, fun p hp q hq => ?_⟩
    obtain ⟨u, hu, rfl⟩ := List.mem_map.mp hq
    rw [Bool.eq_false_iff]
    intro z
    rw [alike_iff] at z
    have := hk u hu p hp
    rcases z with z | z
    · rw [z] at this; exact this.1 rfl
    · rw [z] at this; exact this.2 rfl
theorem gk5 {a b c d e : Nm} {r : List Nm} (h : (a :: b :: c :: d :: e :: r).Nodup) : TK (a :: b :: c :: d :: e :: r) [(a, b), (b, c), (c, d), (d, e), (e, a), (a, c), (a, d)] := by
  simp only [List.nodup_cons, List.mem_cons, not_or] at h
  obtain ⟨⟨h1, h2, h3, h4, _⟩, ⟨h5, h6, h7, _⟩, ⟨h8, h9, _⟩, ⟨h10, _⟩, _⟩ := h
  refine ⟨?_, ?_⟩
  · intro p hp
    rw [pairB_iff]
    simp only [List.mem_cons, List.not_mem_nil, or_false] at hp
    rcases hp with rfl | rfl | rfl | rfl | rfl | rfl | rfl <;> simp [h1, h2, h3, h4, h5, h6, h7, h8, h9, h10, Ne.symm h4]
  · simp [alike, h1, h2, h3, h4, h5, h6, h7, h8, h9, h10, Ne.symm h1, Ne.symm h2, Ne.symm h3, Ne.symm h4, Ne.symm h5, Ne.symm h6, Ne.symm h7, Ne.symm h8, Ne.symm h9, Ne.symm h10]
theorem gk6 {a b c d e f : Nm} {r : List Nm} (h : (a :: b :: c :: d :: e :: f :: r).Nodup) : TK (a :: b :: c :: d :: e :: f :: r) [(a, b), (b, c), (c, d), (d, e), (e, f), (f, a)] := by
  simp only [List.nodup_cons, List.mem_cons, not_or] at h
  obtain ⟨⟨h1, h2, h3, h4, h4', _⟩, ⟨h5, h6, h7, h7', _⟩, ⟨h8, h9, h9', _⟩, ⟨h10, h10', _⟩, ⟨h11, _⟩, _⟩ := h
  refine ⟨?_, ?_⟩
  · intro p hp
    rw [pairB_iff]
    simp only [List.mem_cons, List.not_mem_nil, or_false] at hp
    rcases hp with rfl | rfl | rfl | rfl | rfl | rfl <;> simp [h1, h2, h3, h4, h5, h6, h7, h8, h9, h10, h4', h11, Ne.symm h4']
  · simp [alike, h1, h2, h3, h4, h5, h6, h7, h8, h9, h10, h4', h7', h9', h10', h11, Ne.symm h1, Ne.symm h2, Ne.symm h3, Ne.symm h4, Ne.symm h5, Ne.symm h6, Ne.symm h7, Ne.symm h8, Ne.symm h9, Ne.symm h10, Ne.symm h4', Ne.symm h7', Ne.symm h9', Ne.symm h10', Ne.symm h11]
theorem TK.perm {ts us : List Nm} {ks : List (Nm × Nm)} (h : TK ts ks) (p : ts.Perm us) : TK us ks := h.mono fun x m => p.mem_iff.mp m
theorem five {α : Type} {l : List α} (h : 5 ≤ l.length) : ∃ a b c d e r, l = a :: b :: c :: d :: e :: r := by
  match l with
  | [] => simp at h
  | [_] => simp at h
  | [_, _] => simp at h
  | [_, _, _] => simp at h
  | [_, _, _, _] => simp at h
  | a :: b :: c :: d :: e :: r => exact ⟨a, b, c, d, e, r, rfl⟩
theorem idx_list {ys : List Nm} {i : Int} {x : Nm} (j : Nat) (h : i = j) (hx : ys[j]? = some x) : idxD (.lst (ys.map nm)) (.int i) = some (nm x) := by
  subst h
  exact idx_atL hx
theorem leaves_lc {ts : List Nm} {Q : Rv → Fm → Prop} {X : Xp} (H : H_law_dip W fns n) (hk : 1 ≤ k) (a : Int) (b : Mx) (c : Int) (y : Nm) (ys : List Nm) (s : Nat) (d4 : D) (s6 : Sl) (hl : ys.length ≤ 10)
    (hQ : ∀ a b c (L : List Nm), L.Sublist ((y :: ys).drop s) → Q (.fresh (.lst ((L.map fun u => (u, y)).map tie))) [.own (some 0) (well a b c), .val (nms ts), .val (.lst ((y :: ys).map nm)), .val (.int s), .val d4, .dead, s6, .dead]) :
    Wp (ev W (runF W fns k) (.lc (.one 7) .plain (.cons (.slc (.var 2) (.var 3) .nop) .nil) [7] (.cmp .Eq (.cal (n.f 36) (.cons (.lend 0) (.cons (.con (.int 2)) .nil)) .nil [some 0, some 1]) (.con (.int 0))) (.tup (.cons (.var 7) (.cons (.idx (.var 2) (.con (.int 0))) .nil)))) [.own (some 0) (well a b c), .val (nms ts), .val (.lst ((y :: ys).map nm)), .val (.int s), .val d4, .dead, s6, .dead]) Q X := by
  refine wp_lcI (f := nm) ((y :: ys).drop s) (fun done acc e => ∃ (a : Int) (b : Mx) (c : Int) (L : List Nm) (s7 : Sl), L.Sublist done ∧ acc = (L.map fun u => (u, y)).map tie ∧ e = [.own (some 0) (well a b c), .val (nms ts), .val (.lst ((y :: ys).map nm)), .val (.int s), .val d4, .dead, s6, s7]) (ys := ((y :: ys).drop s).map nm) (e0 := [.own (some 0) (well a b c), .val (nms ts), .val (.lst ((y :: ys).map nm)), .val (.int s), .val d4, .dead, s6, .dead]) ?_ rfl rfl ⟨a, b, c, [], _, .slnil, rfl, rfl⟩ ?_ ?_
  · bv_omega
    exact And.intro rfl (src1 rfl (src_pL _))
  · rintro done x rest acc e hd ⟨a, b, c, L, s7, h1, rfl, rfl⟩
    have hll : L.length ≤ 11 := by
      have h3 := h1.length_le
      have h4 := congrArg List.length hd
      simp at h4
      omega
    refine ⟨_, rfl, ?_⟩
    refine wp_cond1 rfl ?_
    bv_omega
    refine ifP (fun _ => ?_) fun _ => ?_
    · bv_omega
      refine wp_idxR rfl rfl (idx_list 0 rfl rfl) ?_
      bv_omega
      refine ⟨by simp; omega, _, _, _, L ++ [x], .val (nm x), h1.append (List.Sublist.refl _), ?_, rfl⟩
      simp [tie]
    · exact ⟨_, _, _, L, .val (nm x), h1.trans (List.sublist_append_left _ _), rfl, rfl⟩
  · rintro acc e ⟨a, b, c, L, s7, h1, rfl, rfl⟩
    exact hQ a b c L h1
theorem s_barred (H : H_law_barred_pairs W fns n) (hk : 3 ≤ k) (a : Int) (b : Mx) (c : Int) (ts : List Nm) (hn : ts.Nodup) (h0 : 5 ≤ ts.length) (hl : ts.length ≤ 10) (hP : ∀ a' b' c' (ks : List (Nm × Nm)), TK ts ks → ks.length ≤ 100 → P (.ok (.lst (ks.map tie)) true [well a' b' c'])) : P (runF W fns k (n.f 42) [.own (some 0) (well a b c), .val (nms ts)]) := by
  refine run_post H.at_ (by omega) ?_
  cases H
  show Wp (exs W (runF W fns (k - 1)) (b_law_barred_pairs n) [.own (some 0) (well a b c), .val (nms ts), .dead, .dead, .dead, .dead, .dead, .dead]) _ _
  unfold b_law_barred_pairs
  bv_omega
  rename_i a1 b1 c1 ys zs hp hlen
  have hz : zs = [] := by
    have := hp.length_eq
    simp at this hlen
    exact List.eq_nil_of_length_eq_zero (by omega)
  subst hz
  rw [List.append_nil] at hp
  have hyl := hp.length_eq
  have hyn := hp.nodup_iff.mpr hn
  have hyn' := hyn
  refine wp_callK (H_law_one_of.dv (by assumption)) rfl (by decide) (s_one_of (f := D.int) (by assumption) (by omega) _ _ _ [5, 5, 5, if ((ts.map nm).length : Int) < 6 then ((ts.map nm).length : Int) else 6] _ (.inl rfl) (by simp) (by simp) (fun a2 b2 c2 z hz => ?_))
  have hz2 : z = 5 ∨ z = 6 ∧ 6 ≤ ts.length := by
    simp only [List.mem_cons, List.not_mem_nil, or_false, List.length_map] at hz
    rcases hz with h | h | h | h
    · exact .inl h
    · exact .inl h
    · exact .inl h
    · split at h
      · left; omega
      · right; omega
  clear hz
  obtain ⟨ya, yb, yc, yd, ye, yr, rfl⟩ := five (show 5 ≤ ys.length by omega)
  simp only [List.length_cons] at hyl
  have hyl2 : (yb :: yc :: yd :: ye :: yr).length ≤ 10 := by simp; omega
  rcases hz2 with rfl | ⟨rfl, h6⟩
  · skip
    bv_omega
    refine wp_lc0 (f := fun i : Nat => D.int i) (g := fun i => tie (([ya, yb, yc, yd, ye][i]?).getD ya, ([ya, yb, yc, yd, ye][(i + 1) % 5]?).getD ya)) (xs := List.range 5) (ys := (List.range 5).map fun i => D.int (i : Nat)) (bt := fun i => [.own (some 0) (well a2 b2 c2), .val (nms ts), .val (.lst ((ya :: yb :: yc :: yd :: ye :: yr).map nm)), .val (.int 5), .dead, .val (.int i), .dead, .dead]) ?_ rfl rfl (fun _ _ => rfl) (fun _ _ => rfl) (fun _ _ => rfl) rfl ?_ (by decide) ?_
    · bv_omega
      exact And.intro rfl (src1 rfl (src_range (i := 5) (by decide) (by decide)))
    · intro i hi
      have : i = 0 ∨ i = 1 ∨ i = 2 ∨ i = 3 ∨ i = 4 := by simp at hi; omega
      rcases this with rfl | rfl | rfl | rfl | rfl
      · bv_omega
        refine wp_idxR rfl rfl (idx_list 0 rfl rfl) ?_
        bv_omega
        refine wp_idxR rfl rfl (idx_list 1 (by decide) rfl) ?_
        bv_omega
        exact ⟨rfl, rfl⟩
      · bv_omega
        refine wp_idxR rfl rfl (idx_list 1 rfl rfl) ?_
        bv_omega
        refine wp_idxR rfl rfl (idx_list 2 (by decide) rfl) ?_
        bv_omega
        exact ⟨rfl, rfl⟩
      · bv_omega
        refine wp_idxR rfl rfl (idx_list 2 rfl rfl) ?_
        bv_omega
        refine wp_idxR rfl rfl (idx_list 3 (by decide) rfl) ?_
        bv_omega
        exact ⟨rfl, rfl⟩
      · bv_omega
        refine wp_idxR rfl rfl (idx_list 3 rfl rfl) ?_
        bv_omega
        refine wp_idxR rfl rfl (idx_list 4 (by decide) rfl) ?_
        bv_omega
        exact ⟨rfl, rfl⟩
      · bv_omega
        refine wp_idxR rfl rfl (idx_list 4 rfl rfl) ?_
        bv_omega
        refine wp_idxR rfl rfl (idx_list 0 (by decide) rfl) ?_
        bv_omega
        exact ⟨rfl, rfl⟩
    rw [show ((List.range 5).map fun i => tie (([ya, yb, yc, yd, ye][i]?).getD ya, ([ya, yb, yc, yd, ye][(i + 1) % 5]?).getD ya)) = ([(ya, yb), (yb, yc), (yc, yd), (yd, ye), (ye, ya)] : List (Nm × Nm)).map tie from rfl]
    bv_omega
    refine wp_ifT rfl ?_
    bv_omega
    refine wp_idxR rfl rfl (idx_list 0 rfl rfl) ?_
    bv_omega
    refine wp_idxR rfl rfl (idx_list 2 rfl rfl) ?_
    bv_omega
    refine wp_idxR rfl rfl (idx_list 0 rfl rfl) ?_
    bv_omega
    refine wp_idxR rfl rfl (idx_list 3 rfl rfl) ?_
    bv_omega
    rw [show [D.tup [nm ya, nm yc], D.tup [nm ya, nm yd]] = ([(ya, yc), (ya, yd)] : List (Nm × Nm)).map tie from rfl, cut_take, ← List.map_take]
    rename_i a3 b3 c3 j hj
    have htk : (([(ya, yc), (ya, yd)] : List (Nm × Nm)).take j).length ≤ 2 := by rw [List.length_take]; simp; omega
    refine wp_rd2 rfl rfl (b_addL (by simp; omega)) ?_
    rw [← List.map_append]
    bv_omega
    refine leaves_lc (by assumption) (by omega) _ _ _ ya _ 5 _ _ hyl2 (fun a4 b4 c4 L hL => ?_)
    have hLl := hL.length_le
    simp only [List.drop_succ_cons, List.drop_zero] at hL hLl
    refine wp_rd2 rfl rfl (b_addL (by simp; omega)) ?_
    rw [← List.map_append]
    bv_omega
    simp only [List.nodup_cons, List.mem_cons, not_or] at hyn'
    refine hP _ _ _ _ (TK.perm (TK.leaves ((gk5 hyn).sub ?_) (by simp) ?_ ?_ ?_) hp) (by simp; omega)
    · exact List.Sublist.append (List.Sublist.refl [(ya, yb), (yb, yc), (yc, yd), (yd, ye), (ye, ya)]) (List.take_sublist j [(ya, yc), (ya, yd)])
    · exact hyn'.2.2.2.2.2.sublist hL
    · intro u hu
      have hu' := hL.subset hu
      exact ⟨by simp [hu'], fun e => hyn'.1.2.2.2.2 (e ▸ hu')⟩
    · intro u hu p hp'
      have hu' := hL.subset hu
      have hp2 : p ∈ [(ya, yb), (yb, yc), (yc, yd), (yd, ye), (ye, ya), (ya, yc), (ya, yd)] := by
        rcases List.mem_append.mp hp' with m | m
        · simp only [List.mem_cons, List.not_mem_nil, or_false] at m ⊢
          rcases m with m | m | m | m | m <;> simp [m]
        · have := List.mem_of_mem_take m
          simp only [List.mem_cons, List.not_mem_nil, or_false] at this ⊢
          rcases this with m | m <;> simp [m]
      have ne : ya ≠ u ∧ yb ≠ u ∧ yc ≠ u ∧ yd ≠ u ∧ ye ≠ u := ⟨fun e => hyn'.1.2.2.2.2 (e ▸ hu'), fun e => hyn'.2.1.2.2.2 (e ▸ hu'), fun e => hyn'.2.2.1.2.2 (e ▸ hu'), fun e => hyn'.2.2.2.1.2 (e ▸ hu'), fun e => hyn'.2.2.2.2.1 (e ▸ hu')⟩
      obtain ⟨n1, n2, n3, n4, n5⟩ := ne
      simp only [List.mem_cons, List.not_mem_nil, or_false] at hp2
      rcases hp2 with rfl | rfl | rfl | rfl | rfl | rfl | rfl <;> exact ⟨by assumption, by assumption⟩
  · obtain ⟨yf, yr, rfl⟩ : ∃ f r, yr = f :: r := by
      match yr, hyl with
      | [], hyl => simp at hyl; omega
      | f :: r, _ => exact ⟨f, r, rfl⟩
    simp only [List.length_cons] at hyl
    bv_omega
    refine wp_lc0 (f := fun i : Nat => D.int i) (g := fun i => tie (([ya, yb, yc, yd, ye, yf][i]?).getD ya, ([ya, yb, yc, yd, ye, yf][(i + 1) % 6]?).getD ya)) (xs := List.range 6) (ys := (List.range 6).map fun i => D.int (i : Nat)) (bt := fun i => [.own (some 0) (well a2 b2 c2), .val (nms ts), .val (.lst ((ya :: yb :: yc :: yd :: ye :: yf :: yr).map nm)), .val (.int 6), .dead, .val (.int i), .dead, .dead]) ?_ rfl rfl (fun _ _ => rfl) (fun _ _ => rfl) (fun _ _ => rfl) rfl ?_ (by decide) ?_
    · bv_omega
      exact And.intro rfl (src1 rfl (src_range (i := 6) (by decide) (by decide)))
    · intro i hi
      have : i = 0 ∨ i = 1 ∨ i = 2 ∨ i = 3 ∨ i = 4 ∨ i = 5 := by simp at hi; omega
      rcases this with rfl | rfl | rfl | rfl | rfl | rfl
      · bv_omega
        refine wp_idxR rfl rfl (idx_list 0 rfl rfl) ?_
        bv_omega
        refine wp_idxR rfl rfl (idx_list 1 (by decide) rfl) ?_
        bv_omega
        exact ⟨rfl, rfl⟩
      · bv_omega
        refine wp_idxR rfl rfl (idx_list 1 rfl rfl) ?_
        bv_omega
        refine wp_idxR rfl rfl (idx_list 2 (by decide) rfl) ?_
        bv_omega
        exact ⟨rfl, rfl⟩
      · bv_omega
        refine wp_idxR rfl rfl (idx_list 2 rfl rfl) ?_
        bv_omega
        refine wp_idxR rfl rfl (idx_list 3 (by decide) rfl) ?_
        bv_omega
        exact ⟨rfl, rfl⟩
      · bv_omega
        refine wp_idxR rfl rfl (idx_list 3 rfl rfl) ?_
        bv_omega
        refine wp_idxR rfl rfl (idx_list 4 (by decide) rfl) ?_
        bv_omega
        exact ⟨rfl, rfl⟩
      · bv_omega
        refine wp_idxR rfl rfl (idx_list 4 rfl rfl) ?_
        bv_omega
        refine wp_idxR rfl rfl (idx_list 5 (by decide) rfl) ?_
        bv_omega
        exact ⟨rfl, rfl⟩
      · bv_omega
        refine wp_idxR rfl rfl (idx_list 5 rfl rfl) ?_
        bv_omega
        refine wp_idxR rfl rfl (idx_list 0 (by decide) rfl) ?_
        bv_omega
        exact ⟨rfl, rfl⟩
    rw [show ((List.range 6).map fun i => tie (([ya, yb, yc, yd, ye, yf][i]?).getD ya, ([ya, yb, yc, yd, ye, yf][(i + 1) % 6]?).getD ya)) = ([(ya, yb), (yb, yc), (yc, yd), (yd, ye), (ye, yf), (yf, ya)] : List (Nm × Nm)).map tie from rfl]
    bv_omega
    refine wp_ifF rfl ?_
    bv_omega
    refine leaves_lc (by assumption) (by omega) _ _ _ ya _ 6 _ _ hyl2 (fun a4 b4 c4 L hL => ?_)
    have hLl := hL.length_le
    simp only [List.drop_succ_cons, List.drop_zero] at hL hLl
    refine wp_rd2 rfl rfl (b_addL (by simp; omega)) ?_
    rw [← List.map_append]
    bv_omega
    simp only [List.nodup_cons, List.mem_cons, not_or] at hyn'
    refine hP _ _ _ _ (TK.perm (TK.leaves (gk6 hyn) (by simp) ?_ ?_ ?_) hp) (by simp; omega)
    · exact hyn'.2.2.2.2.2.2.sublist hL
    · intro u hu
      have hu' := hL.subset hu
      exact ⟨by simp [hu'], fun e => hyn'.1.2.2.2.2.2 (e ▸ hu')⟩
    · intro u hu p hp2
      have hu' := hL.subset hu
      have ne : ya ≠ u ∧ yb ≠ u ∧ yc ≠ u ∧ yd ≠ u ∧ ye ≠ u ∧ yf ≠ u := ⟨fun e => hyn'.1.2.2.2.2.2 (e ▸ hu'), fun e => hyn'.2.1.2.2.2.2 (e ▸ hu'), fun e => hyn'.2.2.1.2.2.2 (e ▸ hu'), fun e => hyn'.2.2.2.1.2.2 (e ▸ hu'), fun e => hyn'.2.2.2.2.1.2 (e ▸ hu'), fun e => hyn'.2.2.2.2.2.1 (e ▸ hu')⟩
      obtain ⟨n1, n2, n3, n4, n5, n6⟩ := ne
      simp only [List.mem_cons, List.not_mem_nil, or_false] at hp2
      rcases hp2 with rfl | rfl | rfl | rfl | rfl | rfl <;> exact ⟨by assumption, by assumption⟩
local macro_rules | `(tactic| get_elem_tactic_extensible) => `(tactic| (refine wp_callK (H_law_barred_pairs.dv (by assumption)) rfl (by decide) (s_barred (by assumption) (by omega) _ _ _ _ (by assumption) (by omega) (by omega) (fun a' b' c' ks h0 h1 => ?_))))
end
local macro_rules | `(tactic| get_elem_tactic_extensible) => `(tactic| (refine wp_callK (H_law_barred_pairs.dv (by assumption)) rfl (by decide) (s_barred (by assumption) (by omega) _ _ _ _ (by assumption) (by omega) (by omega) (fun a' b' c' ks h0 h1 => ?_))))
/-! ## webs of the second kind -/
section
variable {W : Wd} {fns : Nat → Option Fn} {n : Nu} {k : Nat} {P : Res → Prop}
theorem TK.turn {ts : List Nm} {ks ls : List (Nm × Nm)} (h : TK ts ks) (h1 : ∀ p ∈ ls, p ∈ ks ∨ swp p ∈ ks) (h2 : (ks.Pairwise fun p q => alike p q = false) → ls.Pairwise fun p q => alike p q = false) : TK ts ls := ⟨fun p m => by
  rcases h1 p m with m | m
  · exact h.pr p m
  · have := pairB_iff.mp (h.pr _ m)
    rw [pairB_iff]
    exact ⟨Ne.symm this.1, this.2.2, this.2.1⟩, h2 h.un⟩
theorem TK.ok {ts : List Nm} {ks : List (Nm × Nm)} (h : TK ts ks) (h0 : 0 < ts.length) (h1 : ts.Nodup) (h2 : ts.length ≤ 10) (h3 : ks.length ≤ 200) : Wb.Ok ⟨ts, ks⟩ := ⟨fun e => by have e' : ts = [] := e; rw [e'] at h0; simp at h0, h1, h2, h.pr, h.un, h3⟩
theorem gk_duos {ts : List Nm} (h : ts.Nodup) : TK ts (duos ts) := ⟨fun p m => pairB_iff.mpr ⟨duos_ne h p m, (duos_mem (x := p.1) (y := p.2) m).1, (duos_mem (x := p.1) (y := p.2) m).2⟩, duos_un h⟩
theorem s_web2 (H : H_law_web W fns n) (hk : 4 ≤ k) (a : Int) (b : Mx) (c m : Int) (h0 : 1 ≤ m) (h1 : m ≤ 10) (hP : ∀ a' b' c' (w : Wb), w.Ok → (w.ts.length : Int) ≤ m → P (.ok (.tup [nms w.ts, ties w.ks]) false [well a' b' c'])) : P (runF W fns k (n.f 46) [.own (some 0) (well a b c), .val (.int m)]) := by
  refine run_post H.at_ (by omega) ?_
  cases H
  show Wp (exs W (runF W fns (k - 1)) (b_law_web n) [.own (some 0) (well a b c), .val (.int m), .dead, .dead, .dead, .dead, .dead, .dead, .dead]) _ _
  unfold b_law_web
  bv_omega
  rename_i a1 b1 c1 j0 hj0 a2 b2 c2 ts hn hlen a3 b3 c3 j hj
  have hl1 : 0 < ts.length := by omega
  have hl2 : ts.length ≤ 10 := by omega
  have hlm : (ts.length : Int) ≤ m := by omega
  have hdl : (duos ts).length ≤ 100 := Nat.le_trans (duos_len ts) (Nat.mul_le_mul hl2 hl2)
  have fin : ∀ (ks ls : List (Nm × Nm)) (a : Int) (b : Mx) (c : Int), TK ts ks → ks.length ≤ 200 → ls.length = ks.length → (∀ p ∈ ls, p ∈ ks ∨ swp p ∈ ks) → ((ks.Pairwise fun p q => alike p q = false) → ls.Pairwise fun p q => alike p q = false) → P (.ok (.tup [nms ts, ties ls]) false [well a b c]) := fun ks ls a b c g1 g2 g3 g4 g5 => hP a b c ⟨ts, ls⟩ ((g1.turn g4 g5).ok hl1 hn hl2 (by omega)) hlm
  refine wp_if (fun hc => ?_) fun hc => ?_
  · apply ws_cons
    apply ws_ret
    apply wp_tup
    bv_omega
    refine wp_lcI (f := tie) (duos ts) (fun done acc e => ∃ (a : Int) (b : Mx) (c : Int) (L : List (Nm × Nm)) (s5 : Sl), L.Sublist done ∧ acc = L.map tie ∧ e = [.own (some 0) (well a b c), .val (.int m), .val (nms ts), .val (.int j), .val (.lst ((duos ts).map tie)), s5, .dead, .dead, .dead]) (ys := (duos ts).map tie) (e0 := [.own (some 0) (well a3 b3 c3), .val (.int m), .val (nms ts), .val (.int j), .val (.lst ((duos ts).map tie)), .dead, .dead, .dead, .dead]) ?_ rfl rfl ⟨_, _, _, [], _, .slnil, rfl, rfl⟩ ?_ ?_
    · bv_omega
      exact And.intro rfl (src1 rfl (src_pL _))
    · rintro done x rest acc e hd ⟨a, b, c, L, s5, i1, rfl, rfl⟩
      have hll : L.length ≤ 100 := by
        have h3 := i1.length_le
        have h4 := congrArg List.length hd
        simp at h4
        omega
      refine ⟨_, rfl, ?_⟩
      refine wp_cond1 rfl ?_
      bv_omega
      refine ifP (fun _ => ?_) fun _ => ?_
      · bv_omega
        exact ⟨by simp; omega, _, _, _, L ++ [x], .val (tie x), i1.append (List.Sublist.refl _), by simp, rfl⟩
      · exact ⟨_, _, _, L, .val (tie x), i1.trans (List.sublist_append_left _ _), rfl, rfl⟩
    · rintro acc e ⟨a, b, c, L, s5, i1, rfl, rfl⟩
      have hL := i1.length_le
      bv_omega
      rename_i a4 b4 c4 ls g1 g2 g3 g4
      exact fin L ls _ _ _ ((gk_duos hn).sub i1) (by omega) g1 g2 g4
  · bv_omega
    refine wp_if (fun hc2 => ?_) fun hc2 => ?_
    · have h5 : 5 ≤ ts.length := by
        simp only [Bool.and_eq_true, decide_eq_true_eq, List.length_map] at hc2
        omega
      bv_omega
      rename_i ls g1 g2 g3 g4
      refine fin _ ls _ _ _ (by assumption) (by omega) g1 g2 g4
    · bv_omega
      rename_i a4 b4 c4 ks gk hkl
      refine wp_if (fun hc3 => ?_) fun hc3 => ?_
      · have h3 : 3 ≤ ts.length := by
          simp only [Bool.or_eq_false_iff, decide_eq_false_iff_not, List.length_map] at hc
          omega
        have hd0 : 0 < (duos ts).length := by
          match ts, h3 with
          | x :: y :: r, _ => simp [duos]
        bv_omega
        refine wp_callK (H_law_one_of.dv (by assumption)) rfl (by decide) (s_one_of (f := tie) (by assumption) (by omega) _ _ _ (duos ts) _ (.inl rfl) hd0 (by omega) (fun a5 b5 c5 z hz => ?_))
        bv_omega
        have hfl : (ks.filter fun p => !(decide (p = z) || decide (p = swp z))).length ≤ ks.length := List.length_filter_le _ _
        refine wp_if (fun hc4 => ?_) fun hc4 => ?_
        · bv_omega
          generalize hF : (ks.filter fun p => !(decide (p = z) || decide (p = swp z))) = F at hfl
          have gF : TK ts (F ++ [z]) := by
            refine TK.snoc (gk.sub (hF ▸ List.filter_sublist)) ((gk_duos hn).pr z hz) fun q hq => ?_
            rw [← hF, List.mem_filter] at hq
            rw [Bool.eq_false_iff]
            intro h
            rw [alike_iff] at h
            have := hq.2
            rcases h with h | h
            · simp [h] at this
            · have h' : q = swp z := h
              simp [h'] at this
          have hq : (F ++ [z]).length ≤ 200 := by simp; omega
          refine wp_rd2 rfl rfl (b_addL (by simp; omega)) ?_
          rw [show [tie z] = [z].map tie from rfl, ← List.map_append]
          bv_omega
          rename_i ls g1 g2 g3 g4
          exact fin _ ls _ _ _ gF (by omega) g1 g2 g4
        · bv_omega
          generalize hF : (ks.filter fun p => !(decide (p = z) || decide (p = swp z))) = F at hfl
          refine wp_rd2 rfl rfl (b_addL (by simp; omega)) ?_
          rw [List.append_nil]
          bv_omega
          rename_i ls g1 g2 g3 g4
          exact fin _ ls _ _ _ (gk.sub (hF ▸ List.filter_sublist)) (by omega) g1 g2 g4
      · bv_omega
        rename_i ls g1 g2 g3 g4
        exact fin ks ls _ _ _ gk (by omega) g1 g2 g4
local macro_rules | `(tactic| get_elem_tactic_extensible) => `(tactic| (refine wp_callK (H_law_web.dv (by assumption)) rfl (by decide) (s_web2 (by assumption) (by omega) _ _ _ _ (by omega) (by omega) (fun a' b' c' w h0 h1 => ?_))))
end
local macro_rules | `(tactic| get_elem_tactic_extensible) => `(tactic| (refine wp_callK (H_law_web.dv (by assumption)) rfl (by decide) (s_web2 (by assumption) (by omega) _ _ _ _ (by omega) (by omega) (fun a' b' c' w h0 h1 => ?_))))
/-! ## the law's own lines -/
section
variable {W : Wd} {fns : Nat → Option Fn} {n : Nu} {k : Nat} {P : Res → Prop}
theorem s_far (H : H_law_far W fns n) (hk : 1 ≤ k) (ts : List Nm) (ks : List (Nm × Nm)) (t : Nm) (hn : ts.Nodup) (hl : ts.length ≤ 10) (ht : t ∈ ts) (hP : ∀ l : List (Nm × Nat), (l.map (·.1)).Nodup → (∀ x d, (x, d) ∈ l ↔ Dst ⟨ts, ks⟩ t x d) → l.length ≤ 10 → P (.ok (.dct false (l.map (kvD nm natD))) true [])) : P (runF W fns k (n.f 47) [.val (nearD ts ks), .val (nm t)]) := by
  refine run_post H.at_ (by omega) ?_
  cases H
  show Wp (exs W (runF W fns (k - 1)) (b_law_far n) [.val (nearD ts ks), .val (nm t), .dead, .dead, .dead, .dead, .dead, .dead]) _ _
  unfold b_law_far
  symm_saturate
  rw [show (((((ts.map fun t => (t, nbr ⟨ts, ks⟩ t)).map (kvD nm nmL)).length : Nat) : Int).toNat) = ts.length by simp]
  refine wp_forR (fun d e => ∃ (l : List (Nm × Nat)) (fr : List Nm) (s4 s5 s6 s7 : Sl), Lv ⟨ts, ks⟩ t d l fr ∧ (s7 = .dead ∨ ∃ d, s7 = .val d) ∧ e = [.val (nearD ts ks), .val (nm t), .own none (.dct false (l.map (kvD nm natD))), .val (.lst (fr.map nm)), s4, s5, s6, s7]) ⟨[(t, 0)], [t], _, _, _, _, ⟨by simp, ?_, ?_, by simp⟩, .inl rfl, rfl⟩ ?_ ?_
  · intro x e m
    simp only [List.mem_singleton, Prod.mk.injEq] at m
    obtain ⟨rfl, rfl⟩ := m
    exact ⟨by omega, .zero ht⟩
  · intro x e he k
    have : e = 0 := by omega
    subst this
    cases k.1 with
    | refl _ => simp
  · rintro d hd e ⟨l, fr, s4, s5, s6, s7, lv, h7, rfl⟩
    have hlen : l.length ≤ ts.length := lv.len
    refine ⟨_, rfl, ?_⟩
    symm_saturate
    refine wp_forL (f := nm) fr rfl (fun done e => ∃ (later : List Nm) (s6 s7 : Sl), later.Nodup ∧ (∀ x ∈ later, x ∉ l.map (·.1) ∧ ∃ z ∈ fr, x ∈ nbr ⟨ts, ks⟩ z) ∧ (∀ z ∈ done, ∀ x ∈ nbr ⟨ts, ks⟩ z, x ∈ l.map (·.1) ∨ x ∈ later) ∧ (s7 = .dead ∨ ∃ d, s7 = .val d) ∧ e = [.val (nearD ts ks), .val (nm t), .own none (.dct false (l.map (kvD nm natD))), .val (.lst (fr.map nm)), .val (.int d), .val (.lst (later.map nm)), s6, s7]) ⟨[], _, _, .nil, by simp, by simp, h7, rfl⟩ ?_ ?_
    · rintro done x rest hdd e ⟨later, s6, s7, i1, i2, i3, h7, rfl⟩
      have hm : x ∈ fr := by rw [hdd]; simp
      have hts : x ∈ ts := (lv.le _ _ ((lv.fr x).mp hm)).2.1.right
      have hll : later.length ≤ 10 := Nat.le_trans (nodup_len i1 fun y hy => by
        obtain ⟨_, z, _, hz⟩ := i2 y hy
        exact (mem_nbr.mp hz).1) hl
      have hnl : (nbr ⟨ts, ks⟩ x).length ≤ 10 := Nat.le_trans (List.length_filter_le _ _) hl
      have nb1 : (nbr ⟨ts, ks⟩ x).Nodup := hn.sublist List.filter_sublist
      refine ⟨_, rfl, ?_⟩
      rcases h7 with rfl | ⟨d7, rfl⟩
      all_goals
        bv_omega
        generalize hF : ((nbr ⟨ts, ks⟩ x).filter fun y => !decide (y ∈ l.map (·.1)) && !decide (y ∈ later)) = F
        have hFm : ∀ y, y ∈ F ↔ y ∈ nbr ⟨ts, ks⟩ x ∧ y ∉ l.map (·.1) ∧ y ∉ later := fun y => by
          rw [← hF, List.mem_filter]
          simp
        have hFn : F.Nodup := hF ▸ nb1.sublist List.filter_sublist
        have hFl : F.length ≤ 10 := by rw [← hF]; exact Nat.le_trans (List.length_filter_le _ _) hnl
        refine wp_rd2 rfl rfl (b_addL (by simp; omega)) ?_
        rw [← List.map_append]
        bv_omega
        refine ⟨later ++ F, .val (nm x), _, ?_, ?_, ?_, by first | exact .inl rfl | exact .inr ⟨_, rfl⟩, rfl⟩
        · rw [List.nodup_append]
          exact ⟨i1, hFn, fun u hu v hv e => ((hFm v).mp hv).2.2 (e ▸ hu)⟩
        · intro y hy
          rcases List.mem_append.mp hy with hy | hy
          · exact i2 y hy
          · obtain ⟨h1, h2, h3⟩ := (hFm y).mp hy
            exact ⟨h2, x, hm, h1⟩
        · intro z hz y hy
          by_cases hyl : y ∈ l.map (·.1)
          · exact .inl hyl
          right
          rcases List.mem_append.mp hz with hz | hz
          · exact List.mem_append_left _ ((i3 z hz y hy).resolve_left hyl)
          · rw [List.mem_singleton] at hz
            subst hz
            by_cases h3 : y ∈ later
            · exact List.mem_append_left _ h3
            · exact List.mem_append_right _ ((hFm y).mpr ⟨hy, hyl, h3⟩)
    · rintro e ⟨later, s6, s7, i1, i2, i3, h7, rfl⟩
      have lv' := lv.next i1 i2 i3
      have hll : later.length ≤ 10 := Nat.le_trans (nodup_len i1 fun y hy => by
        obtain ⟨_, z, _, hz⟩ := i2 y hy
        exact (mem_nbr.mp hz).1) hl
      symm_saturate
      refine wp_forL (f := nm) later rfl (fun done e => ∃ (s7 : Sl), (s7 = .dead ∨ ∃ d, s7 = .val d) ∧ e = [.val (nearD ts ks), .val (nm t), .own none (.dct false ((l ++ done.map fun x => (x, d + 1)).map (kvD nm natD))), .val (.lst (fr.map nm)), .val (.int d), .val (.lst (later.map nm)), s6, s7]) ⟨s7, h7, by simp⟩ ?_ ?_
      · rintro done x rest hdd e ⟨s7, h7, rfl⟩
        have hdl : done.length ≤ 10 := by have := congrArg List.length hdd; simp at this; omega
        refine ⟨_, rfl, ?_⟩
        bv_omega
        refine wp_stoD (f := nm) (g := natD) (a := x) (b := d + 1) rfl rfl (by simp; omega) ?_
        rw [aput_new (by
          rw [List.map_append, List.map_map]
          intro m
          rcases List.mem_append.mp m with m | m
          · exact (i2 x (by rw [hdd]; simp)).1 m
          · obtain ⟨y, hy, e⟩ := List.mem_map.mp m
            have e' : y = x := e
            subst e'
            rw [hdd] at i1
            exact (List.nodup_append.mp i1).2.2 y hy y List.mem_cons_self rfl)]
        bv_omega
        exact ⟨_, .inr ⟨nm x, rfl⟩, by simp⟩
      · rintro e ⟨s7, h7, rfl⟩
        symm_saturate
        exact ⟨_, later, _, _, _, _, lv', h7, rfl⟩
  · rintro e ⟨l, fr, s4, s5, s6, s7, lv, h7, rfl⟩
    have hlen : l.length ≤ ts.length := lv.len
    symm_saturate
    refine hP l lv.nd (fun x d => ⟨fun m => (lv.le x d m).2, fun k => ?_⟩) (by omega)
    refine lv.ge x d ?_ k
    obtain ⟨p, hp, hpl⟩ := k.way
    have := nodup_len hp.nodup hp.sub
    have h2 : p.length ≤ ts.length := this
    omega
local macro_rules | `(tactic| get_elem_tactic_extensible) => `(tactic| (refine wp_callK (H_law_far.dv (by assumption)) rfl (by decide) (s_far (by assumption) (by omega) _ _ _ (by assumption) (by assumption) (by assumption) (fun l hl1 hl2 hl3 => ?_))))
/-- a table -/
noncomputable def tabD (w : Wb) : D := .tup (w.ts.map fun t => .tup (w.ts.map fun x => oD (dist w t x)))
theorem get_of {w : Wb} {t x : Nm} {l : List (Nm × Nat)} (h1 : (l.map (·.1)).Nodup) (h2 : ∀ x d, (x, d) ∈ l ↔ Dst w t x d) (m : x ∈ l.map (·.1)) : idxD (.dct false (l.map (kvD nm natD))) (nm x) = some (oD (dist w t x)) := by
  obtain ⟨⟨y, d⟩, m', rfl⟩ := List.mem_map.mp m
  rw [dist_some.mpr ((h2 _ _).mp m')]
  exact idx_dct (f := nm) (g := natD) h1 m' rfl
theorem get_no {w : Wb} {t x : Nm} {l : List (Nm × Nat)} (h2 : ∀ x d, (x, d) ∈ l ↔ Dst w t x d) (m : x ∉ l.map (·.1)) : dist w t x = none := by
  rw [dist_none]
  intro n r
  obtain ⟨d, _, hd⟩ := Dst.of r
  exact m (List.mem_map.mpr ⟨(x, d), (h2 x d).mpr hd, rfl⟩)
theorem s_lines (H : H_law_lines W fns n) (hk : 2 ≤ k) (w : Wb) (ok : w.Ok) (hP : P (.ok (tabD w) false [])) : P (runF W fns k (n.f 48) [.val (nms w.ts), .val (ties w.ks)]) := by
  obtain ⟨ts, ks⟩ := w
  have hn : ts.Nodup := ok.nd
  have hl : ts.length ≤ 10 := ok.len
  refine run_post H.at_ (by omega) ?_
  cases H
  show Wp (exs W (runF W fns (k - 1)) (b_law_lines n) [.val (nms ts), .val (ties ks), .dead, .dead, .dead, .dead, .dead]) _ _
  unfold b_law_lines
  bv_omega
  refine wp_forL (f := nm) ts rfl (fun done e => ∃ (s4 s5 : Sl), e = [.val (nms ts), .val (ties ks), .val (nearD ts ks), .own none (.lst (done.map fun t => .tup (ts.map fun x => oD (dist ⟨ts, ks⟩ t x)))), s4, s5, .dead]) ⟨_, _, rfl⟩ ?_ ?_
  · rintro done y rest hd e ⟨s4, s5, rfl⟩
    have hy : y ∈ ts := by rw [hd]; simp
    have hdl : done.length ≤ 10 := by have := congrArg List.length hd; simp at this; omega
    refine ⟨_, rfl, ?_⟩
    bv_omega
    rename_i l hl1 hl2 hl3
    refine wp_lc0 (f := nm) (g := fun x => oD (dist ⟨ts, ks⟩ y x)) (xs := ts) (ys := ts.map nm) (bt := fun x => [.val (nms ts), .val (ties ks), .val (nearD ts ks), .own none (.lst (done.map fun t => .tup (ts.map fun x => oD (dist ⟨ts, ks⟩ t x)))), .val (nm y), .val (.dct false (l.map (kvD nm natD))), .val (nm x)]) ?_ rfl rfl (fun _ _ => rfl) (fun _ _ => rfl) (fun _ _ => rfl) rfl ?_ (by omega) ?_
    · bv_omega
      exact And.intro rfl (src1 rfl (src_pT _))
    · intro x hx
      bv_omega
      refine wp_if (fun hc => ?_) fun hc => ?_
      · have hm : x ∈ l.map (·.1) := by simpa using hc
        bv_omega
        refine wp_idxR rfl rfl (get_of hl1 hl2 hm) ?_
        exact ⟨rfl, rfl⟩
      · have hm : x ∉ l.map (·.1) := by simpa using hc
        rw [get_no hl2 hm]
        bv_omega
        exact ⟨rfl, rfl⟩
    · bv_omega
      exact ⟨.val (nm y), .val (.dct false (l.map (kvD nm natD))), by simp⟩
  · rintro e ⟨s4, s5, rfl⟩
    bv_omega
    exact hP
local macro_rules | `(tactic| get_elem_tactic_extensible) => `(tactic| (refine wp_callK (H_law_lines.dv (by assumption)) rfl (by decide) (s_lines (by assumption) (by omega) _ (by assumption) ?_)))
theorem s_row_of (H : H_row_of W fns n) (hk : 3 ≤ k) (w : Wb) (ok : w.Ok) (t : Nm) (ht : t ∈ w.ts) (hP : P (.ok (.tup (w.ts.map fun x => oD (dist w t x))) false [])) : P (runF W fns k (n.f 49) [.val (web (n.c 0) w), .val (nm t)]) := by
  have hl : w.ts.length ≤ 10 := ok.len
  refine run_post H.at_ (by omega) ?_
  cases H
  show Wp (exs W (runF W fns (k - 1)) (b_row_of n) [.val (web (n.c 0) w), .val (nm t), .dead, .dead]) _ _
  unfold b_row_of
  bv_omega
  rename_i l hl1 hl2 hl3
  refine wp_lc0 (f := nm) (g := fun x => oD (dist w t x)) (xs := w.ts) (ys := w.ts.map nm) (bt := fun x => [.val (web (n.c 0) w), .val (nm t), .val (.dct false (l.map (kvD nm natD))), .val (nm x)]) ?_ rfl rfl (fun _ _ => rfl) (fun _ _ => rfl) (fun _ _ => rfl) rfl ?_ (by omega) ?_
  · bv_omega
    exact And.intro rfl (src1 rfl (src_pT _))
  · intro x hx
    bv_omega
    refine wp_bmtR rfl rfl (y := (.val ((dget (l.map (kvD nm natD)) (nm x)).getD .non), none)) rfl (wp_mt0 ?_)
    rw [get_dist hl1 hl2]
    exact ⟨rfl, rfl⟩
  · bv_omega
    exact hP
local macro_rules | `(tactic| get_elem_tactic_extensible) => `(tactic| (refine wp_callK (H_row_of.dv (by assumption)) rfl (by decide) (s_row_of (by assumption) (by omega) _ (by assumption) _ (by assumption) ?_)))
theorem s_table_of (H : H_table_of W fns n) (hk : 4 ≤ k) (w : Wb) (ok : w.Ok) (hP : P (.ok (tabD w) false [])) : P (runF W fns k (n.f 50) [.val (web (n.c 0) w)]) := by
  have hl : w.ts.length ≤ 10 := ok.len
  refine run_post H.at_ (by omega) ?_
  cases H
  show Wp (exs W (runF W fns (k - 1)) (b_table_of n) [.val (web (n.c 0) w), .dead]) _ _
  unfold b_table_of
  bv_omega
  exact hP
local macro_rules | `(tactic| get_elem_tactic_extensible) => `(tactic| (refine wp_callK (H_table_of.dv (by assumption)) rfl (by decide) (s_table_of (by assumption) (by omega) _ (by assumption) ?_)))
theorem s_table (H : H_table W fns n) (hk : 5 ≤ k) (w : Wb) (ok : w.Ok) (hP : P (.ok (tabD w) false [])) : P (runF W fns k (n.f 51) [.val (web (n.c 0) w)]) := by
  refine run_post H.at_ (by omega) ?_
  cases H
  show Wp (exs W (runF W fns (k - 1)) (b_table n) [.val (web (n.c 0) w)]) _ _
  unfold b_table
  bv_omega
  exact hP
local macro_rules | `(tactic| get_elem_tactic_extensible) => `(tactic| (refine wp_callK (H_table.dv (by assumption)) rfl (by decide) (s_table (by assumption) (by omega) _ (by assumption) ?_)))
end
local macro_rules | `(tactic| get_elem_tactic_extensible) => `(tactic| (refine wp_callK (H_law_far.dv (by assumption)) rfl (by decide) (s_far (by assumption) (by omega) _ _ _ (by assumption) (by assumption) (by assumption) (fun l hl1 hl2 hl3 => ?_))))
local macro_rules | `(tactic| get_elem_tactic_extensible) => `(tactic| (refine wp_callK (H_law_lines.dv (by assumption)) rfl (by decide) (s_lines (by assumption) (by omega) _ (by assumption) ?_)))
local macro_rules | `(tactic| get_elem_tactic_extensible) => `(tactic| (refine wp_callK (H_row_of.dv (by assumption)) rfl (by decide) (s_row_of (by assumption) (by omega) _ (by assumption) _ (by assumption) ?_)))
local macro_rules | `(tactic| get_elem_tactic_extensible) => `(tactic| (refine wp_callK (H_table_of.dv (by assumption)) rfl (by decide) (s_table_of (by assumption) (by omega) _ (by assumption) ?_)))
local macro_rules | `(tactic| get_elem_tactic_extensible) => `(tactic| (refine wp_callK (H_table.dv (by assumption)) rfl (by decide) (s_table (by assumption) (by omega) _ (by assumption) ?_)))
/-! ## the law's own call -/
section
variable {W : Wd} {fns : Nat → Option Fn} {n : Nu} {k : Nat} {P : Res → Prop}
/-- the body of nearly every law -/
def lawB (m : Int) (fr fp : Nat) : Ss :=
  (.cons (.ret (.blt .all (.cons (.lc (.one 1) .range1 (.cons (.blt .max2 (.cons (.con (.int 2)) (.cons (.blt .min2 (.cons (.blt .len (.cons (.var 0) .nil)) (.cons (.con (.int m)) .nil))) .nil))) .nil) [1] .nop (.cal fr (.cons (.give (.cal fp (.cons (.var 0) (.cons (.var 1) .nil)) .nil [some 0, some 1])) .nil) .nil [some 0])) .nil)))
  .nil)
theorem s_lawB {m : Int} {fr K fl : Nat} (hm : m ≤ 60) (at_ : fns fl = some ⟨2, lawB m fr (n.f 23)⟩) (dvr : dfls (W.npar fr) (W.dfl fr) = [none]) (Hp : H_law_pool W fns n) (hK : 1 ≤ K) (hr : ∀ k, K ≤ k → ∀ a b c, runF W fns k fr [.own none (pool a b c)] = .ok (.bl true) false []) (hk : K + 1 ≤ k) (ns : List Int) : runF W fns k fl [.val (.fro (ns.map .int))] = .ok (.bl true) false [] := by
  refine run_post (P := fun z => z = .ok (.bl true) false []) at_ (by omega) ?_
  show Wp (exs W (runF W fns (k - 1)) (lawB m fr (n.f 23)) [.val (.fro (ns.map .int)), .dead]) _ _
  unfold lawB
  apply ws_cons
  apply ws_ret
  apply wp_blt
  apply wp_cons
  have hv : ∃ j : Nat, j ≤ 60 ∧ (if (if m < ((ns.map D.int).length : Int) then m else ((ns.map D.int).length : Int)) > 2 then (if m < ((ns.map D.int).length : Int) then m else ((ns.map D.int).length : Int)) else 2) = (j : Int) := by
    refine ⟨(if (if m < ((ns.map D.int).length : Int) then m else ((ns.map D.int).length : Int)) > 2 then (if m < ((ns.map D.int).length : Int) then m else ((ns.map D.int).length : Int)) else 2).toNat, ?_, ?_⟩
    · split
      · split <;> omega
      · omega
    · split
      · split <;> omega
      · omega
  obtain ⟨j, hj, ej⟩ := hv
  refine wp_lc0 (f := fun i : Nat => D.int i) (g := fun _ => .bl true) (bt := fun i => [.val (.fro (ns.map .int)), .val (.int i)]) (xs := List.range j) (ys := (List.range j).map fun i => D.int (i : Nat)) ?_ rfl rfl (fun _ _ => rfl) (fun _ _ => rfl) (fun _ _ => rfl) rfl ?_ (by simp; omega) ?_
  · bv_omega
    refine And.intro rfl (src1 rfl ?_)
    rw [ej]
    have := src_range (i := (j : Int)) (by omega) (by omega)
    rwa [Int.toNat_natCast] at this
  · intro i hi
    have hi2 : i < j := List.mem_range.mp hi
    bv_omega
    rename_i a b c
    refine wp_callR dvr rfl (by decide) (hr _ (by omega) _ _ _) ?_
    exact ⟨rfl, rfl⟩
  · bv_omega
    have e : ((List.range j).all fun _ => true) = true := by simp
    rw [e]
    rfl
end
/-! ## wells, the law's own call -/
section
variable {W : Wd} {fns : Nat → Option Fn} {n : Nu} {k : Nat} {P : Res → Prop}
theorem s_well (H : H_law_well W fns n) (hk : 1 ≤ k) (ns : List Int) (i : Nat) (hi : i < 100) (hP : ∀ a b c, P (.ok (well a b c) true [])) : P (runF W fns k (n.f 53) [.val (.fro (ns.map .int)), .val (.int i)]) := by
  refine run_post H.at_ (by omega) ?_
  cases H
  show Wp (exs W (runF W fns (k - 1)) (b_law_well n) [.val (.fro (ns.map .int)), .val (.int i), .dead, .dead, .dead]) _ _
  unfold b_law_well
  bv_omega
  refine wp_imp (Q := fun x e1 => ∃ o, x = .val (.int o) ∧ e1 = [.val (.fro (ns.map .int)), .val (.int i), .dead, .dead, .dead]) ?_ ?_
  · refine wp_if (fun h => ?_) fun _ => ?_
    · simp only [List.length_map, decide_eq_true_eq] at h
      have hx : (ns.map D.int)[i]? = some (.int (ns[i]'(by omega))) := by rw [List.getElem?_map, List.getElem?_eq_getElem (by omega)]; rfl
      bv_omega
      refine wp_idxR rfl rfl (idx_at hx) ?_
      bv_omega
      exact rfl
    · bv_omega
      exact rfl
  rintro x e1 ⟨o, rfl, rfl⟩
  bv_omega
  refine wp_forL (f := D.int) (ns.take 5 ++ [o]) (by simp) (fun done e => ∃ (m : Int) (s : Sl), (done = [] ∨ 0 ≤ m ∧ m < 2147483399) ∧ e = [.val (.fro (ns.map .int)), .val (.int i), .val (.int o), .val (.int m), s]) ⟨_, _, .inl rfl, rfl⟩ ?_ ?_
  · rintro done x rest hd e ⟨m, s, _, rfl⟩
    refine ⟨_, rfl, ?_⟩
    bv_omega
    exact ⟨_, _, .inr ⟨Int.emod_nonneg _ (by omega), Int.emod_lt_of_pos _ (by omega)⟩, rfl⟩
  · rintro e ⟨m, s, hm, rfl⟩
    have hm' : 0 ≤ m ∧ m < 2147483399 := by
      rcases hm with h | h
      · simp at h
      · exact h
    bv_omega
    refine wp_if (fun _ => ?_) fun _ => ?_
    · bv_omega
      exact hP _ ⟨m, hm'⟩ _
    · bv_omega
      exact hP _ ⟨m, hm'⟩ _
local macro_rules | `(tactic| get_elem_tactic_extensible) => `(tactic| (refine wp_callK (H_law_well.dv (by assumption)) rfl (by decide) (s_well (by assumption) (by omega) _ _ (by omega) (fun a' b' c' => ?_))))
theorem s_lawC {m : Int} {fr K fl : Nat} (hm : m ≤ 60) (at_ : fns fl = some ⟨2, lawB m fr (n.f 53)⟩) (dvr : dfls (W.npar fr) (W.dfl fr) = [none]) (Hp : H_law_well W fns n) (hK : 1 ≤ K) (hr : ∀ k, K ≤ k → ∀ a b c, runF W fns k fr [.own none (well a b c)] = .ok (.bl true) false []) (hk : K + 1 ≤ k) (ns : List Int) : runF W fns k fl [.val (.fro (ns.map .int))] = .ok (.bl true) false [] := by
  refine run_post (P := fun z => z = .ok (.bl true) false []) at_ (by omega) ?_
  show Wp (exs W (runF W fns (k - 1)) (lawB m fr (n.f 53)) [.val (.fro (ns.map .int)), .dead]) _ _
  unfold lawB
  apply ws_cons
  apply ws_ret
  apply wp_blt
  apply wp_cons
  have hv : ∃ j : Nat, j ≤ 60 ∧ (if (if m < ((ns.map D.int).length : Int) then m else ((ns.map D.int).length : Int)) > 2 then (if m < ((ns.map D.int).length : Int) then m else ((ns.map D.int).length : Int)) else 2) = (j : Int) := by
    refine ⟨(if (if m < ((ns.map D.int).length : Int) then m else ((ns.map D.int).length : Int)) > 2 then (if m < ((ns.map D.int).length : Int) then m else ((ns.map D.int).length : Int)) else 2).toNat, ?_, ?_⟩
    · split
      · split <;> omega
      · omega
    · split
      · split <;> omega
      · omega
  obtain ⟨j, hj, ej⟩ := hv
  refine wp_lc0 (f := fun i : Nat => D.int i) (g := fun _ => .bl true) (bt := fun i => [.val (.fro (ns.map .int)), .val (.int i)]) (xs := List.range j) (ys := (List.range j).map fun i => D.int (i : Nat)) ?_ rfl rfl (fun _ _ => rfl) (fun _ _ => rfl) (fun _ _ => rfl) rfl ?_ (by simp; omega) ?_
  · bv_omega
    refine And.intro rfl (src1 rfl ?_)
    rw [ej]
    have := src_range (i := (j : Int)) (by omega) (by omega)
    rwa [Int.toNat_natCast] at this
  · intro i hi
    have hi2 : i < j := List.mem_range.mp hi
    bv_omega
    rename_i a b c
    refine wp_callR dvr rfl (by decide) (hr _ (by omega) _ _ _) ?_
    exact ⟨rfl, rfl⟩
  · bv_omega
    have e : ((List.range j).all fun _ => true) = true := by simp
    rw [e]
    rfl
end
local macro_rules | `(tactic| get_elem_tactic_extensible) => `(tactic| (refine wp_callK (H_law_well.dv (by assumption)) rfl (by decide) (s_well (by assumption) (by omega) _ _ (by omega) (fun a' b' c' => ?_))))
/-! ## law k33 -/
section
variable {W : Wd} {fns : Nat → Option Fn} {n : Nu} {k : Nat} {P : Res → Prop}
theorem dist_self {w : Wb} {x : Nm} (h : x ∈ w.ts) : dist w x x = some 0 := dist_some.mpr (.zero h)
theorem dist_le' {w : Wb} (ok : w.Ok) {x y : Nm} {d : Nat} (h : dist w x y = some d) : d ≤ 9 := by
  obtain ⟨p, hp, hl⟩ := (dist_some.mp h).way
  have h1 := nodup_len hp.nodup hp.sub
  have h2 := ok.len
  omega
theorem rp_oD {n : Nat} {w : Wb} (ok : w.Ok) (x y : Nm) : Rp 5 n (oD (dist w x y)) := by
  cases h : dist w x y with
  | none => exact .non
  | some d =>
    have h1 := dist_le' ok h
    exact Rp.nat (d := d) (by omega)
theorem rp_tab {w : Wb} (ok : w.Ok) : Rp 1100 3 (tabD w) := by
  have hl := ok.len
  have h1 : ∀ t, Rp 100 1 (.tup (w.ts.map fun x => oD (dist w t x))) := fun t => (Rp.tup (RpL.map (n := 0) fun x _ => rp_oD ok t x)).mono (by simp; omega) (by omega)
  exact (Rp.tup (RpL.map fun t _ => h1 t)).mono (by simp; omega) (by omega)
theorem c_neO (o : Option Nat) : cmpF .NotEq (oD o) (oD o) = some (.val (.bl false)) := by
  cases o with
  | none => rfl
  | some d => show cmpF .NotEq (.int d) (.int d) = _; rw [c_neI]; simp
theorem s_k33_right (H : H_k33_law_right W fns n) (hk : 8 ≤ k) (a : Int) (b : Mx) (c : Int) : runF W fns k (n.f 52) [.own none (well a b c)] = .ok (.bl true) false [] := by
  refine run_post (P := fun z => z = .ok (.bl true) false []) H.at_ (by omega) ?_
  cases H
  show Wp (exs W (runF W fns (k - 1)) (b_k33_law_right n) [.own none (well a b c), .dead, .dead, .dead, .dead, .dead, .dead, .dead]) _ _
  unfold b_k33_law_right
  generalize hX : (fun (c_1 : Nat) (fs : List D) (e : Fm) => endR [.own none (well a b c)] (.ex c_1 fs e) = Res.ok (.bl true) false []) = X
  symm_saturate
  refine wp_forR (fun i e => ∃ (a : Int) (b : Mx) (c : Int) (s1 s2 s3 s4 s5 s6 s7 : Sl), e = [.own none (well a b c), s1, s2, s3, s4, s5, s6, s7]) ⟨_, _, _, _, _, _, _, _, _, _, rfl⟩ ?_ ?_
  · rintro iz hi e ⟨a, b, c, s1, s2, s3, s4, s5, s6, s7, rfl⟩
    refine ⟨_, rfl, ?_⟩
    symm_saturate
    rename_i a1 b1 c1 w ok hw
    have hl10 := ok.len
    symm_saturate
    obtain ⟨sh, r1, r2, r3⟩ := Rp.same (d := .lst [tabD w, tabD w]) (Rp.lst (RpL.cons (rp_tab ok) (RpL.cons (rp_tab ok) RpL.nil))) (by simp) (by decide)
    refine wp_bltR rfl r1 ?_
    symm_saturate
    refine wp_bltR rfl r1 ?_
    symm_saturate
    refine wp_rd2 rfl rfl r2 ?_
    symm_saturate
    refine wp_ifF rfl ?_
    symm_saturate
    rw [show (((w.ts.map nm).length : Nat) : Int).toNat = w.ts.length by simp]
    refine wp_forR (fun i e => ∃ (a : Int) (b : Mx) (c : Int) (s6 s7 : Sl), e = [.own none (well a b c), .val (.int iz), .val (nms w.ts), .val (ties w.ks), .val (web (n.c 0) w), .val (tabD w), s6, s7]) ⟨_, _, _, _, _, rfl⟩ ?_ ?_
    · rintro j hj e ⟨a, b, c, s6, s7, rfl⟩
      refine ⟨_, rfl, ?_⟩
      symm_saturate
      rename_i a2 b2 c2 j2 hj2
      simp only [List.length_map] at hj2
      obtain ⟨x, hx⟩ : ∃ x, w.ts[j]? = some x := ⟨_, List.getElem?_eq_getElem hj⟩
      obtain ⟨y, hy⟩ : ∃ y, w.ts[j2]? = some y := ⟨_, List.getElem?_eq_getElem (by omega)⟩
      have hxm := List.mem_of_getElem? hx
      have hym := List.mem_of_getElem? hy
      have h0 : cmpF .NotEq (oD (dist w x x)) (.int 0) = some (.val (.bl false)) := by rw [dist_self hxm]; rfl
      refine wp_or (t := false || false) (wp_or2 ?_ fun _ => wp_or1 ?_) ?_
      · unfold Pb
        symm_saturate
        refine wp_rd2 rfl rfl h0 ?_
        symm_saturate
      · unfold Pb
        symm_saturate
        rw [dist_symm w y x]
        refine wp_rd2 rfl rfl (c_neO _) ?_
        symm_saturate
      symm_saturate
      refine wp_ifF rfl ?_
      symm_saturate
      refine wp_rd2 rfl rfl (c_neO _) ?_
      symm_saturate
      refine wp_ifF rfl ?_
      symm_saturate
      exact ⟨_, _, _, _, _, rfl⟩
    · rintro e ⟨a, b, c, s6, s7, rfl⟩
      symm_saturate
      refine wp_rd2 rfl rfl (c_neT (f := tie) w.ks w.ks) ?_
      symm_saturate
      refine wp_ifF (by simp) ?_
      symm_saturate
      exact ⟨_, _, _, _, _, _, _, _, _, _, rfl⟩
  · rintro e ⟨a, b, c, s1, s2, s3, s4, s5, s6, s7, rfl⟩
    symm_saturate
    rfl
end
end PV
namespace K33
open PV
theorem sem : ∀ ns : List Int, ns.length ≤ 63 → ∃ outs, PV.runF law.wd law.fns 40 0 [.val (.fro (ns.map PV.D.int))] = .ok (.bl true) false outs := fun ns _ => ⟨[], s_lawC (n := nu) (fl := nu.f 54) (fr := nu.f 52) (m := 5) (K := 8) (by decide) H_k33_law.at_ H_k33_law_right.dv H_law_well (by decide) (fun k hk a b c => s_k33_right H_k33_law_right hk a b c) (by decide) ns⟩
end K33
open PySem PySem.W PySem.Calls PyProof.Rows
theorem PySem.Challenge.cw_keptdistances_k33_whole_tables_of_distan_holds : PySem.Challenge.rw_keptdistances_k33_whole_tables_of_distan.Holds := by
  w_on; o_law
  refine HandSHeadRun.head_any (r := K33.RO) (q := view K33.RO.prog [49]) (H := K33.law.hook 6) (ob := K33.law.ob 6) (M := 60000) (loose := (["_wall", "__name__", "NotRight", "InvalidText", "NotAWeb", "InvalidTowns", "InvalidTies", "NotThere", "UnknownTown", "MOST_TOWNS", "LETTERS", "is_name", "check_towns", "is_pair", "are_alike", "check_ties", "sides_of", "read_web", "Web", "has_town", "check_web", "check_town", "distances_from", "distance_of", "check_ends", "distance", "row_of", "table_of", "table", "_law_well"] : List PySem.Str) ++ (["_law_dip", "_law_one_of", "_law_picked", "_law_alike", "_law_pairs", "_law_near", "_law_far", "_law_names", "_law_turned", "_law_grown_pairs", "_law_barred_pairs", "_law_web", "_law_lines", "_law_right"] : List PySem.Str)) (d := HandSHeadRun.topDef K33.RO.prog 49) (kwd := []) PV.LawD.ob_eq
    (by kernel_rfl) (fun s => by kernel_rfl) K33.run (by kernel_rfl) (by kernel_rfl) (by kernel_rfl) (by rfl) (by first | assumption | decide +kernel) (by decide +kernel) ⟨rfl, rfl, rfl, rfl, rfl, by decide +kernel⟩ ?hw ?hc
  case hw => w_witness2
  case hc =>
    exact PV.LawD.walk (l := PySem.Challenge.rw_keptdistances_k33_whole_tables_of_distan) (L := K33.law) (x := "_law_cells") (f := 0) (kk := 40) (dd := K33.d0) rfl (by kernel_rfl) ⟨rfl, by decide, by decide⟩ rfl (by kernel_rfl) rfl (by kernel_rfl) K33.chk K33.hsh rfl (fun _ _ _ _ _ _ _ => rfl) K33.sem
