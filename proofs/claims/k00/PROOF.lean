import PyProof.Rows.All
import Wide.All
import OpenK.AllK
import Wide.FinOn
import PySem.Challenge.RW_sharedscopes_k00_errors_made
import HandS.ForMost
import HandS.Wide
import HandS.TupAny
import HandS.IsInst
import HandS.HeadHook4
import PyProof.ReprRoads
import HandS.FStrTup
import HandS.More
import HandS.RaiseMore
import HandS.Style
import HandS.Flow
import HandS.Star
import HandS.CallSlots
import HandS.ForExc
import KE.KExcSuper
import HandS.Exc
import HandS.ExcField
import HandS.ExcOwn
import HandS.ExcValue
import HandS.ExcIs
import HandS.MakeKw
import HandS.Iter
import HandS.TryMany
import HandS.DictTup
import HandS.SetKeys
import HandS.CallLocal
import PyProof.DictMoreH
import KE.KDictDisplayH
import HandS.HeadEnd
import HandS.Defaults
import KE.KStateDown
import HandS.Head0
import HandS.Head1
import HandS.Head2
import HandS.HeadHook1
import HandS.HeadHook2
import HandS.HeadHook3
import HandS.Lambda
import HandS.Codes
set_option Elab.async false
set_option linter.all false
set_option maxRecDepth 100000
/-! MiA: a small interpreter of the part of Python that the laws use: values, cells, terms, evaluation. Pure Lean. -/
namespace Mini
open PySem L2

/-- values: lists, dicts, instances that are never changed again are values; what is changed is a cell -/
inductive MV where
  | non
  | bl (b : Bool)
  | int (i : Int)
  | str (s : Str)
  | tup (xs : List MV)
  | lst (xs : List MV)
  | dck (kvs : List (Key × MV))
  | obj (c : Str) (fs : List (Str × MV))
  | scr (ns : List Int)
  | ref (n : Nat)
  | glo (x : Str)
  | txt (b : Nat)
  | err (c : Str) (x : MV)
  deriving Inhabited
/-- the field of an own error -/
def fo (c : Str) : Str := if c = "TooMany" then "most" else "told"
inductive Cell where
  | lst (xs : List MV)
  | ins (c : Str) (fs : List (Str × MV))
  | dct (kvs : List (List Key × MV))
  deriving Inhabited
abbrev Mem := List Cell
inductive Res (α : Type) where
  | ok (a : α) (M : Mem)
  | exn (c : Str) (x : MV) (M : Mem)
  | stuck
namespace Res
def bind {α β : Type} (r : Res α) (f : α → Mem → Res β) : Res β := match r with
  | .ok a M => f a M
  | .exn c x M => .exn c x M
  | .stuck => .stuck
@[simp] theorem bind_ok {α β : Type} (a : α) (M : Mem) (f : α → Mem → Res β) : (Res.ok a M).bind f = f a M := rfl
@[simp] theorem bind_exn {α β : Type} (c : Str) (x : MV) (M : Mem) (f : α → Mem → Res β) : (Res.exn c x M : Res α).bind f = .exn c x M := rfl
@[simp] theorem bind_stuck {α β : Type} (f : α → Mem → Res β) : (Res.stuck : Res α).bind f = .stuck := rfl
def opt {α : Type} (o : Option α) (M : Mem) : Res α := match o with
  | some a => .ok a M
  | none => .stuck
@[simp] theorem opt_some {α : Type} (a : α) (M : Mem) : Res.opt (some a) M = .ok a M := rfl
@[simp] theorem opt_none {α : Type} (M : Mem) : (Res.opt (none : Option α) M) = .stuck := rfl
end Res
def mapO {α β : Type} (f : α → Option β) : List α → Option (List β)
  | [] => some []
  | x :: xs => match f x, mapO f xs with
    | some y, some ys => some (y :: ys)
    | _, _ => none

/-! ### terms -/
/-- a function of the text: a global's name; a class and its method -/
abbrev FK := Str × Option Str
inductive Bi where
  | len | int | str | max | min | tuple | list
  deriving DecidableEq
inductive Bm where
  | append | pop | join | dget | popd | setd
  deriving DecidableEq
mutual
inductive CE where
  | con (c : MV)
  | var (i : Nat)
  | glb (x : Str)
  | bin (op : Operator) (a b : CE)
  | neg (a : CE)
  | not (a : CE)
  | and (a b : CE)
  | or (a b : CE)
  | cmp (op : CmpOp) (a b : CE)
  | chn (op op' : CmpOp) (a b c : CE)
  | ife (c a b : CE)
  | tup (es : CL)
  | lst (es : CL)
  | nwl (es : CL)
  | ndd (a b : CE)
  | idx (a b : CE)
  | slc (a : CE) (lo hi : CO)
  | att (a : CE) (f : Str)
  | cal (f : Str) (es : CL)
  | mth (c : Str) (a : CE) (m : Str) (es : CL)
  | new (c : Str) (es : CL)
  | blt (f : Bi) (es : CL)
  | isi (a : CE) (ts : List String)
  | bmt (b : Bm) (a : CE) (es : CL)
  | dsp (ks : List Key) (es : CL)
  | lcp (tg : List Nat) (one : Bool) (it : CI) (t : CO) (e : CE)
  | rev (a : CE)
  | dd1 (k v : CE)
  | dix (a k : CE)
  | cav (f : Str) (a : CE) (es : CL)
  | mke (c : Str) (a : CE)
  | eat (a : CE) (f : Str)
  | ise (a : CE) (T : Str)
  | rpr (a : CE)
inductive CL where
  | nil
  | cons (e : CE) (es : CL)
  | star (e : CE) (es : CL)
inductive CO where
  | none
  | some (e : CE)
inductive CI where
  | seq (e : CE)
  | rng (e : CE)
  | rng2 (a b : CE)
  | chr (e : CE)
  | enu (e : CE)
end

/-! ### what the operations do -/
def asL (M : Mem) : MV → Option (List MV)
  | .lst xs => some xs
  | .ref n => (match M[n]? with
    | some (.lst xs) => some xs
    | _ => none)
  | _ => none
def toD : Nat → Mem → MV → Option PyData
  | 0, _, _ => none
  | n + 1, M, x => match x with
    | .non => some .none
    | .bl b => some (.bool b)
    | .int i => some (.int i)
    | .str s => some (.str s)
    | .tup xs => (mapO (toD n M) xs).map .tuple
    | .lst xs => (mapO (toD n M) xs).map .list
    | .ref k => (match M[k]? with
      | some (.lst xs) => (mapO (toD n M) xs).map .list
      | _ => none)
    | _ => none
def eqD (M : Mem) (x y : MV) : Option Bool := match toD 64 M x, toD 64 M y with
  | some d, some e => if SeqAt.shaped d && SeqAt.shaped e then some (PyData.eqv d e) else none
  | _, _ => none
def truth (M : Mem) : MV → Option Bool
  | .non => some false
  | .bl b => some b
  | .int i => some (i != 0)
  | .str s => if s.length ≤ sizeLine then some ((s.length : Int) != 0) else none
  | .tup xs => some (!xs.isEmpty)
  | .lst xs => some (!xs.isEmpty)
  | .ref n => (match M[n]? with
    | some (.lst xs) => some (!xs.isEmpty)
    | _ => none)
  | _ => none
def addV (M : Mem) (x y : MV) : Option MV := match x, y with
  | .int i, .int j => some (.int (i + j))
  | .str a, .str b => if a.length + b.length ≤ sizeLine then some (.str (a ++ b)) else none
  | .tup xs, .tup ys => if xs.length + ys.length ≤ sizeLine then some (.tup (xs ++ ys)) else none
  | .str a, .txt b => if a.length + b ≤ sizeLine then some (.txt (a.length + b)) else none
  | .txt a, .str b => if a + b.length ≤ sizeLine then some (.txt (a + b.length)) else none
  | _, _ => (match asL M x, asL M y with
    | some xs, some ys => if xs.length + ys.length ≤ sizeLine then some (.lst (xs ++ ys)) else none
    | _, _ => none)
def binV (op : Operator) (M : Mem) (x y : MV) : Option MV := match op with
  | .Add => addV M x y
  | .Sub => (match x, y with
    | .int i, .int j => some (.int (i - j))
    | _, _ => none)
  | .Mult => (match x, y with
    | .int i, .int j => if i.natAbs.log2 + j.natAbs.log2 < 1000000 ∨ (0 ≤ j ∧ j ≤ 1) then some (.int (i * j)) else none
    | .lst [z], .int j => if 0 ≤ j ∧ j ≤ 1000 then some (.lst (List.replicate j.toNat z)) else none
    | _, _ => none)
  | .Mod => (match x, y with
    | .int i, .int j => if 0 < j then some (.int (i % j)) else none
    | _, _ => none)
  | .FloorDiv => (match x, y with
    | .int i, .int j => if 0 < j ∧ j.natAbs.log2 < 9000 then some (.int (i / j)) else none
    | _, _ => none)
  | .Pow => (match x, y with
    | .int i, .int j => if 0 ≤ j ∧ j ≤ 1000000 ∧ i.natAbs < 2 ^ 64 then some (.int (i ^ j.toNat)) else none
    | _, _ => none)
  | _ => none
/-- a flat value -/
def flM : MV → Option V
  | .non => some .non
  | .bl b => some (.bl b)
  | .int i => some (.int i)
  | .str s => some (.str s)
  | _ => none
def inSq (x : MV) (ys : List MV) : Option Bool := match flM x, mapO flM ys with
  | some v, some vs => some (inV v vs)
  | _, _ => none
def inV2 (M : Mem) (x y : MV) : Option Bool := match y with
  | .str b => (match x with
    | .str a => if a.length = 1 then some (decide (a.cps.getD 0 0 ∈ b.cps.toList)) else none
    | _ => none)
  | .tup ys => inSq x ys
  | _ => none
def numB (f : Int → Int → Bool) : MV → MV → Option Bool
  | .int i, .int j => some (f i j)
  | _, _ => none
def isNon : MV → Bool
  | .non => true
  | _ => false
def isB : MV → MV → Option Bool
  | .bl a, .bl b => some (decide (a = b))
  | _, _ => none
def cmpV (op : CmpOp) (M : Mem) (x y : MV) : Option Bool := match op with
  | .Eq => eqD M x y
  | .NotEq => (eqD M x y).map (!·)
  | .Lt => numB (fun i j => decide (i < j)) x y
  | .LtE => numB (fun i j => decide (i ≤ j)) x y
  | .Gt => numB (fun i j => decide (j < i)) x y
  | .GtE => numB (fun i j => decide (j ≤ i)) x y
  | .Is => if isNon y then some (isNon x) else isB x y
  | .IsNot => if isNon y then some (!isNon x) else (isB x y).map (!·)
  | .In => inV2 M x y
  | .NotIn => (inV2 M x y).map (!·)
def idxV (M : Mem) (kd : Str → Option (List (Str × MV))) (x y : MV) : Option MV := match x, y with
  | .tup xs, .int i => atI xs i
  | .str s, .int i => if s.length ≤ sizeLine then (atI s.cps.toList i).map fun c => .str ⟨#[c]⟩ else none
  | .scr ns, .int i => (atI ns i).map .int
  | .glo d, .str k => (kd d).bind fun kvs => kvs.lookup k
  | _, .int i => (asL M x).bind fun xs => atI xs i
  | _, _ => none
def cutL {α : Type} (xs : List α) (lo hi : Option Int) : List α := (xs.drop (HT.sIx xs.length 0 lo)).take (HT.sIx xs.length xs.length hi - HT.sIx xs.length 0 lo)
def slcV (M : Mem) (x : MV) (lo hi : Option Int) : Option MV := match x with
  | .str s => if s.length ≤ sizeLine then some (.str (cutS s lo hi)) else none
  | .tup xs => some (.tup (cutL xs lo hi))
  | _ => (asL M x).map fun xs => .lst (cutL xs lo hi)
def insV (M : Mem) : MV → Option (Str × List (Str × MV))
  | .obj c fs => some (c, fs)
  | .ref n => (match M[n]? with
    | some (.ins c fs) => some (c, fs)
    | _ => none)
  | _ => none
def fldV (cl : Str → Str → Bool) (M : Mem) (x : MV) (f : Str) : Option MV := (insV M x).bind fun p => if cl p.1 f then p.2.lookup f else none
def lenV (M : Mem) : MV → Option Nat
  | .str s => if s.length ≤ sizeLine then some s.length else none
  | .tup xs => some xs.length
  | .scr ns => some ns.length
  | x => (asL M x).map List.length
def strL : List MV → Option (List Str)
  | [] => some []
  | .str s :: xs => (strL xs).map (s :: ·)
  | _ => none
def pileL (Ls : List Nat) : Nat := (Ls.map fun l => l + 2).sum
/-- how many signs repr has at most -/
def shw : Nat → MV → Option Nat
  | 0, _ => none
  | n + 1, x => match x with
    | .int i => if i.natAbs.log2 < 1920 then some (Str.ofString (toString i)).length else none
    | .str s => some (reprText s).length
    | .tup xs => (mapO (shw n) xs).map fun Ls => pileL Ls + 7
    | _ => none
/-- built-ins by name -/
def biLen (M : Mem) : List MV → Option MV
  | [x] => (lenV M x).map fun (n : Nat) => .int (n : Int)
  | _ => none
def biInt : List MV → Option MV
  | [.int i] => some (.int i)
  | [.bl k] => some (.int (if k then 1 else 0))
  | [.str a] => if a.length ≤ 640 then (PySem.intText? a).map .int else none
  | _ => none
def biStr : List MV → Option MV
  | [.int i] => if i.natAbs.log2 < 1920 then some (.str (toString i)) else none
  | [.str a] => some (.str a)
  | [.tup xs] => (match mapO (shw 16) xs with
    | some Ls => if pileL Ls + 7 ≤ sizeLine then some (.txt (pileL Ls + 7)) else none
    | none => none)
  | _ => none
def biMax : List MV → Option MV
  | [.int i, .int j] => some (.int (if j > i then j else i))
  | _ => none
def biMin : List MV → Option MV
  | [.int i, .int j] => some (.int (if j < i then j else i))
  | _ => none
def biTup (M : Mem) : List MV → Option MV
  | [.tup ys] => some (.tup ys)
  | [x] => (asL M x).map .tup
  | _ => none
def biLst (M : Mem) : List MV → Option MV
  | [.tup ys] => some (.lst ys)
  | [x] => (asL M x).map .lst
  | _ => none
def bltV (f : Bi) (M : Mem) (xs : List MV) : Option MV := match f with
  | .len => biLen M xs
  | .int => biInt xs
  | .str => biStr xs
  | .max => biMax xs
  | .min => biMin xs
  | .tuple => biTup M xs
  | .list => biLst M xs
/-- the type of a value, for isinstance -/
def tyV2 (M : Mem) : MV → Option String
  | .non => some "NoneType"
  | .bl _ => some "bool"
  | .int _ => some "int"
  | .str _ => some "str"
  | .tup _ => some "tuple"
  | .lst _ => some "list"
  | .dck _ => some "dict"
  | .ref n => (match M[n]? with
    | some (.lst _) => some "list"
    | _ => none)
  | _ => none
def isiT (M : Mem) (x : MV) (T : String) : Option Bool := (tyV2 M x).bind fun t => kitB t T
def isiA (M : Mem) (x : MV) : List String → Option Bool
  | [] => some false
  | T :: ts => match isiT M x T with
    | some true => some true
    | some false => isiA M x ts
    | none => none
def lookK (kvs : List (Key × MV)) (k : Key) : Option MV := (kvs.find? fun kv => decide (kv.1 = k)).map (·.2)
def keyOf : MV → Option Key
  | .int i => some (.inl i)
  | .str s => some (.inr s)
  | _ => none
/-- a tuple of ints and texts, as a key -/
def keysOf (xs : List MV) : Option (List Key) := mapO keyOf xs
def keyT : MV → Option (List Key)
  | .tup xs => keysOf xs
  | _ => none
def lookT (kvs : List (List Key × MV)) (k : List Key) : Option MV := (kvs.find? fun kv => decide (kv.1 = k)).map (·.2)
def putT (kvs : List (List Key × MV)) (k : List Key) (v : MV) : List (List Key × MV) := if kvs.any fun kv => decide (kv.1 = k) then kvs.map fun kv => if kv.1 = k then (k, v) else kv else kvs ++ [(k, v)]
def dropT (kvs : List (List Key × MV)) (k : List Key) : List (List Key × MV) := kvs.filter fun kv => decide (kv.1 ≠ k)
def dctV (M : Mem) : MV → Option (List (List Key × MV))
  | .ref n => (match M[n]? with
    | some (.dct kvs) => some kvs
    | _ => none)
  | _ => none
/-- what a built-in method is asked of -/
def recV (b : Bm) (M : Mem) (x : MV) : Bool := match b with
  | .append => (match x with
    | .ref n => (match M[n]? with
      | some (.lst _) => true
      | _ => false)
    | _ => false)
  | .pop => (match x with
    | .ref n => (match M[n]? with
      | some (.lst _) => true
      | _ => false)
    | _ => false)
  | .join => (match x with
    | .str _ => true
    | _ => false)
  | .dget => (match x with
    | .dck _ => true
    | _ => false)
  | .popd => (dctV M x).isSome
  | .setd => (dctV M x).isSome
/-- built-in methods: the value and the memory behind it -/
def bmtV (b : Bm) (M : Mem) (x : MV) (xs : List MV) : Option (MV × Mem) := match b with
  | .append => (match x, xs with
    | .ref n, [y] => (match M[n]? with
      | some (.lst zs) => if zs.length < sizeLine then some (.non, M.set n (.lst (zs ++ [y]))) else none
      | _ => none)
    | _, _ => none)
  | .pop => (match x, xs with
    | .ref n, [] => (match M[n]? with
      | some (.lst zs) => (zs[zs.length - 1]?).map fun y => (y, M.set n (.lst zs.dropLast))
      | _ => none)
    | _, _ => none)
  | .join => (match x, xs with
    | .str a, [y] => (asL M y).bind fun zs => (strL zs).bind fun ss => if (ss.map (·.length)).sum + ss.length * a.length ≤ 16777216 then some (.str (Txt.join a ss), M) else none
    | _, _ => none)
  | .dget => (match x, xs with
    | .dck kvs, [k, d] => (keyOf k).map fun q => ((lookK kvs q).getD d, M)
    | _, _ => none)
  | .popd => (match x, xs with
    | .ref n, [k, d] => (match M[n]?, keyT k with
      | some (.dct kvs), some q => some (match lookT kvs q with
        | some v => (v, M.set n (.dct (dropT kvs q)))
        | none => (d, M))
      | _, _ => none)
    | _, _ => none)
  | .setd => (match x, xs with
    | .ref n, [k, d] => (match M[n]?, keyT k with
      | some (.dct kvs), some q => (match lookT kvs q with
        | some v => some (v, M)
        | none => if kvs.length < sizeLine then some (d, M.set n (.dct (putT kvs q d))) else none)
      | _, _ => none)
    | _, _ => none)
/-- the value as data, for repr: a dict of flat values alone -/
def flD : MV → Option PyData
  | .non => some .none
  | .bl b => some (.bool b)
  | .int i => some (.int i)
  | .str s => some (.str s)
  | _ => none
def keyD : Key → PyData
  | .inl i => .int i
  | .inr s => .str s
def rpD (M : Mem) : MV → Option PyData
  | .dck kvs => (mapO (fun p : Key × MV => (flD p.2).map fun d => (keyD p.1, d)) kvs).map .dict
  | x => toD 64 M x
def reprM (M : Mem) (x : MV) : Option MV := match rpD M x with
  | some d => if d.showable = true ∧ d.shown.length ≤ sizeLine ∧ d.depth ≤ 64 then some (.str d.shown) else none
  | none => none
/-- pairs of enumerate -/
def enuL : Int → List MV → List MV
  | _, [] => []
  | n, x :: xs => .tup [.int n, x] :: enuL (n + 1) xs
def putL (f : Str) (y : MV) : List (Str × MV) → List (Str × MV)
  | [] => [(f, y)]
  | (g, z) :: r => if g = f then (g, y) :: r else (g, z) :: putL f y r
def itemsV (M : Mem) : MV → Option (List MV)
  | .tup xs => some xs
  | .lst xs => some xs
  | _ => none
def bind1 (tg : List Nat) (one : Bool) (x : MV) (r : List (Option MV)) : Option (List (Option MV)) := match one, tg with
  | true, [i] => some (r.set i (some x))
  | false, is => (match x with
    | .tup xs => if xs.length = is.length then some ((is.zip xs).foldl (fun r p => r.set p.1 (some p.2)) r) else none
    | _ => none)
  | _, _ => none
def wipeR (r : List (Option MV)) : List Nat → List (Option MV)
  | [] => r
  | v :: vs => (wipeR r vs).set v none

structure Cfg where
  call : FK → List MV → Mem → Res MV
  glob : Str → Option MV
  kd : Str → Option (List (Str × MV))
  sub : Str → Str → Option Bool
  cl : Str → Str → Bool
  fuel : Nat
  isk : Str → Str → Option Bool

/-- the elements of a comprehension, from the left -/
def mapR (f : MV → Mem → Res (Option MV)) : List MV → Mem → Res (List MV)
  | [], M => .ok [] M
  | x :: xs, M => (f x M).bind fun o M1 => (mapR f xs M1).bind fun ys M2 => .ok (match o with
    | some y => y :: ys
    | none => ys) M2
/-- no exception leaves -/
def calm {α : Type} (r : Res α) : Res α := match r with
  | .exn _ _ _ => .stuck
  | r => r
def intsFrom (lo : Int) : Nat → List MV
  | 0 => []
  | n + 1 => .int lo :: intsFrom (lo + 1) n
section
variable (g : Cfg)
mutual
def evE (r : List (Option MV)) : CE → Mem → Res MV
  | .con c, M => .ok c M
  | .var i, M => (match r[i]? with
    | some (some x) => .ok x M
    | _ => .stuck)
  | .glb x, M => .opt (g.glob x) M
  | .bin op a b, M => (evE r a M).bind fun x M1 => (evE r b M1).bind fun y M2 => .opt (binV op M2 x y) M2
  | .neg a, M => (evE r a M).bind fun x M1 => (match x with
    | .int i => .ok (.int (-i)) M1
    | _ => .stuck)
  | .not a, M => (evE r a M).bind fun x M1 => .opt ((truth M1 x).map fun b => .bl (!b)) M1
  | .and a b, M => (evE r a M).bind fun x M1 => (match truth M1 x with
    | some true => evE r b M1
    | some false => .ok x M1
    | none => .stuck)
  | .or a b, M => (evE r a M).bind fun x M1 => (match truth M1 x with
    | some true => .ok x M1
    | some false => evE r b M1
    | none => .stuck)
  | .cmp op a b, M => (evE r a M).bind fun x M1 => (evE r b M1).bind fun y M2 => .opt ((cmpV op M2 x y).map .bl) M2
  | .chn op op' a b c, M => (evE r a M).bind fun x M1 => (evE r b M1).bind fun y M2 => (match cmpV op M2 x y with
    | some true => (evE r c M2).bind fun z M3 => .opt ((cmpV op' M3 y z).map .bl) M3
    | some false => .ok (.bl false) M2
    | none => .stuck)
  | .ife c a b, M => (evE r c M).bind fun x M1 => (match truth M1 x with
    | some true => evE r a M1
    | some false => evE r b M1
    | none => .stuck)
  | .tup es, M => (evL r es M).bind fun xs M1 => if xs.length ≤ sizeLine then .ok (.tup xs) M1 else .stuck
  | .lst es, M => (evL r es M).bind fun xs M1 => if xs.length ≤ sizeLine then .ok (.lst xs) M1 else .stuck
  | .nwl es, M => (evL r es M).bind fun xs M1 => if xs.length ≤ sizeLine then .ok (.ref M1.length) (M1 ++ [.lst xs]) else .stuck
  | .ndd a b, M => (evE r a M).bind fun x M1 => (evE r b M1).bind fun y M2 => (match asL M2 x, asL M2 y with
    | some xs, some ys => if xs.length + ys.length ≤ sizeLine then .ok (.ref M2.length) (M2 ++ [.lst (xs ++ ys)]) else .stuck
    | _, _ => .stuck)
  | .idx a b, M => (evE r a M).bind fun x M1 => (evE r b M1).bind fun y M2 => .opt (idxV M2 g.kd x y) M2
  | .slc a lo hi, M => (evE r a M).bind fun x M1 => (evO r lo M1).bind fun l M2 => (evO r hi M2).bind fun h M3 => .opt (slcV M3 x l h) M3
  | .att a f, M => (evE r a M).bind fun x M1 => .opt (fldV g.cl M1 x f) M1
  | .cal f es, M => (evL r es M).bind fun xs M1 => g.call (f, none) xs M1
  | .mth c a m es, M => (evE r a M).bind fun x M1 => (match insV M1 x with
    | some (d, fs) => if d = c ∧ fs.lookup m = none then (evL r es M1).bind fun xs M2 => g.call (c, some m) (x :: xs) M2 else .stuck
    | none => .stuck)
  | .new c es, M => (evL r es M).bind fun xs M1 => (g.call (c, some "__init__") (.ref M1.length :: xs) (M1 ++ [.ins c []])).bind fun y M2 => (match y with
    | .non => .ok (.ref M1.length) M2
    | _ => .stuck)
  | .blt f es, M => (evL r es M).bind fun xs M1 => .opt (bltV f M1 xs) M1
  | .isi a ts, M => (evE r a M).bind fun x M1 => .opt ((isiA M1 x ts).map .bl) M1
  | .bmt b a es, M => (evE r a M).bind fun x M1 => if recV b M1 x then (evL r es M1).bind fun xs M2 => (match bmtV b M2 x xs with
    | some (y, M3) => .ok y M3
    | none => .stuck) else .stuck
  | .dsp ks es, M => (evL r es M).bind fun xs M1 => if xs.length = ks.length ∧ ks.Nodup ∧ ks.length ≤ 15 then .ok (.dck (ks.zip xs)) M1 else .stuck
  | .lcp tg one it t e, M => (evI r it M).bind fun xs M1 => (mapR (fun x M2 => match bind1 tg one x (wipeR r tg) with
      | none => .stuck
      | some r2 => calm ((evT r2 t M2).bind fun b M3 => if b then (evE r2 e M3).bind fun y M4 => .ok (some y) M4 else .ok none M3)) xs M1).bind fun ys M2 => if ys.length ≤ sizeLine then .ok (.lst ys) M2 else .stuck
  | .rev a, M => (evE r a M).bind fun x M1 => .opt ((asL M1 x).map fun xs => .lst xs.reverse) M1
  | .dd1 k v, M => (evE r k (M ++ [.dct []])).bind fun x M1 => (evE r v M1).bind fun y M2 => (match keyT x, M2[M.length]? with
    | some q, some (.dct []) => .ok (.ref M.length) (M2.set M.length (.dct [(q, y)]))
    | _, _ => .stuck)
  | .dix a k, M => (evE r a M).bind fun x M1 => (evE r k M1).bind fun y M2 => .opt ((dctV M2 x).bind fun kvs => (keyT y).bind fun q => lookT kvs q) M2
  | .cav f a es, M => (evE r a M).bind fun x M1 => (match x with
    | .glo h => if h = f then (evL r es M1).bind fun xs M2 => g.call (f, none) xs M2 else .stuck
    | _ => .stuck)
  | .mke c a, M => (evE r a M).bind fun x M1 => .ok (.err c x) M1
  | .eat a f, M => (evE r a M).bind fun x M1 => (match x with
    | .err c y => if fo c = f ∧ (g.isk c c).isSome = true then .ok y M1 else .stuck
    | _ => .stuck)
  | .ise a T, M => (evE r a M).bind fun x M1 => (match x with
    | .err c _ => .opt ((g.isk c T).map .bl) M1
    | _ => .stuck)
  | .rpr a, M => (evE r a M).bind fun x M1 => .opt (reprM M1 x) M1
def evL (r : List (Option MV)) : CL → Mem → Res (List MV)
  | .nil, M => .ok [] M
  | .cons e es, M => (evE r e M).bind fun x M1 => (evL r es M1).bind fun xs M2 => .ok (x :: xs) M2
  | .star e es, M => (evE r e M).bind fun x M1 => (match x with
    | .tup ys => (evL r es M1).bind fun xs M2 => .ok (ys ++ xs) M2
    | .lst ys => (evL r es M1).bind fun xs M2 => .ok (ys ++ xs) M2
    | _ => .stuck)
def evO (r : List (Option MV)) : CO → Mem → Res (Option Int)
  | .none, M => .ok none M
  | .some e, M => (evE r e M).bind fun x M1 => (match x with
    | .int i => .ok (some i) M1
    | _ => .stuck)
/-- a comprehension's test -/
def evT (r : List (Option MV)) : CO → Mem → Res Bool
  | .none, M => .ok true M
  | .some e, M => (evE r e M).bind fun x M1 => .opt (truth M1 x) M1
/-- what is walked -/
def evI (r : List (Option MV)) : CI → Mem → Res (List MV)
  | .seq e, M => (evE r e M).bind fun x M1 => .opt (itemsV M1 x) M1
  | .rng e, M => (evE r e M).bind fun x M1 => (match x with
    | .int j => if -(2 ^ 62) ≤ j ∧ j < 2 ^ 62 then .ok (intsFrom 0 j.toNat) M1 else .stuck
    | _ => .stuck)
  | .rng2 a b, M => (evE r a M).bind fun x M1 => (evE r b M1).bind fun y M2 => (match x, y with
    | .int i, .int j => if -(2 ^ 62) ≤ i ∧ i < 2 ^ 62 ∧ -(2 ^ 62) ≤ j ∧ j < 2 ^ 62 then .ok (intsFrom i (j - i).toNat) M2 else .stuck
    | _, _ => .stuck)
  | .chr e, M => (evE r e M).bind fun x M1 => (match x with
    | .str s => .ok (s.cps.toList.map fun c => .str ⟨#[c]⟩) M1
    | _ => .stuck)
  | .enu e, M => (evE r e M).bind fun x M1 => (match x with
    | .lst xs => .ok (enuL 0 xs) M1
    | _ => .stuck)
end
end

/-! ### statements -/
/-- what an except suite returns: of the error's own value, and constants -/
inductive Atm where
  | pay
  | con (c : MV)
  | rpr
inductive Hx where
  | one (a : Atm)
  | lst (as : List Atm)
  | tup (as : List Atm)
def reprV : MV → Option Str
  | .int i => if i.natAbs.log2 < 1920 then some (toString i) else none
  | _ => none
def Atm.val (x : MV) : Atm → Option MV
  | .pay => some x
  | .con c => some c
  | .rpr => (reprV x).map .str
def Hx.val (x : MV) : Hx → Option MV
  | .one a => a.val x
  | .lst as => (mapO (Atm.val x) as).map .lst
  | .tup as => (mapO (Atm.val x) as).map .tup
mutual
inductive CS where
  | asg (i : Nat) (e : CE)
  | asgT (is : List Nat) (e : CE)
  | asgP (is : List Nat) (es : CL)
  | sat (o : CE) (f : Str) (e : CE)
  | sub (o k e : CE)
  | augA (o : CE) (f : Str) (op : Operator) (e : CE)
  | augV (i : Nat) (op : Operator) (e : CE)
  | exp (e : CE)
  | ret (e : CE)
  | retN
  | ite (c : CE) (a b : CB)
  | forr (tg : List Nat) (one : Bool) (it : CI) (body : CB)
  | whl (c : CE) (body : CB)
  | rse (c : Str) (e : CE)
  | tryA (body : CB) (hs : CH)
  | pas
  | brk
  | cnt
inductive CB where
  | nil
  | cons (s : CS) (b : CB)
inductive CH where
  | nil
  | cons (c : Str) (i : Nat) (b : Hx) (hs : CH)
  | con0 (c : Str) (b : Hx) (hs : CH)
end
abbrev Rho := List (Option MV)
inductive Flw where
  | next (r : Rho)
  | ret (x : MV)
  | brk (r : Rho)
  | cnt (r : Rho)
/-- a walk: one turn after another -/
def forV (f : MV → Rho → Mem → Res Flw) : List MV → Rho → Mem → Res Flw
  | [], r, M => .ok (.next r) M
  | x :: xs, r, M => (f x r M).bind fun w M1 => match w with
    | .next r1 => forV f xs r1 M1
    | .cnt r1 => forV f xs r1 M1
    | .brk r1 => .ok (.next r1) M1
    | .ret y => .ok (.ret y) M1
def whlV (t : Rho → Mem → Res Bool) (f : Rho → Mem → Res Flw) : Nat → Rho → Mem → Res Flw
  | 0, _, _ => .stuck
  | n + 1, r, M => (t r M).bind fun b M1 => if b then (f r M1).bind fun w M2 => (match w with
    | .next r1 => whlV t f n r1 M2
    | .cnt r1 => whlV t f n r1 M2
    | .brk r1 => .ok (.next r1) M2
    | .ret y => .ok (.ret y) M2) else .ok (.next r) M1
def satV (cl : Str → Str → Bool) (M : Mem) (x : MV) (f : Str) (y : MV) : Option Mem := match x with
  | .ref n => (match M[n]? with
    | some (.ins c fs) => if cl c f ∧ fs.length < 1000 then some (M.set n (.ins c (putL f y fs))) else none
    | _ => none)
  | _ => none
def subV (M : Mem) (x k y : MV) : Option Mem := match x, k with
  | .ref n, .int i => (match M[n]? with
    | some (.lst xs) => (ixN xs.length i).map fun j => M.set n (.lst (xs.set j y))
    | _ => none)
  | _, _ => none
/-- op= on ints -/
def augI (op : Operator) (x y : MV) : Option MV := match op, x, y with
  | .Add, .int i, .int j => some (.int (i + j))
  | .Sub, .int i, .int j => some (.int (i - j))
  | _, _, _ => none
section
variable (g : Cfg)
def bitV (r : Rho) (e : CE) (M : Mem) : Res Bool := (evE g r e M).bind fun x M1 => .opt (truth M1 x) M1
mutual
def evS (s : CS) (r : Rho) (M : Mem) : Res Flw := match s with
  | .asg i e => (evE g r e M).bind fun x M1 => .ok (.next (r.set i (some x))) M1
  | .asgT is e => (evE g r e M).bind fun x M1 => (match bind1 is false x r with
    | some r1 => .ok (.next r1) M1
    | none => .stuck)
  | .asgP is es => (evL g r es M).bind fun xs M1 => (match bind1 is false (.tup xs) r with
    | some r1 => .ok (.next r1) M1
    | none => .stuck)
  | .sat o f e => (evE g r e M).bind fun y M1 => (evE g r o M1).bind fun x M2 => (match satV g.cl M2 x f y with
    | some M3 => .ok (.next r) M3
    | none => .stuck)
  | .sub o k e => (evE g r e M).bind fun y M1 => (evE g r o M1).bind fun x M2 => (evE g r k M2).bind fun z M3 => (match subV M3 x z y with
    | some M4 => .ok (.next r) M4
    | none => .stuck)
  | .augA o f op e => (evE g r o M).bind fun x M1 => (match fldV g.cl M1 x f with
    | none => .stuck
    | some z => (evE g r e M1).bind fun y M2 => if (insV M1 x).map (·.1) = (insV M2 x).map (·.1) then (match augI op z y with
      | none => .stuck
      | some u => (match satV g.cl M2 x f u with
        | some M3 => .ok (.next r) M3
        | none => .stuck)) else .stuck)
  | .augV i op e => (match r[i]? with
    | some (some z) => (evE g r e M).bind fun y M1 => (match augI op z y with
      | none => .stuck
      | some u => .ok (.next (r.set i (some u))) M1)
    | _ => .stuck)
  | .exp e => (evE g r e M).bind fun _ M1 => .ok (.next r) M1
  | .ret e => (evE g r e M).bind fun x M1 => .ok (.ret x) M1
  | .retN => .ok (.ret .non) M
  | .ite c a b => (bitV g r c M).bind fun k M1 => if k then evB a r M1 else evB b r M1
  | .forr tg one it body => (evI g r it M).bind fun xs M1 => forV (fun x r1 M2 => match bind1 tg one x r1 with
    | none => .stuck
    | some r2 => evB body r2 M2) xs r M1
  | .whl c body => whlV (fun r1 M1 => bitV g r1 c M1) (fun r1 M1 => evB body r1 M1) g.fuel r M
  | .rse c e => (evE g r e M).bind fun x M1 => .exn c x M1
  | .tryA body hs => (match evB body r M with
    | .exn c x M1 => evH hs r.length c x M1
    | w => w)
  | .pas => .ok (.next r) M
  | .brk => .ok (.brk r) M
  | .cnt => .ok (.cnt r) M
def evB (b : CB) (r : Rho) (M : Mem) : Res Flw := match b with
  | .nil => .ok (.next r) M
  | .cons s b => (evS s r M).bind fun w M1 => (match w with
    | .next r1 => evB b r1 M1
    | w => .ok w M1)
/-- the clauses, from the first -/
def evH (hs : CH) (n : Nat) (c : Str) (x : MV) (M : Mem) : Res Flw := match hs with
  | .nil => .exn c x M
  | .cons d i b hs => (match g.sub c d with
    | some true => if i < n then (match b.val x with
      | some y => .ok (.ret y) M
      | none => .stuck) else .stuck
    | some false => evH hs n c x M
    | none => .stuck)
  | .con0 d b hs => (match g.sub c d with
    | some true => (match b.val x with
      | some y => .ok (.ret y) M
      | none => .stuck)
    | some false => evH hs n c x M
    | none => .stuck)
end
end

/-! ### functions -/
mutual
/-- no cell from n on is named -/
def clean (n : Nat) : MV → Bool
  | .ref k => decide (k < n)
  | .tup xs => cleanL n xs
  | .lst xs => cleanL n xs
  | .dck kvs => cleanK n kvs
  | .obj _ fs => cleanF n fs
  | .non => true
  | .bl _ => true
  | .int _ => true
  | .str _ => true
  | .scr _ => true
  | .glo _ => true
  | .txt _ => true
  | .err _ x => clean n x
def cleanL (n : Nat) : List MV → Bool
  | [] => true
  | x :: xs => clean n x && cleanL n xs
def cleanK (n : Nat) : List (Key × MV) → Bool
  | [] => true
  | p :: xs => clean n p.2 && cleanK n xs
def cleanF (n : Nat) : List (Str × MV) → Bool
  | [] => true
  | p :: xs => clean n p.2 && cleanF n xs
end
/-- the cells from n on, within a value, become values -/
def frz (M : Mem) (n : Nat) : Nat → MV → Option MV
  | 0, _ => none
  | k + 1, x => if clean n x then some x else match x with
    | .ref j => (match M[j]? with
      | some (.lst xs) => (mapO (frz M n k) xs).map .lst
      | some (.ins c fs) => (mapO (fun p : Str × MV => (frz M n k p.2).map fun y => (p.1, y)) fs).map (.obj c)
      | some (.dct _) => none
      | none => none)
    | .tup xs => (mapO (frz M n k) xs).map .tup
    | .lst xs => (mapO (frz M n k) xs).map .lst
    | .err c x => (frz M n k x).map (.err c)
    | _ => none
open Classical in
/-- the end of a call: cells made by it that nothing else names become values -/
noncomputable def fin (keep : Bool) (M : Mem) (w : Res MV) : Res MV := match w with
  | .ok v M1 => if keep = true ∨ M1.length = M.length then .ok v M1 else if M1.take M.length = M then (match frz M1 M.length 64 v with
    | some u => .ok u M
    | none => .stuck) else .ok v M1
  | .exn c v M1 => if keep = true ∨ M1.length = M.length then .exn c v M1 else if M1.take M.length = M then (match frz M1 M.length 64 v with
    | some u => .exn c u M
    | none => .stuck) else .exn c v M1
  | .stuck => .stuck
structure FD where
  np : Nat
  ns : Nat
  body : CB
  keep : Bool := false
structure Env where
  tab : FK → Option FD
  glob : Str → Option MV
  kd : Str → Option (List (Str × MV))
  sub : Str → Str → Option Bool
  cl : Str → Str → Bool
  fuel : Nat
  isk : Str → Str → Option Bool
def start (d : FD) (xs : List MV) : Rho := xs.map some ++ List.replicate (d.ns - d.np) none
def outF (w : Res Flw) : Res MV := w.bind fun w M => match w with
  | .next _ => .ok .non M
  | .ret x => .ok x M
  | _ => .stuck
noncomputable def evG (t : Env) : Nat → FK → List MV → Mem → Res MV
  | 0, _, _, _ => .stuck
  | n + 1, f, xs, M => match t.tab f with
    | none => .stuck
    | some d => if xs.length = d.np then fin d.keep M (outF (evB ⟨evG t n, t.glob, t.kd, t.sub, t.cl, t.fuel, t.isk⟩ d.body (start d xs) M)) else .stuck
@[irreducible] noncomputable def evF (t : Env) : Nat → FK → List MV → Mem → Res MV := evG t
theorem evF_eq : @evF = @evG := by
  funext t
  unfold evF
  rfl
theorem evF_zero {t : Env} {f : FK} {xs : List MV} {M : Mem} : evF t 0 f xs M = .stuck := by rw [evF_eq]; rfl
theorem evF_succ {t : Env} {n : Nat} {f : FK} {xs : List MV} {M : Mem} : evF t (n + 1) f xs M = (match t.tab f with
    | none => .stuck
    | some d => if xs.length = d.np then fin d.keep M (outF (evB ⟨evF t n, t.glob, t.kd, t.sub, t.cl, t.fuel, t.isk⟩ d.body (start d xs) M)) else .stuck) := by
  rw [evF_eq]
  rfl
noncomputable abbrev Env.cfg (t : Env) (n : Nat) : Cfg := ⟨evF t n, t.glob, t.kd, t.sub, t.cl, t.fuel, t.isk⟩
end Mini

set_option Elab.async false
set_option linter.all false
set_option maxRecDepth 100000
set_option maxHeartbeats 1000000
/-! MiB: how values and cells of the small interpreter stand in the abstract heap. -/
namespace Mini
open PySem L2

def hide (H : Hp) (l : List Addr) : Hp := fun a => if a ∈ l then none else H a
theorem hide_of {H : Hp} {l : List Addr} {a : Addr} (h : a ∉ l) : hide H l a = H a := if_neg h
theorem hide_in {H : Hp} {l : List Addr} {a : Addr} (h : a ∈ l) : hide H l a = none := if_pos h
theorem of_hide {H : Hp} {l : List Addr} {a : Addr} {o : HO} (h : hide H l a = some o) : a ∉ l ∧ H a = some o := by
  unfold hide at h
  split at h
  · cases h
  · exact ⟨by assumption, h⟩
theorem hide_same {H : Hp} {l : List Addr} : Same (hide H l) H := fun _ _ h => (of_hide h).2
theorem same_rd {H H' : Hp} {a : Addr} {u : HO} (e : Same H H') (h : Rd H a u) : Rd H' a u := by
  rcases h with h | ⟨o, h⟩
  · exact .inl (e _ _ h)
  · exact .inr ⟨o, e _ _ h⟩
theorem same_t {K : PySem.W.Frag} {H H' : Hp} {a : Addr} {xs : List V} (e : Same H H') (h : SqT K H a xs) : SqT K H' a xs := by
  rcases h with h | h
  · exact .inl (same_rd e h)
  · exact .inr h

/-- an error object of the class cls, its dict at d -/
def ErO (cls : Value) (d a : Addr) : HO := .ext fun h => ∃ (oe : Obj) (vs : Array Value), h.get? a = some oe ∧ oe.cls = cls ∧ oe.dict = some d ∧ oe.data = .fields vs
mutual
inductive RepV (K : PySem.W.Frag) (G : Hp) (m : List Addr) : V → MV → Prop
  | non : RepV K G m .non .non
  | bl (b : Bool) : RepV K G m (.bl b) (.bl b)
  | int (i : Int) : RepV K G m (.int i) (.int i)
  | str (s : Str) : RepV K G m (.str s) (.str s)
  | tup {a : Addr} {vs : List V} {xs : List MV} : G a = some (.tup vs) → RepL K G m vs xs → RepV K G m (.ref a) (.tup xs)
  | lst {a : Addr} {vs : List V} {xs : List MV} : G a = some (.lst vs) → RepL K G m vs xs → RepV K G m (.ref a) (.lst xs)
  | dck {a : Addr} {ps : List (Key × V)} {kvs : List (Key × MV)} : G a = some (.dK ps) → RepK K G m ps kvs → RepV K G m (.ref a) (.dck kvs)
  | obj {a dx : Addr} {c : Str} {gs : List (Str × V)} {fs : List (Str × MV)} : G a = some (.ins (He.ga K c) dx gs) → RepF K G m gs fs → RepV K G m (.ref a) (.obj c fs)
  | scr {a : Addr} {ns : List Int} : SqL K G a (ns.map V.int) → RepV K G m (.ref a) (.scr ns)
  | ref {n : Nat} {a : Addr} : m[n]? = some a → RepV K G m (.ref a) (.ref n)
  | glo (x : Str) : RepV K G m (.ref (He.ga K x)) (.glo x)
  | txt {s : Str} {b : Nat} : s.length ≤ b → RepV K G m (.str s) (.txt b)
  | err {a d : Addr} {c : Str} {v : V} {x : MV} : G a = some (ErO (.ref (He.ga K c)) d a) → G d = some (.xd [(fo c, v)]) → RepV K G m v x → RepV K G m (.ref a) (.err c x)
inductive RepL (K : PySem.W.Frag) (G : Hp) (m : List Addr) : List V → List MV → Prop
  | nil : RepL K G m [] []
  | cons {v : V} {vs : List V} {x : MV} {xs : List MV} : RepV K G m v x → RepL K G m vs xs → RepL K G m (v :: vs) (x :: xs)
inductive RepK (K : PySem.W.Frag) (G : Hp) (m : List Addr) : List (Key × V) → List (Key × MV) → Prop
  | nil : RepK K G m [] []
  | cons {k : Key} {v : V} {vs : List (Key × V)} {x : MV} {xs : List (Key × MV)} : RepV K G m v x → RepK K G m vs xs → RepK K G m ((k, v) :: vs) ((k, x) :: xs)
inductive RepF (K : PySem.W.Frag) (G : Hp) (m : List Addr) : List (Str × V) → List (Str × MV) → Prop
  | nil : RepF K G m [] []
  | cons {f : Str} {v : V} {vs : List (Str × V)} {x : MV} {xs : List (Str × MV)} : RepV K G m v x → RepF K G m vs xs → RepF K G m ((f, v) :: vs) ((f, x) :: xs)
end

section
variable {K : PySem.W.Frag} {G G' : Hp} {m m' : List Addr}
theorem pre_get {n : Nat} {a : Addr} (p : m <+: m') (h : m[n]? = some a) : m'[n]? = some a := by
  obtain ⟨t, rfl⟩ := p
  rw [List.getElem?_append_left (List.getElem?_eq_some_iff.mp h).1]
  exact h
mutual
theorem RepV.mono (e : Same G G') (p : m <+: m') : ∀ (x : MV) (v : V), RepV K G m v x → RepV K G' m' v x
  | .non, _, h => by cases h; exact .non
  | .bl _, _, h => by cases h; exact .bl _
  | .int _, _, h => by cases h; exact .int _
  | .str _, _, h => by cases h; exact .str _
  | .tup xs, _, h => by
    cases h with
    | tup hs ha => exact .tup (e _ _ hs) (RepL.mono e p xs _ ha)
  | .lst xs, _, h => by
    cases h with
    | lst hs ha => exact .lst (e _ _ hs) (RepL.mono e p xs _ ha)
  | .dck kvs, _, h => by
    cases h with
    | dck hs ha => exact .dck (e _ _ hs) (RepK.mono e p kvs _ ha)
  | .obj _ fs, _, h => by
    cases h with
    | obj hs ha => exact .obj (e _ _ hs) (RepF.mono e p fs _ ha)
  | .scr _, _, h => by
    cases h with
    | scr hs => exact .scr (e.seq hs)
  | .ref _, _, h => by
    cases h with
    | ref hs => exact .ref (pre_get p hs)
  | .glo _, _, h => by cases h; exact .glo _
  | .txt _, _, h => by
    cases h with
    | txt hs => exact .txt hs
  | .err _ x, _, h => by
    cases h with
    | err h1 h2 h3 => exact .err (e _ _ h1) (e _ _ h2) (RepV.mono e p x _ h3)
theorem RepL.mono (e : Same G G') (p : m <+: m') : ∀ (xs : List MV) (vs : List V), RepL K G m vs xs → RepL K G' m' vs xs
  | [], _, h => by cases h; exact .nil
  | x :: xs, _, h => by
    cases h with
    | cons h1 h2 => exact .cons (RepV.mono e p x _ h1) (RepL.mono e p xs _ h2)
theorem RepK.mono (e : Same G G') (p : m <+: m') : ∀ (xs : List (Key × MV)) (vs : List (Key × V)), RepK K G m vs xs → RepK K G' m' vs xs
  | [], _, h => by cases h; exact .nil
  | (k, x) :: xs, _, h => by
    cases h with
    | cons h1 h2 => exact .cons (RepV.mono e p x _ h1) (RepK.mono e p xs _ h2)
theorem RepF.mono (e : Same G G') (p : m <+: m') : ∀ (xs : List (Str × MV)) (vs : List (Str × V)), RepF K G m vs xs → RepF K G' m' vs xs
  | [], _, h => by cases h; exact .nil
  | (k, x) :: xs, _, h => by
    cases h with
    | cons h1 h2 => exact .cons (RepV.mono e p x _ h1) (RepF.mono e p xs _ h2)
end
theorem RepL.len : ∀ {vs : List V} {xs : List MV}, RepL K G m vs xs → vs.length = xs.length
  | [], [], _ => rfl
  | _ :: _, _ :: _, .cons _ h => by rw [List.length_cons, List.length_cons, h.len]
theorem RepL.get : ∀ {vs : List V} {xs : List MV} {i : Nat} {x : MV}, RepL K G m vs xs → xs[i]? = some x → ∃ v, vs[i]? = some v ∧ RepV K G m v x
  | _ :: _, _ :: _, 0, x, .cons h _, e => by
    have e' := Option.some.inj e
    subst e'
    exact ⟨_, rfl, h⟩
  | _ :: _, _ :: _, i + 1, x, .cons _ h, e => h.get (i := i) e
  | [], [], _, _, _, e => by simp at e
theorem RepL.append : ∀ {vs ws : List V} {xs ys : List MV}, RepL K G m vs xs → RepL K G m ws ys → RepL K G m (vs ++ ws) (xs ++ ys)
  | [], _, [], _, _, h => h
  | _ :: _, _, _ :: _, _, .cons h1 h2, h => .cons h1 (h2.append h)
theorem RepL.drop : ∀ (n : Nat) {vs : List V} {xs : List MV}, RepL K G m vs xs → RepL K G m (vs.drop n) (xs.drop n)
  | 0, _, _, h => h
  | _ + 1, [], [], h => .nil
  | n + 1, _ :: _, _ :: _, .cons _ h => h.drop n
theorem RepL.take : ∀ (n : Nat) {vs : List V} {xs : List MV}, RepL K G m vs xs → RepL K G m (vs.take n) (xs.take n)
  | 0, _, _, _ => .nil
  | _ + 1, [], [], h => .nil
  | n + 1, _ :: _, _ :: _, .cons h1 h => .cons h1 (h.take n)
theorem RepL.set : ∀ (n : Nat) {vs : List V} {xs : List MV} {v : V} {x : MV}, RepL K G m vs xs → RepV K G m v x → RepL K G m (vs.set n v) (xs.set n x)
  | _, [], [], _, _, _, _ => .nil
  | 0, _ :: _, _ :: _, _, _, .cons _ h, r => .cons r h
  | n + 1, _ :: _, _ :: _, _, _, .cons h1 h, r => .cons h1 (h.set n r)
theorem RepL.dropLast : ∀ {vs : List V} {xs : List MV}, RepL K G m vs xs → RepL K G m vs.dropLast xs.dropLast
  | [], [], _ => .nil
  | [_], [_], _ => .nil
  | _ :: _ :: _, _ :: _ :: _, .cons h1 h => .cons h1 h.dropLast
theorem RepF.look : ∀ {vs : List (Str × V)} {xs : List (Str × MV)} {f : Str} {x : MV}, RepF K G m vs xs → xs.lookup f = some x → ∃ v, vs.lookup f = some v ∧ RepV K G m v x
  | [], [], _, _, _, e => by cases e
  | (g, v) :: vs, (_, y) :: xs, f, x, .cons h h', e => by
    rw [List.lookup_cons] at e ⊢
    cases q : f == g with
    | true =>
      rw [q] at e
      have e' := Option.some.inj e
      subst e'
      exact ⟨v, rfl, h⟩
    | false =>
      rw [q] at e
      exact h'.look e
theorem RepF.none : ∀ {vs : List (Str × V)} {xs : List (Str × MV)} {f : Str}, RepF K G m vs xs → xs.lookup f = Option.none → vs.lookup f = Option.none
  | [], [], _, _, _ => rfl
  | (g, v) :: vs, (_, y) :: xs, f, .cons h h', e => by
    rw [List.lookup_cons] at e ⊢
    cases q : f == g with
    | true =>
      rw [q] at e
      cases e
    | false =>
      rw [q] at e
      exact h'.none e
theorem RepF.len : ∀ {vs : List (Str × V)} {xs : List (Str × MV)}, RepF K G m vs xs → vs.length = xs.length
  | [], [], _ => rfl
  | _ :: _, _ :: _, .cons _ h => by rw [List.length_cons, List.length_cons, h.len]
theorem RepF.put {f : Str} {v : V} {x : MV} (r : RepV K G m v x) : ∀ {vs : List (Str × V)} {xs : List (Str × MV)}, RepF K G m vs xs → RepF K G m (putF f v vs) (putL f x xs)
  | [], [], _ => .cons r .nil
  | (g, w) :: vs, (_, y) :: xs, .cons h h' => by
    show RepF K G m (putF f v ((g, w) :: vs)) (if g = f then (g, x) :: xs else (g, y) :: putL f x xs)
    unfold putF
    split
    · exact .cons r h'
    · exact .cons h (RepF.put r h')
theorem RepL.strL : ∀ {xs : List MV} {vs : List V} {ss : List Str}, RepL K G m vs xs → strL xs = some ss → vs = ss.map V.str
  | [], [], ss, _, e => by
    cases e
    rfl
  | .str s :: xs, _ :: vs, ss, .cons h h', e => by
    cases h
    unfold Mini.strL at e
    cases q : Mini.strL xs with
    | none => rw [q] at e; cases e
    | some t =>
      rw [q] at e
      cases e
      rw [h'.strL q]
      rfl
end

/-! ### dicts with tuples as keys -/
inductive RepT (K : PySem.W.Frag) (G : Hp) (m : List Addr) : List (List Key × V) → List (List Key × MV) → Prop
  | nil : RepT K G m [] []
  | cons {k : List Key} {v : V} {vs : List (List Key × V)} {x : MV} {xs : List (List Key × MV)} : RepV K G m v x → RepT K G m vs xs → RepT K G m ((k, v) :: vs) ((k, x) :: xs)
section
variable {K : PySem.W.Frag} {G G' : Hp} {m m' : List Addr}
theorem RepT.mono (e : Same G G') (p : m <+: m') : ∀ {vs : List (List Key × V)} {xs : List (List Key × MV)}, RepT K G m vs xs → RepT K G' m' vs xs
  | _, _, .nil => .nil
  | _, _, .cons h h' => .cons (h.mono e p) (h'.mono e p)
theorem RepT.len : ∀ {vs : List (List Key × V)} {xs : List (List Key × MV)}, RepT K G m vs xs → vs.length = xs.length
  | _, _, .nil => rfl
  | _, _, .cons _ h => by rw [List.length_cons, List.length_cons, h.len]
theorem RepT.look {k : List Key} : ∀ {ps : List (List Key × V)} {kvs : List (List Key × MV)}, RepT K G m ps kvs → (valV ps k = none ∧ lookT kvs k = none) ∨ ∃ v x, valV ps k = some v ∧ lookT kvs k = some x ∧ RepV K G m v x
  | [], [], _ => .inl ⟨rfl, rfl⟩
  | (k', v) :: ps, (_, x) :: kvs, .cons h h' => by
    unfold valV lookT
    rw [List.find?_cons, List.find?_cons]
    by_cases z : k' = k
    · rw [decide_eq_true z]
      exact .inr ⟨v, x, rfl, rfl, h⟩
    · rw [decide_eq_false z]
      exact RepT.look h'
theorem RepT.drop (k : List Key) : ∀ {ps : List (List Key × V)} {kvs : List (List Key × MV)}, RepT K G m ps kvs → RepT K G m (dropK ps k) (dropT kvs k)
  | _, _, .nil => .nil
  | (k', v) :: ps, (_, x) :: kvs, .cons h h' => by
    unfold dropK dropT
    rw [List.filter_cons, List.filter_cons]
    by_cases z : k' = k
    · rw [if_neg (by simp [z]), if_neg (by simp [z])]
      exact RepT.drop k h'
    · rw [if_pos (by simp [z]), if_pos (by simp [z])]
      exact .cons h (RepT.drop k h')
theorem RepT.snoc {k : List Key} {v : V} {x : MV} (r : RepV K G m v x) : ∀ {ps : List (List Key × V)} {kvs : List (List Key × MV)}, RepT K G m ps kvs → RepT K G m (ps ++ [(k, v)]) (kvs ++ [(k, x)])
  | _, _, .nil => .cons r .nil
  | _, _, .cons h h' => .cons h (RepT.snoc r h')
theorem look_any {kvs : List (List Key × MV)} {k : List Key} (h : lookT kvs k = none) : (kvs.any fun kv => decide (kv.1 = k)) = false := by
  unfold lookT at h
  rw [Option.map_eq_none_iff, List.find?_eq_none] at h
  rw [List.any_eq_false]
  exact h
theorem val_any {kvs : List (List Key × V)} {k : List Key} (h : valV kvs k = none) : (kvs.any fun kv => decide (kv.1 = k)) = false := by
  unfold valV at h
  rw [Option.map_eq_none_iff, List.find?_eq_none] at h
  rw [List.any_eq_false]
  exact h
theorem RepT.put {k : List Key} {v : V} {x : MV} {ps : List (List Key × V)} {kvs : List (List Key × MV)} (r : RepV K G m v x) (h : RepT K G m ps kvs) (h1 : valV ps k = none) (h2 : lookT kvs k = none) : RepT K G m (putK ps k v) (putT kvs k x) := by
  unfold putK putT
  rw [look_any h2, val_any h1]
  exact h.snoc r
end
/-! ### cells -/
def RepC (K : PySem.W.Frag) (G : Hp) (m : List Addr) (H : Hp) (a : Addr) : Cell → Prop
  | .lst xs => ∃ vs, H a = some (.lst vs) ∧ RepL K G m vs xs
  | .ins c fs => ∃ dx gs, H a = some (.ins (He.ga K c) dx gs) ∧ RepF K G m gs fs
  | .dct kvs => ∃ ps, H a = some (.dT ps) ∧ RepT K G m ps kvs
structure Sim (K : PySem.W.Frag) (O m : List Addr) (M : Mem) (H : Hp) : Prop where
  len : m.length = M.length
  nd : m.Nodup
  dis : ∀ a ∈ m, a ∉ O
  cel : ∀ (i : Nat) (c : Cell), M[i]? = some c → ∃ a, m[i]? = some a ∧ RepC K (hide H (O ++ m)) m H a c
  otr : ∀ a ∈ O, H a ≠ none
abbrev gr (O m : List Addr) (H : Hp) : Hp := hide H (O ++ m)
def EnvR (K : PySem.W.Frag) (G : Hp) (m : List Addr) (s : St) (r : Rho) : Prop := s.length = r.length ∧ ∀ (i : Nat) (x : MV), r[i]? = some (some x) → ∃ v, s[i]? = some (some v) ∧ RepV K G m v x
/-- from one heap to a later one: what is no cell stays -/
structure Ext (m : List Addr) (H : Hp) (m' : List Addr) (H' : Hp) : Prop where
  pre : m <+: m'
  keep : ∀ a o, a ∉ m → H a = some o → H' a = some o
  new : ∀ a ∈ m', a ∈ m ∨ H a = none
  there : ∀ a o, H a = some o → ∃ o', H' a = some o'
section
variable {K : PySem.W.Frag} {O m m' m'' : List Addr} {M M' : Mem} {H H' H'' : Hp} {s : St} {r : Rho}
theorem Ext.refl : Ext m H m H := ⟨List.prefix_refl m, fun _ _ _ h => h, fun _ h => .inl h, fun _ o h => ⟨o, h⟩⟩
theorem pre_mem {a : Addr} (p : m <+: m') (h : a ∈ m) : a ∈ m' := by
  obtain ⟨t, rfl⟩ := p
  exact List.mem_append_left _ h
theorem Ext.trans (a : Ext m H m' H') (b : Ext m' H' m'' H'') : Ext m H m'' H'' := by
  refine ⟨a.pre.trans b.pre, fun c o hc h => ?_, fun c hc => ?_, fun c o h => ?_⟩
  · refine b.keep c o (fun z => ?_) (a.keep c o hc h)
    rcases a.new c z with z | z
    · exact hc z
    · rw [z] at h; cases h
  · rcases b.new c hc with z | z
    · exact a.new c z
    · by_cases hm : c ∈ m
      · exact .inl hm
      · refine .inr ?_
        cases q : H c with
        | none => rfl
        | some o => rw [a.keep c o hm q] at z; cases z
  · obtain ⟨o', h'⟩ := a.there c o h
    exact b.there c o' h'
theorem Ext.sub (e : Ext m H m' H') : Same (gr O m H) (gr O m' H') := fun a o h => by
  obtain ⟨hn, h⟩ := of_hide h
  have h1 : a ∉ m := fun z => hn (List.mem_append_right _ z)
  show hide _ _ _ = _
  rw [hide_of]
  · exact e.keep a o h1 h
  · intro z
    rcases List.mem_append.mp z with z | z
    · exact hn (List.mem_append_left _ z)
    · rcases e.new a z with z | z
      · exact h1 z
      · rw [z] at h; cases h
theorem RepV.ext {v : V} {x : MV} (e : Ext m H m' H') (h : RepV K (gr O m H) m v x) : RepV K (gr O m' H') m' v x := h.mono e.sub e.pre
theorem RepL.ext {v : List V} {x : List MV} (e : Ext m H m' H') (h : RepL K (gr O m H) m v x) : RepL K (gr O m' H') m' v x := h.mono e.sub e.pre
theorem EnvR.ext (e : Ext m H m' H') (h : EnvR K (gr O m H) m s r) : EnvR K (gr O m' H') m' s r := ⟨h.1, fun i x q => by
  obtain ⟨v, h1, h2⟩ := h.2 i x q
  exact ⟨v, h1, h2.ext e⟩⟩
theorem EnvR.set {i : Nat} {v : V} {x : MV} {G : Hp} (h : EnvR K G m s r) (q : RepV K G m v x) : EnvR K G m (s.set i (some v)) (r.set i (some x)) := by
  refine ⟨by rw [List.length_set, List.length_set, h.1], fun j y e => ?_⟩
  rw [List.getElem?_set] at e ⊢
  by_cases hij : i = j
  · subst hij
    rw [if_pos rfl] at e ⊢
    by_cases hl : i < r.length
    · rw [if_pos hl] at e
      have e' := Option.some.inj (Option.some.inj e)
      subst e'
      rw [h.1, if_pos hl]
      exact ⟨v, rfl, q⟩
    · rw [if_neg hl] at e; cases e
  · rw [if_neg hij] at e ⊢
    exact h.2 j y e
theorem EnvR.unset {i : Nat} {G : Hp} (h : EnvR K G m s r) : EnvR K G m (s.set i none) (r.set i none) := by
  refine ⟨by rw [List.length_set, List.length_set, h.1], fun j y e => ?_⟩
  rw [List.getElem?_set] at e ⊢
  by_cases hij : i = j
  · subst hij
    rw [if_pos rfl] at e
    split at e
    · cases e
    · cases e
  · rw [if_neg hij] at e ⊢
    exact h.2 j y e
theorem EnvR.wipe {G : Hp} (h : EnvR K G m s r) : ∀ vs : List Nat, EnvR K G m (L2.wipe s vs) (wipeR r vs)
  | [] => h
  | v :: vs => (h.wipe vs).unset
theorem gr_upd {p : Addr} {o : HO} (hn : H p = none) (hm : p ∉ m) (ho : ∀ a ∈ O, H a ≠ none) : gr O m (upd H p o) p = some o := by
  show hide _ _ _ = _
  rw [hide_of, upd_same]
  intro z
  rcases List.mem_append.mp z with z | z
  · exact ho p z hn
  · exact hm z
theorem Sim.tracked (S : Sim K O m M H) {a : Addr} (h : a ∈ m) : ∃ o, H a = some o := by
  obtain ⟨i, hi⟩ := List.getElem?_of_mem h
  have hl : i < M.length := by rw [← S.len]; exact (List.getElem?_eq_some_iff.mp hi).1
  obtain ⟨b, h1, h2⟩ := S.cel i _ (List.getElem?_eq_getElem hl)
  rw [hi] at h1
  cases h1
  cases q : M[i] with
  | lst xs => rw [q] at h2; obtain ⟨vs, e, _⟩ := h2; exact ⟨_, e⟩
  | ins c fs => rw [q] at h2; obtain ⟨dx, gs, e, _⟩ := h2; exact ⟨_, e⟩
  | dct kvs => rw [q] at h2; obtain ⟨ps, e, _⟩ := h2; exact ⟨_, e⟩
theorem Sim.fresh (S : Sim K O m M H) {p : Addr} (hn : H p = none) : p ∉ m := fun z => by
  obtain ⟨o, e⟩ := S.tracked z
  rw [hn] at e; cases e
theorem Ext.alloc (S : Sim K O m M H) {p : Addr} {o : HO} (hn : H p = none) : Ext m H m (upd H p o) :=
  ⟨List.prefix_refl m, fun a u _ h => by rw [upd_ne (ne_of_none h hn)]; exact h, fun _ h => .inl h, fun a u h => ⟨u, by rw [upd_ne (ne_of_none h hn)]; exact h⟩⟩
/-- a heap in which the cells are as they were, and all else stays -/
theorem Sim.keep (S : Sim K O m M H) (e : Ext m H m H') (hc : ∀ a ∈ m, H' a = H a) : Sim K O m M H' := by
  refine ⟨S.len, S.nd, S.dis, fun i c q => ?_, fun a ha z => ?_⟩
  · obtain ⟨a, h1, h2⟩ := S.cel i c q
    have ha : H' a = H a := hc a (List.mem_of_getElem? h1)
    refine ⟨a, h1, ?_⟩
    cases c with
    | lst xs =>
      obtain ⟨vs, e1, e2⟩ := h2
      exact ⟨vs, by rw [ha]; exact e1, e2.ext e⟩
    | ins c fs =>
      obtain ⟨dx, gs, e1, e2⟩ := h2
      exact ⟨dx, gs, by rw [ha]; exact e1, e2.mono e.sub e.pre⟩
    | dct kvs =>
      obtain ⟨ps, e1, e2⟩ := h2
      exact ⟨ps, by rw [ha]; exact e1, e2.mono e.sub e.pre⟩
  · cases q : H a with
    | none => exact S.otr a ha q
    | some o =>
      obtain ⟨o', h'⟩ := e.there a o q
      rw [z] at h'; cases h'
theorem Sim.alloc (S : Sim K O m M H) {p : Addr} {o : HO} (hn : H p = none) : Sim K O m M (upd H p o) := S.keep (Ext.alloc S hn) fun a ha => by
  obtain ⟨u, e⟩ := S.tracked ha
  exact upd_ne (ne_of_none e hn)
/-- a new cell -/
theorem Ext.cell (S : Sim K O m M H) {p : Addr} {o : HO} (hn : H p = none) : Ext m H (m ++ [p]) (upd H p o) :=
  ⟨List.prefix_append m [p], fun a u _ h => by rw [upd_ne (ne_of_none h hn)]; exact h, fun a h => by
    rcases List.mem_append.mp h with h | h
    · exact .inl h
    · rw [List.mem_singleton.mp h]; exact .inr hn, fun a u h => ⟨u, by rw [upd_ne (ne_of_none h hn)]; exact h⟩⟩
theorem Sim.otr' (S : Sim K O m M H) (e : Ext m H m' H') : ∀ a ∈ O, H' a ≠ none := fun a ha z => by
  cases q : H a with
  | none => exact S.otr a ha q
  | some o =>
    obtain ⟨o', h'⟩ := e.there a o q
    rw [z] at h'; cases h'
theorem RepC.step {a : Addr} {c : Cell} (e : Same (gr O m H) (gr O m' H')) (p : m <+: m') (ha : H' a = H a) (h : RepC K (gr O m H) m H a c) : RepC K (gr O m' H') m' H' a c := by
  cases c with
  | lst xs =>
    obtain ⟨vs, e1, e2⟩ := h
    exact ⟨vs, by rw [ha]; exact e1, e2.mono e p⟩
  | ins c fs =>
    obtain ⟨dx, gs, e1, e2⟩ := h
    exact ⟨dx, gs, by rw [ha]; exact e1, e2.mono e p⟩
  | dct kvs =>
    obtain ⟨ps, e1, e2⟩ := h
    exact ⟨ps, by rw [ha]; exact e1, e2.mono e p⟩
theorem Sim.cell (S : Sim K O m M H) {p : Addr} {o : HO} {c : Cell} (hn : H p = none) (hc : RepC K (gr O (m ++ [p]) (upd H p o)) (m ++ [p]) (upd H p o) p c) : Sim K O (m ++ [p]) (M ++ [c]) (upd H p o) := by
  have e := Ext.cell (o := o) S hn
  refine ⟨by simp [S.len], ?_, fun a ha => ?_, fun i d q => ?_, S.otr' e⟩
  · refine List.nodup_append.mpr ⟨S.nd, by simp, fun a ha b hb => ?_⟩
    rw [List.mem_singleton.mp hb]
    exact fun z => S.fresh hn (z ▸ ha)
  · rcases List.mem_append.mp ha with ha | ha
    · exact S.dis a ha
    · rw [List.mem_singleton.mp ha]
      exact fun z => S.otr p z hn
  · by_cases hi : i < M.length
    · rw [List.getElem?_append_left hi] at q
      obtain ⟨a, h1, h2⟩ := S.cel i d q
      obtain ⟨u, eu⟩ := S.tracked (List.mem_of_getElem? h1)
      exact ⟨a, pre_get e.pre h1, h2.step e.sub e.pre (upd_ne (ne_of_none eu hn))⟩
    · have hl : M.length ≤ i := Nat.le_of_not_lt hi
      rw [List.getElem?_append_right hl] at q
      have hz : i - M.length = 0 := by
        cases z : i - M.length with
        | zero => rfl
        | succ k => rw [z] at q; simp at q
      rw [hz] at q
      have q' : c = d := Option.some.inj q
      subst q'
      refine ⟨p, ?_, hc⟩
      have hi' : i = m.length := by rw [S.len]; omega
      rw [hi', List.getElem?_append_right (Nat.le_refl _), Nat.sub_self]
      rfl
/-- a cell changed -/
theorem Ext.write {n : Nat} {a : Addr} {o : HO} (ha : m[n]? = some a) : Ext m H m (upd H a o) :=
  ⟨List.prefix_refl m, fun b u hb h => by rw [upd_ne (fun z => hb (by rw [z]; exact List.mem_of_getElem? ha))]; exact h, fun _ h => .inl h, fun b u h => by
    by_cases z : b = a
    · exact ⟨o, by rw [z, upd_same]⟩
    · exact ⟨u, by rw [upd_ne z]; exact h⟩⟩
theorem Sim.write (S : Sim K O m M H) {n : Nat} {a : Addr} {o : HO} {c : Cell} (ha : m[n]? = some a) (hc : RepC K (gr O m (upd H a o)) m (upd H a o) a c) : Sim K O m (M.set n c) (upd H a o) := by
  have e : Ext m H m (upd H a o) := Ext.write ha
  refine ⟨by rw [List.length_set]; exact S.len, S.nd, S.dis, fun i d q => ?_, S.otr' e⟩
  rw [List.getElem?_set] at q
  by_cases hi : n = i
  · subst hi
    rw [if_pos rfl] at q
    split at q
    · have q' := Option.some.inj q
      subst q'
      exact ⟨a, ha, hc⟩
    · cases q
  · rw [if_neg hi] at q
    obtain ⟨b, h1, h2⟩ := S.cel i d q
    refine ⟨b, h1, h2.step e.sub e.pre (upd_ne fun z => hi ?_)⟩
    subst z
    exact nd_ix S.nd ha h1
theorem gr_write {a : Addr} {o : HO} (ha : a ∈ m) : gr O m (upd H a o) = gr O m H := by
  funext b
  show hide _ _ _ = hide _ _ _
  unfold hide
  split
  · rfl
  · rename_i hb
    exact upd_ne fun z => hb (List.mem_append_right _ (z ▸ ha))
end
end Mini

set_option Elab.async false
set_option linter.all false
set_option maxRecDepth 100000
set_option maxHeartbeats 2000000
/-! MiS: str(t) of a tuple of flat values and tuples: some text of at most so many signs, whatever is under way. -/
namespace Mini
open PySem
section
variable {prog : Program} {w : World} {h₀ : Heap}
/-- repr of x: some text of at most L signs -/
def RepLe (prog : Program) (w : World) (h₀ : Heap) (d : Nat) (x : Value) (L : Nat) : Prop :=
  ∀ (b : Nat), b + L ≤ sizeLine → ∀ (A : Around) (E : Value → Shared → Prop) (s : Shared) (Q : Str → Shared → Prop), A.units + d < cLine → (∀ c o, h₀.get? c = some o → s.heap.get? c = some o) →
    (∀ t tk, t.length ≤ L → Q t { s with toks := tk }) → wpAny (model prog w) A (pyReprUnder b x) Q E s
inductive RepAllLe (prog : Program) (w : World) (h₀ : Heap) (d : Nat) : List Value → List Nat → Prop
  | nil : RepAllLe prog w h₀ d [] []
  | cons {x : Value} {L : Nat} {l : List Value} {Ls : List Nat} : RepLe prog w h₀ d x L → RepAllLe prog w h₀ d l Ls → RepAllLe prog w h₀ d (x :: l) (L :: Ls)
theorem repLe_int {d : Nat} {i : Int} {t : Tok} (h : i.natAbs.log2 < 1920) : RepLe prog w h₀ d (.int i t) (Str.ofString (toString i)).length := by
  intro b hb A E s Q hu hk hQ
  rw [pyReprUnder_leaf (by omega) (fun a z => by cases z)]
  unfold pyRepr
  exact wpAny_bind (pyReprObj_int h (wpAny_pure (hQ _ _ (Nat.le_refl _))))
theorem repLe_str {d : Nat} {x : Str} {t : Tok} : RepLe prog w h₀ d (.str x t) (reprText x).length := by
  intro b hb A E s Q hu hk hQ
  rw [pyReprUnder_leaf (by omega) (fun a z => by cases z)]
  unfold pyRepr
  exact wpAny_bind (pyReprObj_str (wpAny_pure (hQ _ _ (Nat.le_refl _))) (by omega))
theorem tupFoldLe {A : Around} {E : Value → Shared → Prop} {d : Nat} (hu : A.units + d < cLine) : ∀ (l : List Value) (Ls : List Nat) (acc : Array Str) (n : Nat) (s : Shared) (Q : (Array Str × Nat) → Shared → Prop), RepAllLe prog w h₀ d l Ls → n + pileL Ls ≤ sizeLine → (∀ c o, h₀.get? c = some o → s.heap.get? c = some o) →
    (∀ (ts : List Str) (n' tk : Nat), ts.length = l.length → piled ts ≤ pileL Ls → Q ⟨acc ++ ts.toArray, n'⟩ { s with toks := tk }) → wpAny (model prog w) A (forIn l (⟨acc, n⟩ : (Array Str × Nat)) tupBody) Q E s := by
  intro l
  induction l with
  | nil =>
    intro Ls acc n s Q hT hn hk h
    cases hT
    have h0 := h [] n s.toks rfl (Nat.le_refl _)
    simp only [List.forIn_nil]
    exact wpAny_pure (by simpa using h0)
  | cons x l ih =>
    intro Ls acc n s Q hT hn hk h
    cases hT with
    | cons hx hl =>
      rename_i L Ls'
      have e : pileL (L :: Ls') = (L + 2) + pileL Ls' := by simp [pileL]
      rw [e] at hn
      rw [List.forIn_cons]
      refine wpAny_bind (wpAny_bind (hx (n + 1) (by omega) _ _ _ _ hu hk fun t tk ht => wpAny_pure ?_))
      refine ih Ls' (acc.push t) (n + (t.length + 2)) _ Q hl (by omega) hk fun ts n' tk' hl2 hp => ?_
      have h1 := h (t :: ts) n' tk' (by simp [hl2]) (by rw [piled_cons, e]; omega)
      simpa using h1
theorem tupRestLe {A : Around} {E : Value → Shared → Prop} {d n b : Nat} {s : Shared} {a : Addr} {o : Obj} {items : Array Value} {Ls : List Nat} {Q : Fin → Shared → Prop} (hu : A.units + d < cLine) (ha : h₀.get? a = some o) (hd : o.data = .seq items n) (hk : ∀ c o, h₀.get? c = some o → s.heap.get? c = some o)
    (hT : RepAllLe prog w h₀ d items.toList Ls) (h : ∀ t u tk, t.length ≤ pileL Ls + 7 → Q (.done (.ret (.str t u))) { s with toks := tk }) (hsz : b + (pileL Ls + 7) ≤ sizeLine) :
    wpAny (model prog w) A (tupleReprRest b (.ref a)) Q E s := by
  unfold tupleReprRest Builtin.Tuple.tupleItemsOf
  refine wpAny_bind (wpAny_bind (wpAny_seqItems (hk _ _ ha) hd (wpAny_pure ?_)))
  rw [← Array.forIn_toList]
  refine wpAny_bind (tupFoldLe hu _ Ls _ _ _ _ hT (by omega) hk fun ts n' tk hl hp => ?_)
  have hb : ((("(" : Str) ++ Str.join ", " (#[] ++ ts.toArray).toList ++ (if items.size == 1 then ",)" else ")" : String)) : Str).length ≤ pileL Ls + 7 := by
    rw [strLen_append, strLen_append]
    have e1 : ((("(" : String) : Str)).length = 1 := rfl
    have e3 : (((if items.size == 1 then ",)" else ")" : String) : Str)).length ≤ 2 := by split <;> decide
    rw [e1]
    have e4 : (#[] ++ ts.toArray).toList = ts := by simp
    rw [e4]
    by_cases h : ts = []
    · subst h
      have : (Str.join ", " ([] : List Str)).length = 0 := rfl
      omega
    · have := join_length_add ts h
      omega
  exact wpAny_bind (wpAny_mkStr (wpAny_pure (h _ _ _ hb)) (Nat.le_trans hb (by omega)))
theorem way5 : ("(...)" : Str).length ≤ 7 := by decide +kernel
theorem tupAtLe {A : Around} {E : Value → Shared → Prop} {d n b : Nat} {s : Shared} {a : Addr} {o : Obj} {items : Array Value} {Ls : List Nat} {Q : Fin → Shared → Prop} (hu : A.units + d < cLine) (ha : h₀.get? a = some o) (hd : o.data = .seq items n) (hk : ∀ c o, h₀.get? c = some o → s.heap.get? c = some o)
    (hT : RepAllLe prog w h₀ d items.toList Ls) (h : ∀ t u tk, t.length ≤ pileL Ls + 7 → Q (.done (.ret (.str t u))) { s with toks := tk }) (hsz : b + (pileL Ls + 7) ≤ sizeLine) :
    wpAny (model prog w) A (Builtin.tupleReprAt b ⟨[.ref a], []⟩) Q E s := by
  rw [tuple_repr_tree]
  refine wpAny_bind (fmt_underWay fun k => ?_)
  cases k with
  | true =>
    refine PySem.W.KFB.if_so rfl ?_
    refine wpAny_bind (wpAny_rule ?_)
    exact wpAny_bind (wpAny_mkStr (wpAny_pure (h _ _ _ (Nat.le_trans way5 (Nat.le_add_left _ _)))) (by decide +kernel))
  | false =>
    refine PySem.W.KFB.if_not rfl ?_
    exact tupRestLe hu ha hd hk hT h hsz
theorem repLe_tup {d n : Nat} {a : Addr} {o : Obj} {items : Array Value} {Ls : List Nat} (ha : h₀.get? a = some o) (hc : o.cls = .type "tuple") (hd : o.data = .seq items n) (hT : RepAllLe prog w h₀ d items.toList Ls) : RepLe prog w h₀ (d + 1) (.ref a) (pileL Ls + 7) := by
  intro b hb A E s Q hu hk hQ
  refine wpAny_pyReprUnder_ref (by omega) (wpAny_pyReprObjUnder_twin (twin := "tuple.__repr__.under") ⟨o, hk _ _ ha, hc⟩ F.slot_tuple_repr rfl (by omega) ?_)
  refine call_twin_own (F.quiet_tuple_repr_under _) F.entry_tuple_repr_under F.check_tuple_repr_under ⟨o, hk _ _ ha, hc⟩ F.slot_tuple_repr (F.args_tuple_repr_1 _) (wpOwn_of_wpAny ?_)
  refine tupAtLe (d := d) ?_ ha hd hk hT (fun t u tk ht => ?_) (by omega)
  · rw [units_under_tuple_repr_under]
    omega
  · exact ⟨⟨_, _, rfl⟩, t, u, rfl, hQ t tk ht⟩
/-- str(t) -/
theorem strLe_tup {A : Around} {E : Value → Shared → Prop} {d n : Nat} {s : Shared} {a : Addr} {o : Obj} {items : Array Value} {Ls : List Nat} {Q : Value → Shared → Prop} (hu : A.units + (d + 4) < cLine) (ha : s.heap.get? a = some o) (hc : o.cls = .type "tuple") (hd : o.data = .seq items n) (hT : ∀ prog w, RepAllLe prog w s.heap d items.toList Ls)
    (hsz : pileL Ls + 7 ≤ sizeLine) (h : ∀ t u tk, t.length ≤ pileL Ls + 7 → Q (.str t u) { s with toks := tk }) : wpAny (model prog w) A (call (.type "str") [.ref a]) Q E s := by
  refine callType_new F.called_str (by decide) (F.typeCall_str_1 _) (F.newCall_str_1 _) (fun obj => F.args_object_init_2 obj _) F.entry_str_new
    (meets_str_new (S := fun A' R s' => A'.units + (d + 3) < cLine ∧ s' = s ∧ ∀ t u tk, t.length ≤ pileL Ls + 7 → R (.ok (.ret (.str t u))) { s' with toks := tk }) fun prog' w' A' R s' hh => ?_) ⟨by show A.units + 1 + (d + 3) < cLine; omega, rfl, fun t u tk ht => ⟨typeIs_str _ _ _, h t u tk ht⟩⟩
  obtain ⟨hu', rfl, hR⟩ := hh
  refine wpAny_strOf_slot rfl (by show A'.units + 1 + 1 < cLine; omega) ⟨o, ha, hc⟩ F.slot_tuple_str F.slot_tuple_repr ?_
  refine wpAny_call (codeAny_call_builtin_own (Code.quiet_builtin _ (by decide +kernel)) F.entry_tuple_repr (F.slot_tuple_repr.check _ _ _ _ _ _ _ _ ⟨o, ha, hc⟩ (F.args_tuple_repr_1 _) (wpOwn_of_wpAny ?_)))
  refine tupAtLe (b := 0) (d := d) ?_ ha hd (fun _ _ z => z) (hT prog' w') (fun t u tk ht => ⟨t, u, rfl, hR t u tk ht⟩) (by omega)
  rw [units_under_tuple_repr]
  show A'.units + 1 + 1 + 1 + d < cLine
  omega
end
end Mini

set_option Elab.async false
set_option linter.all false
set_option maxRecDepth 100000
set_option maxHeartbeats 1000000
/-! MiC: the operations on values are those of the model. -/
namespace Mini
open PySem L2

/-- behind an operation that changes no cell -/
def Fin (K : PySem.W.Frag) (O m : List Addr) (M : Mem) (H : Hp) (z : MV) (Q : VK) : Prop := ∀ u H', Ext m H m H' → Sim K O m M H' → RepV K (gr O m H') m u z → Q u H'
def rV2 (K : PySem.W.Frag) (f : Mem → MV → MV → Option MV) : R2 := fun v w H Q => ∃ O m M x y z, Sim K O m M H ∧ RepV K (gr O m H) m v x ∧ RepV K (gr O m H) m w y ∧ f M x y = some z ∧ Fin K O m M H z Q
def rV1 (K : PySem.W.Frag) (f : Mem → MV → Option MV) : V → Hp → VK → Prop := fun v H Q => ∃ O m M x z, Sim K O m M H ∧ RepV K (gr O m H) m v x ∧ f M x = some z ∧ Fin K O m M H z Q
def rVL (K : PySem.W.Frag) (f : Mem → List MV → Option MV) : List V → Hp → VK → Prop := fun vs H Q => ∃ O m M xs z, Sim K O m M H ∧ RepL K (gr O m H) m vs xs ∧ f M xs = some z ∧ Fin K O m M H z Q
section
variable {K : PySem.W.Frag} {O m : List Addr} {M : Mem} {H : Hp} {v w : V} {x y z : MV} {Q : VK}
theorem Fin.here (h : Fin K O m M H z Q) (S : Sim K O m M H) (r : RepV K (gr O m H) m v z) : Q v H := h v H Ext.refl S r
theorem Fin.new {p : Addr} {o : HO} (h : Fin K O m M H z Q) (S : Sim K O m M H) (hn : H p = none) (r : RepV K (gr O m (upd H p o)) m (.ref p) z) : Q (.ref p) (upd H p o) := h _ _ (Ext.alloc S hn) (S.alloc hn) r
theorem Fin.tup {p : Addr} {vs : List V} {xs : List MV} (h : Fin K O m M H (.tup xs) Q) (S : Sim K O m M H) (hn : H p = none) (r : RepL K (gr O m H) m vs xs) : Q (.ref p) (upd H p (.tup vs)) :=
  h.new S hn (.tup (gr_upd hn (S.fresh hn) S.otr) (r.ext (Ext.alloc S hn)))
theorem Fin.lst {p : Addr} {vs : List V} {xs : List MV} (h : Fin K O m M H (.lst xs) Q) (S : Sim K O m M H) (hn : H p = none) (r : RepL K (gr O m H) m vs xs) : Q (.ref p) (upd H p (.lst vs)) :=
  h.new S hn (.lst (gr_upd hn (S.fresh hn) S.otr) (r.ext (Ext.alloc S hn)))
theorem tup_of {xs : List MV} (r : RepV K (gr O m H) m v (.tup xs)) : ∃ a vs, v = .ref a ∧ SqT K H a vs ∧ RepL K (gr O m H) m vs xs := by
  cases r with
  | tup h1 h2 => exact ⟨_, _, rfl, .inl (.inl (hide_same _ _ h1)), h2⟩
theorem tup_at {xs : List MV} (r : RepV K (gr O m H) m v (.tup xs)) : ∃ a vs, v = .ref a ∧ H a = some (.tup vs) ∧ RepL K (gr O m H) m vs xs := by
  cases r with
  | tup h1 h2 => exact ⟨_, _, rfl, hide_same _ _ h1, h2⟩
theorem asL_of (S : Sim K O m M H) {xs : List MV} (r : RepV K (gr O m H) m v x) (e : asL M x = some xs) : ∃ a vs, v = .ref a ∧ H a = some (.lst vs) ∧ RepL K (gr O m H) m vs xs := by
  unfold asL at e
  cases x with
  | lst ys =>
    have e' := Option.some.inj e
    subst e'
    cases r with
    | lst h1 h2 => exact ⟨_, _, rfl, hide_same _ _ h1, h2⟩
  | ref n =>
    simp only at e
    cases q : M[n]? with
    | none => rw [q] at e; cases e
    | some c =>
      rw [q] at e
      cases c with
      | lst ys =>
        have e' := Option.some.inj e
        subst e'
        cases r with
        | ref h1 =>
          obtain ⟨a, h2, vs, h3, h4⟩ := S.cel n _ q
          rw [h1] at h2
          cases h2
          exact ⟨_, vs, rfl, h3, h4⟩
      | ins _ _ => cases e
      | dct _ => cases e
  | _ => cases e
theorem mapO_rep {f : MV → Option PyData} {K : PySem.W.Frag} {H : Hp} {G : Hp} {m : List Addr} (hf : ∀ v x d, RepV K G m v x → f x = some d → Dp K H v d) : ∀ {xs : List MV} {vs : List V} {ds : List PyData}, RepL K G m vs xs → mapO f xs = some ds → DpAll K H vs ds
  | [], [], ds, _, e => by
    cases e
    exact .nil
  | x :: xs, v :: vs, ds, .cons h h', e => by
    unfold mapO at e
    cases q : f x with
    | none => rw [q] at e; cases e
    | some d =>
      rw [q] at e
      cases q' : mapO f xs with
      | none => rw [q'] at e; cases e
      | some es =>
        rw [q'] at e
        cases e
        exact .cons (hf v x d h q) (mapO_rep hf h' q')
theorem toD_rep (S : Sim K O m M H) : ∀ (n : Nat) (v : V) (x : MV) (d : PyData), RepV K (gr O m H) m v x → toD n M x = some d → Dp K H v d
  | 0, _, _, _, _, e => by cases e
  | n + 1, v, x, d, r, e => by
    have ih := toD_rep S n
    unfold toD at e
    cases x with
    | non => cases e; cases r; exact .non
    | bl b => cases e; cases r; exact .bl b
    | int b => cases e; cases r; exact .int b
    | str b => cases e; cases r; exact .str b
    | tup xs =>
      simp only at e
      cases q : mapO (toD n M) xs with
      | none => rw [q] at e; cases e
      | some ds =>
        rw [q] at e
        cases e
        obtain ⟨a, vs, rfl, h1, h2⟩ := tup_of r
        exact .tup h1 (mapO_rep ih h2 q)
    | lst xs =>
      simp only at e
      cases q : mapO (toD n M) xs with
      | none => rw [q] at e; cases e
      | some ds =>
        rw [q] at e
        cases e
        obtain ⟨a, vs, rfl, h1, h2⟩ := asL_of S r (show asL M (.lst xs) = some xs from rfl)
        exact .lst (SqL.of h1) (mapO_rep ih h2 q)
    | ref k =>
      simp only at e
      cases qc : M[k]? with
      | none => rw [qc] at e; cases e
      | some c =>
        rw [qc] at e
        cases c with
        | ins _ _ => cases e
        | dct _ => cases e
        | lst xs =>
          simp only at e
          cases q : mapO (toD n M) xs with
          | none => rw [q] at e; cases e
          | some ds =>
            rw [q] at e
            cases e
            obtain ⟨a, vs, rfl, h1, h2⟩ := asL_of S r (show asL M (.ref k) = some xs by unfold asL; simp only [qc])
            exact .lst (SqL.of h1) (mapO_rep ih h2 q)
    | _ => cases e
theorem eqD_rep (S : Sim K O m M H) {b : Bool} (r : RepV K (gr O m H) m v x) (r' : RepV K (gr O m H) m w y) (e : eqD M x y = some b) : ∃ d d', Dp K H v d ∧ Dp K H w d' ∧ SeqAt.shaped d = true ∧ SeqAt.shaped d' = true ∧ PyData.eqv d d' = b := by
  unfold eqD at e
  cases q : toD 64 M x with
  | none => rw [q] at e; cases e
  | some d =>
    cases q' : toD 64 M y with
    | none => rw [q, q'] at e; cases e
    | some d' =>
      rw [q, q'] at e
      simp only at e
      split at e
      · rename_i hs
        obtain ⟨h1, h2⟩ := Bool.and_eq_true_iff.mp hs
        exact ⟨d, d', toD_rep S _ _ _ _ r q, toD_rep S _ _ _ _ r' q', h1, h2, Option.some.inj e⟩
      · cases e
theorem ite_some {α : Type} {c : Prop} [Decidable c] {a b : α} (h : (if c then some a else none) = some b) : c ∧ a = b := by
  split at h
  · exact ⟨by assumption, Option.some.inj h⟩
  · cases h
theorem map_some {α β : Type} {f : α → β} {o : Option α} {b : β} (h : o.map f = some b) : ∃ a, o = some a ∧ f a = b := by
  cases o with
  | none => cases h
  | some a => exact ⟨a, rfl, Option.some.inj h⟩
theorem bind_some {α β : Type} {f : α → Option β} {o : Option α} {b : β} (h : o.bind f = some b) : ∃ a, o = some a ∧ f a = some b := by
  cases o with
  | none => cases h
  | some a => exact ⟨a, rfl, h⟩
end

theorem RepL.one {K : PySem.W.Frag} {G : Hp} {m : List Addr} {vs : List V} {x : MV} (r : RepL K G m vs [x]) : ∃ v, vs = [v] ∧ RepV K G m v x := by
  cases r with
  | cons h h' =>
    cases h'
    exact ⟨_, rfl, h⟩
section
variable {X : Cx}
/-! ### binary operators -/
theorem op_addM : OpR X (binaryOp .Add) (rV2 X.K addV) := by
  intro pins s σ H v w vv ww Q I rv rz ⟨O, m, M, x, y, z, S, r1, r2, e, fin⟩
  have lists : ∀ xs ys, asL M x = some xs → asL M y = some ys → xs.length + ys.length ≤ sizeLine → z = .lst (xs ++ ys) → wpAny (model X.prog X.w) X.A (binaryOp .Add vv ww) (EP X pins σ Q) X.xe s := by
    intro xs ys h1 h2 hz ez
    subst ez
    obtain ⟨a, vs, rfl, ha, la⟩ := asL_of S r1 h1
    obtain ⟨b, ws, rfl, hb, lb⟩ := asL_of S r2 h2
    exact op_cat pins s σ H _ _ vv ww Q I rv rz ⟨a, b, vs, ws, rfl, rfl, ha, hb, by rw [la.len, lb.len]; exact hz, fun p hp => fin.lst S hp (la.append lb)⟩
  have rest : (match asL M x, asL M y with
    | some xs, some ys => if xs.length + ys.length ≤ sizeLine then some (MV.lst (xs ++ ys)) else none
    | _, _ => none) = some z → wpAny (model X.prog X.w) X.A (binaryOp .Add vv ww) (EP X pins σ Q) X.xe s := by
    intro e
    cases h1 : asL M x with
    | none => rw [h1] at e; cases e
    | some xs =>
      cases h2 : asL M y with
      | none => rw [h1, h2] at e; cases e
      | some ys =>
        rw [h1, h2] at e
        obtain ⟨hz, ez⟩ := ite_some e
        exact lists xs ys h1 h2 hz ez.symm
  unfold addV at e
  split at e
  · cases r1; cases r2
    cases e
    exact op_add pins s σ H _ _ vv ww Q I rv rz ⟨_, _, rfl, rfl, fin.here S (.int _)⟩
  · cases r1; cases r2
    obtain ⟨hz, ez⟩ := ite_some e
    subst ez
    exact op_add_str pins s σ H _ _ vv ww Q I rv rz ⟨_, _, rfl, rfl, hz, fin.here S (.str _)⟩
  · obtain ⟨hz, ez⟩ := ite_some e
    subst ez
    rename_i xs ys
    obtain ⟨a, vs, rfl, ha, la⟩ := tup_of r1
    obtain ⟨b, ws, rfl, hb, lb⟩ := tup_of r2
    refine op_catA pins s σ H _ _ vv ww Q I rv rz ⟨a, b, vs, ws, rfl, rfl, ha, hb, by rw [la.len, lb.len]; exact hz, fun h0 => ?_, fun h0 h1 => ?_, fun h0 h1 p hp => fin.tup S hp (la.append lb)⟩
    · subst h0
      cases la
      exact fin.here S r2
    · subst h1
      cases lb
      refine fin.here S ?_
      rw [List.append_nil]
      exact r1
  · cases r1
    cases r2 with
    | txt hs =>
      obtain ⟨hz, ez⟩ := ite_some e
      subst ez
      exact op_add_str pins s σ H _ _ vv ww Q I rv rz ⟨_, _, rfl, rfl, Nat.le_trans (Nat.add_le_add_left hs _) hz, fin.here S (.txt (by rw [strLen_append]; exact Nat.add_le_add_left hs _))⟩
  · cases r2
    cases r1 with
    | txt hs =>
      obtain ⟨hz, ez⟩ := ite_some e
      subst ez
      exact op_add_str pins s σ H _ _ vv ww Q I rv rz ⟨_, _, rfl, rfl, Nat.le_trans (Nat.add_le_add_right hs _) hz, fin.here S (.txt (by rw [strLen_append]; exact Nat.add_le_add_right hs _))⟩
  · exact rest e
theorem op_binM (op : Operator) : OpR X (binaryOp op) (rV2 X.K (binV op)) := by
  intro pins s σ H v w vv ww Q I rv rz h
  cases op with
  | Add => exact op_addM pins s σ H v w vv ww Q I rv rz h
  | Sub =>
    obtain ⟨O, m, M, x, y, z, S, r1, r2, e, fin⟩ := h
    simp only [binV] at e
    split at e
    · cases r1; cases r2; cases e
      exact op_sub pins s σ H _ _ vv ww Q I rv rz ⟨_, _, rfl, rfl, fin.here S (.int _)⟩
    · cases e
  | Mult =>
    obtain ⟨O, m, M, x, y, z, S, r1, r2, e, fin⟩ := h
    simp only [binV] at e
    split at e
    · obtain ⟨hz, ez⟩ := ite_some e
      subst ez
      cases r1; cases r2
      rcases hz with hz | ⟨hz0, hz1⟩
      · exact op_mulW pins s σ H _ _ vv ww Q I rv rz ⟨_, _, rfl, rfl, hz, fin.here S (.int _)⟩
      · exact op_mul pins s σ H _ _ vv ww Q I rv rz ⟨_, _, rfl, rfl, .inr ⟨by omega, by omega⟩, fin.here S (.int _)⟩
    · obtain ⟨hz, ez⟩ := ite_some e
      subst ez
      rename_i z0 j
      obtain ⟨a, vs, rfl, ha, la⟩ := asL_of S r1 (show asL M (.lst [z0]) = some [z0] from rfl)
      cases r2
      obtain ⟨u, rfl, ru⟩ := la.one
      have rr : ∀ n, RepL X.K (gr O m H) m (List.replicate n [u]).flatten (List.replicate n z0) := fun n => by
        induction n with
        | zero => exact .nil
        | succ n ih => exact .cons ru ih
      exact op_rep pins s σ H _ _ vv ww Q I rv rz ⟨a, j, [u], rfl, rfl, ha, by omega, by omega, by rw [sizeLine_eq, List.length_singleton]; omega, fun p hp => fin.lst S hp (rr _)⟩
    · cases e
  | Mod =>
    obtain ⟨O, m, M, x, y, z, S, r1, r2, e, fin⟩ := h
    simp only [binV] at e
    split at e
    · obtain ⟨hz, ez⟩ := ite_some e
      subst ez
      cases r1; cases r2
      exact op_mod pins s σ H _ _ vv ww Q I rv rz ⟨_, _, rfl, rfl, hz, fin.here S (.int _)⟩
    · cases e
  | FloorDiv =>
    obtain ⟨O, m, M, x, y, z, S, r1, r2, e, fin⟩ := h
    simp only [binV] at e
    split at e
    · obtain ⟨hz, ez⟩ := ite_some e
      subst ez
      cases r1; cases r2
      exact op_fdivW pins s σ H _ _ vv ww Q I rv rz ⟨_, _, rfl, rfl, hz, fin.here S (.int _)⟩
    · cases e
  | Pow =>
    obtain ⟨O, m, M, x, y, z, S, r1, r2, e, fin⟩ := h
    simp only [binV] at e
    split at e
    · obtain ⟨hz, ez⟩ := ite_some e
      subst ez
      cases r1; cases r2
      exact op_pow pins s σ H _ _ vv ww Q I rv rz ⟨_, _, rfl, rfl, hz, fin.here S (.int _)⟩
    · cases e
  | _ =>
    obtain ⟨O, m, M, x, y, z, S, r1, r2, e, fin⟩ := h
    cases e
/-! ### comparisons -/
theorem str_one {a : Str} (h : a.length = 1) : a = ⟨#[a.cps.getD 0 0]⟩ := by
  obtain ⟨⟨l⟩⟩ := a
  have h' : l.length = 1 := h
  match l, h' with
  | [c], _ => rfl
theorem is_non {K : PySem.W.Frag} {G : Hp} {m : List Addr} {v : V} {x : MV} (r : RepV K G m v x) : decide (v = .non) = isNon x := by
  cases r <;> rfl
theorem non_of {K : PySem.W.Frag} {G : Hp} {m : List Addr} {v : V} {x : MV} (r : RepV K G m v x) (h : isNon x = true) : v = .non := by
  cases r <;> first | rfl | cases h
theorem isB_of {x y : MV} {b : Bool} (e : isB x y = some b) : ∃ a c, x = .bl a ∧ y = .bl c ∧ decide (a = c) = b := by
  unfold isB at e
  split at e
  · exact ⟨_, _, rfl, rfl, Option.some.inj e⟩
  · cases e
theorem num_of {f : Int → Int → Bool} {x y : MV} {b : Bool} (e : numB f x y = some b) : ∃ i j, x = .int i ∧ y = .int j ∧ f i j = b := by
  unfold numB at e
  split at e
  · exact ⟨_, _, rfl, rfl, Option.some.inj e⟩
  · cases e
theorem in_cases {M : Mem} {x y : MV} {b : Bool} (e : inV2 M x y = some b) : (∃ c z, x = .str ⟨#[c]⟩ ∧ y = .str z ∧ decide (c ∈ z.cps.toList) = b) ∨ ∃ ys v vs, y = .tup ys ∧ flM x = some v ∧ mapO flM ys = some vs ∧ inV v vs = b := by
  unfold inV2 at e
  split at e
  · split at e
    · obtain ⟨hz, ez⟩ := ite_some e
      exact .inl ⟨_, _, congrArg MV.str (str_one hz), rfl, ez⟩
    · cases e
  · unfold inSq at e
    split at e
    · rename_i v vs q1 q2
      exact .inr ⟨_, v, vs, rfl, q1, q2, Option.some.inj e⟩
    · cases e
  · cases e
theorem flM_rep {G : Hp} {m : List Addr} {x : MV} {v u : V} (r : RepV K G m u x) (e : flM x = some v) : u = v ∧ flatV v = true := by
  cases r <;> first | (cases e; exact ⟨rfl, rfl⟩) | cases e
theorem flMs_rep {G : Hp} {m : List Addr} : ∀ {xs : List MV} {vs us : List V}, RepL K G m us xs → mapO flM xs = some vs → us = vs ∧ vs.all flatV = true
  | [], vs, us, r, e => by
    cases r
    obtain rfl := Option.some.inj e
    exact ⟨rfl, rfl⟩
  | x :: xs, vs, us, r, e => by
    cases r with
    | cons r1 r2 =>
      unfold mapO at e
      cases q1 : flM x with
      | none => rw [q1] at e; cases e
      | some y1 =>
        cases q2 : mapO flM xs with
        | none => rw [q1, q2] at e; cases e
        | some ys =>
          rw [q1, q2] at e
          obtain rfl := Option.some.inj e
          obtain ⟨rfl, f1⟩ := flM_rep r1 q1
          obtain ⟨rfl, f2⟩ := flMs_rep r2 q2
          exact ⟨rfl, by rw [List.all_cons, f1, f2]; rfl⟩
theorem op_cmpM (hu : X.A.units + 64 < cLine) (op : CmpOp) : OpR X (compareOp op) (rV2 X.K fun M x y => (cmpV op M x y).map .bl) := by
  intro pins s σ H v w vv ww Q I rv rz ⟨O, m, M, x, y, z, S, r1, r2, e0, fin⟩
  obtain ⟨b, e, ez⟩ := map_some e0
  clear e0
  subst ez
  have fb : ∀ k : Bool, k = b → Q (.bl k) H := fun k hk => by
    subst hk
    exact fin.here S (.bl _)
  have nums : ∀ {o : CmpOp} {f : Int → Int → Bool}, OpR X (compareOp o) (rI0 fun i j => .bl (f i j)) → numB f x y = some b → wpAny (model X.prog X.w) X.A (compareOp o vv ww) (EP X pins σ Q) X.xe s := by
    intro o f ho e
    obtain ⟨i, j, rfl, rfl, ef⟩ := num_of e
    cases r1; cases r2
    exact ho pins s σ H _ _ vv ww Q I rv rz ⟨_, _, rfl, rfl, fb _ ef⟩
  cases op with
  | Eq =>
    obtain ⟨d, d', h1, h2, h3, h4, h5⟩ := eqD_rep S r1 r2 e
    exact op_eqD hu pins s σ H _ _ vv ww Q I rv rz ⟨d, d', h1, h2, h3, h4, fb _ h5⟩
  | NotEq =>
    obtain ⟨c, e, ez⟩ := map_some e
    obtain ⟨d, d', h1, h2, h3, h4, h5⟩ := eqD_rep S r1 r2 e
    exact op_neD hu pins s σ H _ _ vv ww Q I rv rz ⟨d, d', h1, h2, h3, h4, fb _ (by rw [h5]; exact ez)⟩
  | Lt => exact nums (f := fun i j => decide (i < j)) op_lt e
  | LtE => exact nums (f := fun i j => decide (i ≤ j)) op_le e
  | Gt => exact nums (f := fun i j => decide (j < i)) op_gt e
  | GtE => exact nums (f := fun i j => decide (j ≤ i)) op_ge e
  | Is =>
    replace e : (if isNon y = true then some (isNon x) else isB x y) = some b := e
    split at e
    · rename_i hn
      exact op_isN pins s σ H _ _ vv ww Q I rv rz ⟨non_of r2 hn, fb _ (by rw [is_non r1]; exact Option.some.inj e)⟩
    · obtain ⟨a', b', rfl, rfl, ez⟩ := isB_of e
      cases r1; cases r2
      exact op_isBl pins s σ H _ _ vv ww Q I rv rz ⟨_, _, rfl, rfl, fb _ ez⟩
  | IsNot =>
    replace e : (if isNon y = true then some (!isNon x) else (isB x y).map (!·)) = some b := e
    split at e
    · rename_i hn
      exact op_notN pins s σ H _ _ vv ww Q I rv rz ⟨non_of r2 hn, fb _ (by rw [is_non r1]; exact Option.some.inj e)⟩
    · obtain ⟨c, e, ez⟩ := map_some e
      obtain ⟨a', b', rfl, rfl, ec⟩ := isB_of e
      cases r1; cases r2
      exact op_notBl pins s σ H _ _ vv ww Q I rv rz ⟨_, _, rfl, rfl, fb _ (by rw [ec]; exact ez)⟩
  | In =>
    rcases in_cases (M := M) e with ⟨c, z, rfl, rfl, ez⟩ | ⟨ys, a, as, rfl, q1, q2, ez⟩
    · cases r1; cases r2
      exact op_in_sign pins s σ H _ _ vv ww Q I rv rz ⟨_, _, rfl, rfl, fb _ ez⟩
    · obtain ⟨p, us, rfl, hq, r3⟩ := tup_of r2
      obtain ⟨rfl, f1⟩ := flM_rep r1 q1
      obtain ⟨rfl, f2⟩ := flMs_rep r3 q2
      exact op_in_seq pins s σ H _ _ vv ww Q I rv rz ⟨p, _, rfl, .inr hq, f1, f2, fb _ ez⟩
  | NotIn =>
    obtain ⟨k, e, ek⟩ := map_some e
    rcases in_cases (M := M) e with ⟨c, z, rfl, rfl, ez⟩ | ⟨ys, a, as, rfl, q1, q2, ez⟩
    · cases r1; cases r2
      exact op_notIn_sign pins s σ H _ _ vv ww Q I rv rz ⟨_, _, rfl, rfl, fb _ (by rw [ez]; exact ek)⟩
    · obtain ⟨p, us, rfl, hq, r3⟩ := tup_of r2
      obtain ⟨rfl, f1⟩ := flM_rep r1 q1
      obtain ⟨rfl, f2⟩ := flMs_rep r3 q2
      exact op_notIn_seq pins s σ H _ _ vv ww Q I rv rz ⟨p, _, rfl, .inr hq, f1, f2, fb _ (by rw [ez]; exact ek)⟩
/-! ### subscripts -/
theorem atI_rep {K : PySem.W.Frag} {G : Hp} {m : List Addr} {vs : List V} {xs : List MV} {i : Int} {x : MV} (r : RepL K G m vs xs) (e : atI xs i = some x) : ∃ v, atI vs i = some v ∧ RepV K G m v x := by
  unfold atI at e ⊢
  obtain ⟨j, h1, h2⟩ := bind_some e
  obtain ⟨v, h3, h4⟩ := r.get h2
  exact ⟨v, by rw [r.len, h1]; exact h3, h4⟩
/-- what the module's dicts say -/
def KdOk (K : PySem.W.Frag) (w : World) (kd : Str → Option (List (Str × MV))) : Prop := ∀ d kvs k x, kd d = some kvs → kvs.lookup k = some x → ∃ v, KDct K w (He.ga K d) k v ∧ ∀ G m, RepV K G m v x
theorem ix_M {kd : Str → Option (List (Str × MV))} (hk : KdOk X.K X.w kd) : IxR X (rV2 X.K fun M x y => idxV M kd x y) := by
  intro value slice pins s σ H v w vv ww Q I rv rz ⟨O, m, M, x, y, z, S, r1, r2, e, fin⟩ hs
  simp only [idxV] at e
  split at e
  · obtain ⟨a, vs, rfl, ha, la⟩ := tup_of r1
    cases r2
    obtain ⟨u, h1, h2⟩ := atI_rep la e
    exact ix_tup value slice pins s σ H _ _ vv ww Q I rv rz ⟨a, vs, _, u, rfl, rfl, ha, h1, fin.here S h2⟩ hs
  · split at e
    · rename_i hz
      obtain ⟨c, h1, h2⟩ := map_some e
      subst h2
      cases r1; cases r2
      exact ix_str value slice pins s σ H _ _ vv ww Q I rv rz ⟨_, _, c, rfl, rfl, hz, h1, fin.here S (.str _)⟩ hs
    · cases e
  · obtain ⟨c, h1, h2⟩ := map_some e
    subst h2
    cases r1 with
    | scr hl =>
      cases r2
      refine ix_list value slice pins s σ H _ _ vv ww Q I rv rz ⟨_, _, _, .int c, rfl, rfl, hide_same.seq hl, ?_, fin.here S (.int _)⟩ hs
      unfold atI at h1 ⊢
      obtain ⟨j, q1, q2⟩ := bind_some h1
      rw [List.length_map, q1]
      show (List.map V.int _)[j]? = _
      rw [List.getElem?_map, q2]
      rfl
  · obtain ⟨kvs, h1, h2⟩ := bind_some e
    obtain ⟨u, h3, h4⟩ := hk _ _ _ _ h1 h2
    cases r1; cases r2
    exact ix_kdict value slice pins s σ H _ _ vv ww Q I rv rz ⟨_, _, u, rfl, rfl, h3, fin.here S (h4 _ _)⟩ hs
  · obtain ⟨xs, h1, h2⟩ := bind_some e
    obtain ⟨a, vs, rfl, ha, la⟩ := asL_of S r1 h1
    cases r2
    obtain ⟨u, h3, h4⟩ := atI_rep la h2
    exact ix_list value slice pins s σ H _ _ vv ww Q I rv rz ⟨a, vs, _, u, rfl, rfl, SqL.of ha, h3, fin.here S h4⟩ hs
  · cases e
theorem cut_whole {α : Type} (xs : List α) (lo hi : Option Int) (h : HT.sIx xs.length 0 lo = 0 ∧ HT.sIx xs.length xs.length hi = xs.length) : cutL xs lo hi = xs := by
  unfold cutL
  rw [h.1, h.2]
  simp
def rSl (K : PySem.W.Frag) : V → Option Int → Option Int → Hp → VK → Prop := fun v lo hi H Q => ∃ O m M x z, Sim K O m M H ∧ RepV K (gr O m H) m v x ∧ slcV M x lo hi = some z ∧ Fin K O m M H z Q
theorem RepL.cut {K : PySem.W.Frag} {G : Hp} {m : List Addr} {vs : List V} {xs : List MV} (r : RepL K G m vs xs) (lo hi : Option Int) : RepL K G m (cutV vs lo hi) (cutL xs lo hi) := by
  unfold cutV cutL
  rw [r.len]
  exact (r.drop _).take _
theorem sl_M : SlR X (rSl X.K) := by
  intro pins s σ H v vv vl vu lo hi sl Q I rv hs pl pu ⟨O, m, M, x, z, S, r1, e, fin⟩
  unfold slcV at e
  split at e
  · obtain ⟨hz, ez⟩ := ite_some e
    subst ez
    cases r1
    exact sl_str pins s σ H _ vv vl vu lo hi sl Q I rv hs pl pu ⟨_, rfl, hz, fin.here S (.str _)⟩
  · have e' := Option.some.inj e
    subst e'
    rename_i xs
    obtain ⟨a, vs, rfl, ha, la⟩ := tup_of r1
    refine sl_tupA pins s σ H _ vv vl vu lo hi sl Q I rv hs pl pu ⟨a, vs, rfl, ha, fun hw => fin.here S ?_, fun _ p hp => fin.tup S hp (la.cut lo hi)⟩
    rw [la.len] at hw
    rw [cut_whole xs lo hi hw]
    exact r1
  · obtain ⟨xs, h1, h2⟩ := map_some e
    subst h2
    obtain ⟨a, vs, rfl, ha, la⟩ := asL_of S r1 h1
    exact sl_list pins s σ H _ vv vl vu lo hi sl Q I rv hs pl pu ⟨a, vs, rfl, SqL.of ha, fun p hp => fin.lst S hp (la.cut lo hi)⟩
/-! ### built-ins -/
theorem RepL.two {K : PySem.W.Frag} {G : Hp} {m : List Addr} {vs : List V} {x y : MV} (r : RepL K G m vs [x, y]) : ∃ v w, vs = [v, w] ∧ RepV K G m v x ∧ RepV K G m w y := by
  cases r with
  | cons h h' =>
    obtain ⟨w, rfl, h2⟩ := h'.one
    exact ⟨_, w, rfl, h, h2⟩
theorem lenV_rep {K : PySem.W.Frag} {O m : List Addr} {M : Mem} {H : Hp} {v : V} {x : MV} {n : Nat} (S : Sim K O m M H) (r : RepV K (gr O m H) m v x) (e : lenV M x = some n) : LenV K v H n := by
  have rest : (asL M x).map List.length = some n → LenV K v H n := fun e => by
    obtain ⟨xs, h1, h2⟩ := map_some e
    subst h2
    obtain ⟨a, vs, rfl, ha, la⟩ := asL_of S r h1
    exact .inl ⟨vs, SqL.of ha, la.len.symm⟩
  cases x with
  | str t =>
    obtain ⟨hz, ez⟩ := ite_some e
    cases r
    exact ⟨hz, ez.symm⟩
  | tup xs =>
    have e' := Option.some.inj e
    subst e'
    obtain ⟨a, vs, rfl, ha, la⟩ := tup_of r
    exact .inr ⟨vs, ha, la.len.symm⟩
  | scr ns =>
    have e' := Option.some.inj e
    subst e'
    cases r with
    | scr hl => exact .inl ⟨_, hide_same.seq hl, by rw [List.length_map]⟩
  | _ => exact rest e
theorem call_lenM : CallR X (.builtin "len") (rVL X.K (bltV .len)) := by
  intro pins s σ H vs us Q I rv ⟨O, m, M, xs, z, S, r1, e, fin⟩
  replace e : biLen M xs = some z := e
  unfold biLen at e
  split at e
  · obtain ⟨n, h1, h2⟩ := map_some e
    subst h2
    obtain ⟨v, rfl, r⟩ := r1.one
    exact call_len pins s σ H _ us Q I rv ⟨v, n, rfl, lenV_rep S r h1, fin.here S (.int _)⟩
  · cases e
theorem call_intM : CallR X (.type "int") (rVL X.K (bltV .int)) := by
  intro pins s σ H vs us Q I rv ⟨O, m, M, xs, z, S, r1, e, fin⟩
  replace e : biInt xs = some z := e
  unfold biInt at e
  split at e
  · have e' := Option.some.inj e
    subst e'
    obtain ⟨v, rfl, r⟩ := r1.one
    cases r
    exact call_int1 pins s σ H _ us Q I rv (.inl ⟨_, rfl, fin.here S (.int _)⟩)
  · have e' := Option.some.inj e
    subst e'
    obtain ⟨v, rfl, r⟩ := r1.one
    cases r
    exact call_int1 pins s σ H _ us Q I rv (.inr ⟨_, rfl, fin.here S (.int _)⟩)
  · split at e
    · obtain ⟨n, h1, h2⟩ := map_some e
      subst h2
      obtain ⟨v, rfl, r⟩ := r1.one
      cases r
      exact call_int_str pins s σ H _ us Q I rv ⟨_, n, rfl, h1, by assumption, fin.here S (.int _)⟩
    · cases e
  · cases e
mutual
theorem shw_le {X : Cx} {pins : List (Addr × Obj)} {σ : St} {H : Hp} {s : Shared} {O m : List Addr} (I : L2.Inv X pins σ H s) : ∀ (n : Nat) {x : MV} {v : V} {u : Value} {L : Nat}, RepV X.K (gr O m H) m v x → RelV v u → shw n x = some L → ∀ P w, RepLe P w s.heap n u L
  | 0, x, v, u, L, r, rv, e => by cases e
  | n + 1, x, v, u, L, r, rv, e => by
    intro P w
    unfold shw at e
    cases r with
    | int i =>
      obtain ⟨t, rfl⟩ := rv
      obtain ⟨h, rfl⟩ := ite_some e
      exact repLe_int h
    | str z =>
      obtain ⟨t, rfl⟩ := rv
      obtain rfl := Option.some.inj e
      exact repLe_str
    | @tup a vs xs hq r3 =>
      obtain ⟨Ls, q, rfl⟩ := map_some e
      obtain rfl : u = Value.ref a := rv
      obtain ⟨its, r4, ⟨o, h1, h2, k, h3⟩, _⟩ := I.tuple (.inl (.inl (hide_same _ _ hq)))
      exact repLe_tup h1 h2 h3 (shwL_le I n r3 (by simpa using r4) q P w)
    | _ => cases e
theorem shwL_le {X : Cx} {pins : List (Addr × Obj)} {σ : St} {H : Hp} {s : Shared} {O m : List Addr} (I : L2.Inv X pins σ H s) : ∀ (n : Nat) {xs : List MV} {vs : List V} {us : List Value} {Ls : List Nat}, RepL X.K (gr O m H) m vs xs → Vals vs us → mapO (shw n) xs = some Ls → ∀ P w, RepAllLe P w s.heap n us Ls
  | n, [], vs, us, Ls, r, rv, e => by
    intro P w
    cases r
    cases rv
    obtain rfl := Option.some.inj e
    exact .nil
  | n, x :: xs, vs, us, Ls, r, rv, e => by
    intro P w
    cases r with
    | cons r1 r2 =>
      cases rv with
      | cons v1 v2 =>
        unfold mapO at e
        cases q1 : shw n x with
        | none => rw [q1] at e; cases e
        | some y1 =>
          cases q2 : mapO (shw n) xs with
          | none => rw [q1, q2] at e; cases e
          | some ys =>
            rw [q1, q2] at e
            obtain rfl := Option.some.inj e
            exact .cons (shw_le I n r1 v1 q1 P w) (shwL_le I n r2 v2 q2 P w)
end
theorem call_strM (hu : X.A.units + 64 < cLine) : CallR X (.type "str") (rVL X.K (bltV .str)) := by
  intro pins s σ H vs us Q I rv ⟨O, m, M, xs, z, S, r1, e, fin⟩
  replace e : biStr xs = some z := e
  unfold biStr at e
  split at e
  · obtain ⟨hz, e'⟩ := ite_some e
    subst e'
    obtain ⟨v, rfl, r⟩ := r1.one
    cases r
    exact call_str_int pins s σ H _ us Q I rv ⟨_, rfl, hz, fin.here S (.str _)⟩
  · have e' := Option.some.inj e
    subst e'
    obtain ⟨v, rfl, r⟩ := r1.one
    cases r
    exact SkE.call_str_str pins s σ H _ us Q I rv ⟨_, rfl, fin.here S (.str _)⟩
  · obtain ⟨v, rfl, r⟩ := r1.one
    split at e
    · rename_i Ls q
      obtain ⟨hz, e'⟩ := ite_some e
      subst e'
      obtain ⟨a, vs, rfl, hq, r3⟩ := tup_of r
      obtain ⟨u, rfl, rx⟩ := vals1 rv
      obtain rfl : u = Value.ref a := rx
      obtain ⟨its, r4, ⟨o, h1, h2, n, h3⟩, _⟩ := I.tuple hq
      refine strLe_tup (d := 16) (by omega) h1 h2 h3 (fun P w => shwL_le I 16 r3 (by simpa using r4) q P w) hz fun t u tk ht => ?_
      exact ⟨.str t, H, I.tok tk, ⟨u, rfl⟩, fin.here S (.txt ht)⟩
    · cases e
  · cases e
theorem call_maxM (hc : X.calm = true) : CallR X (.builtin "max") (rVL X.K (bltV .max)) := by
  intro pins s σ H vs us Q I rv ⟨O, m, M, xs, z, S, r1, e, fin⟩
  replace e : biMax xs = some z := e
  unfold biMax at e
  split at e
  · have e' := Option.some.inj e
    subst e'
    obtain ⟨v, w, rfl, r, r'⟩ := r1.two
    cases r; cases r'
    exact call_max2 hc pins s σ H _ us Q I rv ⟨_, _, rfl, fin.here S (.int _)⟩
  · cases e
theorem call_minM (hc : X.calm = true) : CallR X (.builtin "min") (rVL X.K (bltV .min)) := by
  intro pins s σ H vs us Q I rv ⟨O, m, M, xs, z, S, r1, e, fin⟩
  replace e : biMin xs = some z := e
  unfold biMin at e
  split at e
  · have e' := Option.some.inj e
    subst e'
    obtain ⟨v, w, rfl, r, r'⟩ := r1.two
    cases r; cases r'
    exact call_min2 hc pins s σ H _ us Q I rv ⟨_, _, rfl, fin.here S (.int _)⟩
  · cases e
theorem call_tupleM : CallR X (.type "tuple") (rVL X.K (bltV .tuple)) := by
  intro pins s σ H vs us Q I rv ⟨O, m, M, xs, z, S, r1, e, fin⟩
  replace e : biTup M xs = some z := e
  unfold biTup at e
  split at e
  · have e' := Option.some.inj e
    subst e'
    obtain ⟨v, rfl, r⟩ := r1.one
    obtain ⟨a, ws, rfl, ha, la⟩ := tup_of r
    exact call_tuple_of pins s σ H _ us Q I rv ⟨a, ws, rfl, .inr ⟨ha, fin.here S r⟩⟩
  · obtain ⟨ys, h1, h2⟩ := map_some e
    subst h2
    obtain ⟨v, rfl, r⟩ := r1.one
    obtain ⟨a, ws, rfl, ha, la⟩ := asL_of S r h1
    exact call_tuple_of pins s σ H _ us Q I rv ⟨a, ws, rfl, .inl ⟨SqL.of ha, fun l hl => fin.tup S hl la⟩⟩
  · cases e
theorem call_listM : CallR X (.type "list") (rVL X.K (bltV .list)) := by
  intro pins s σ H vs us Q I rv ⟨O, m, M, xs, z, S, r1, e, fin⟩
  replace e : biLst M xs = some z := e
  unfold biLst at e
  split at e
  · have e' := Option.some.inj e
    subst e'
    obtain ⟨v, rfl, r⟩ := r1.one
    obtain ⟨a, ws, rfl, ha, la⟩ := tup_of r
    exact call_list_of pins s σ H _ us Q I rv ⟨a, ws, rfl, .inr ha, fun l hl => fin.lst S hl la⟩
  · obtain ⟨ys, h1, h2⟩ := map_some e
    subst h2
    obtain ⟨v, rfl, r⟩ := r1.one
    obtain ⟨a, ws, rfl, ha, la⟩ := asL_of S r h1
    exact call_list_of pins s σ H _ us Q I rv ⟨a, ws, rfl, .inl (SqL.of ha), fun l hl => fin.lst S hl la⟩
  · cases e
/-! ### isinstance -/
theorem ty_rep {K : PySem.W.Frag} {O m : List Addr} {M : Mem} {H : Hp} {v : V} {x : MV} {t : String} (S : Sim K O m M H) (r : RepV K (gr O m H) m v x) (e : tyV2 M x = some t) : TyX K H v (.type t) := by
  cases x with
  | non => cases r; cases e; exact .base .non
  | bl b => cases r; cases e; exact .base (.bl b)
  | int b => cases r; cases e; exact .base (.int b)
  | str b => cases r; cases e; exact .base (.str b)
  | tup xs =>
    cases e
    obtain ⟨a, vs, rfl, ha, la⟩ := tup_of r
    rcases ha with (h | ⟨o, h⟩) | ⟨o, its, n, h1, h2, _⟩
    · exact .base (.tup h)
    · exact .fTuple h
    · exact .kTuple h1 h2
  | lst xs =>
    cases e
    obtain ⟨a, vs, rfl, ha, la⟩ := asL_of S r (show asL M (.lst xs) = some xs from rfl)
    exact .base (.lst ha)
  | dck kvs =>
    cases e
    cases r with
    | dck h1 h2 => exact .base (.dK (hide_same _ _ h1))
  | ref n =>
    unfold tyV2 at e
    simp only at e
    cases q : M[n]? with
    | none => rw [q] at e; cases e
    | some c =>
      rw [q] at e
      cases c with
      | ins _ _ => cases e
      | dct _ => cases e
      | lst xs =>
        cases e
        obtain ⟨a, vs, rfl, ha, la⟩ := asL_of S r (show asL M (.ref n) = some xs by unfold asL; simp only [q])
        exact .base (.lst ha)
  | _ => cases e
end
end Mini

set_option Elab.async false
set_option linter.all false
set_option maxRecDepth 100000
set_option maxHeartbeats 1000000
/-! MiD: expressions: a term of the small interpreter, checked rule by rule against the text. -/
namespace Mini
open PySem L2

/-- the field of an error in which its value stands -/
def PostE (K : PySem.W.Frag) (O m : List Addr) (H : Hp) (W : WX) (s : St) (Q : VK) : Res MV → Prop
  | .ok x M' => ∀ v m' H', Ext m H m' H' → Sim K O m' M' H' → RepV K (gr O m' H') m' v x → Q v H'
  | .exn c x M' => ∀ d v m' H', Ext m H m' H' → Sim K O m' M' H' → RepV K (gr O m' H') m' v x → H' d = some (.xd [(fo c, v)]) → W (.ref (He.ga K c)) (some d) s H'
  | .stuck => False
def PostL (K : PySem.W.Frag) (O m : List Addr) (H : Hp) (W : WX) (s : St) (Q : List V → Hp → Prop) : Res (List MV) → Prop
  | .ok x M' => ∀ v m' H', Ext m H m' H' → Sim K O m' M' H' → RepL K (gr O m' H') m' v x → Q v H'
  | .exn c x M' => ∀ d v m' H', Ext m H m' H' → Sim K O m' M' H' → RepV K (gr O m' H') m' v x → H' d = some (.xd [(fo c, v)]) → W (.ref (He.ga K c)) (some d) s H'
  | .stuck => False
/-- a result without a heap: a truth, an index -/
def PostB {α : Type} (K : PySem.W.Frag) (O m : List Addr) (H : Hp) (W : WX) (s : St) (Q : α → Hp → Prop) : Res α → Prop
  | .ok x M' => ∀ m' H', Ext m H m' H' → Sim K O m' M' H' → Q x H'
  | .exn c x M' => ∀ d v m' H', Ext m H m' H' → Sim K O m' M' H' → RepV K (gr O m' H') m' v x → H' d = some (.xd [(fo c, v)]) → W (.ref (He.ga K c)) (some d) s H'
  | .stuck => False
def tE (K : PySem.W.Frag) (W : WX) (g : Cfg) (c : CE) : TE := fun s H Q => ∃ O m M r, Sim K O m M H ∧ EnvR K (gr O m H) m s r ∧ PostE K O m H W s Q (evE g r c M)
def tA (K : PySem.W.Frag) (W : WX) (g : Cfg) (c : CL) : TA := fun s H Q => ∃ O m M r, Sim K O m M H ∧ EnvR K (gr O m H) m s r ∧ PostL K O m H W s Q (evL g r c M)
def tT (K : PySem.W.Frag) (W : WX) (g : Cfg) (c : CE) : TT := fun s H Q => ∃ O m M r, Sim K O m M H ∧ EnvR K (gr O m H) m s r ∧ PostB K O m H W s Q (bitV g r c M)
def tP (K : PySem.W.Frag) (W : WX) (g : Cfg) (c : CO) : TO := fun s H Q => ∃ O m M r, Sim K O m M H ∧ EnvR K (gr O m H) m s r ∧ PostB K O m H W s Q (evO g r c M)
section
variable {K : PySem.W.Frag} {O m m1 : List Addr} {H H1 : Hp} {W : WX} {s : St} {M : Mem}
theorem PostE.later {Q : VK} {R : Res MV} (h : PostE K O m H W s Q R) (e : Ext m H m1 H1) : PostE K O m1 H1 W s Q R := by
  cases R with
  | ok x M' => exact fun v m' H' e' S' r' => h v m' H' (e.trans e') S' r'
  | exn c x M' => exact fun d v m' H' e' S' r' q => h d v m' H' (e.trans e') S' r' q
  | stuck => exact h
theorem PostL.later {Q : List V → Hp → Prop} {R : Res (List MV)} (h : PostL K O m H W s Q R) (e : Ext m H m1 H1) : PostL K O m1 H1 W s Q R := by
  cases R with
  | ok x M' => exact fun v m' H' e' S' r' => h v m' H' (e.trans e') S' r'
  | exn c x M' => exact fun d v m' H' e' S' r' q => h d v m' H' (e.trans e') S' r' q
  | stuck => exact h
theorem PostB.later {α : Type} {Q : α → Hp → Prop} {R : Res α} (h : PostB K O m H W s Q R) (e : Ext m H m1 H1) : PostB K O m1 H1 W s Q R := by
  cases R with
  | ok x M' => exact fun m' H' e' S' => h m' H' (e.trans e') S'
  | exn c x M' => exact fun d v m' H' e' S' r' q => h d v m' H' (e.trans e') S' r' q
  | stuck => exact h
/-- behind a first part: what is left -/
def Aft (K : PySem.W.Frag) (O m : List Addr) (H : Hp) (v : V) (H1 : Hp) (P : MV → List Addr → Mem → Prop) : Prop := ∃ x m1 M1, Ext m H m1 H1 ∧ Sim K O m1 M1 H1 ∧ RepV K (gr O m1 H1) m1 v x ∧ P x m1 M1
theorem PostE.bindE {Q : VK} {R : Res MV} {k : MV → Mem → Res MV} (h : PostE K O m H W s Q (R.bind k)) : PostE K O m H W s (fun v H1 => Aft K O m H v H1 fun x m1 M1 => PostE K O m1 H1 W s Q (k x M1)) R := by
  cases R with
  | ok x M' => exact fun v m' H' e' S' r' => ⟨x, m', M', e', S', r', PostE.later (R := k x M') h e'⟩
  | exn c x M' => exact h
  | stuck => exact h
theorem PostE.bindL {Q : VK} {R : Res (List MV)} {k : List MV → Mem → Res MV} (h : PostE K O m H W s Q (R.bind k)) : PostL K O m H W s (fun v H1 => ∃ x m1 M1, Ext m H m1 H1 ∧ Sim K O m1 M1 H1 ∧ RepL K (gr O m1 H1) m1 v x ∧ PostE K O m1 H1 W s Q (k x M1)) R := by
  cases R with
  | ok x M' => exact fun v m' H' e' S' r' => ⟨x, m', M', e', S', r', PostE.later (R := k x M') h e'⟩
  | exn c x M' => exact h
  | stuck => exact h
theorem PostL.bindE {Q : List V → Hp → Prop} {R : Res MV} {k : MV → Mem → Res (List MV)} (h : PostL K O m H W s Q (R.bind k)) : PostE K O m H W s (fun v H1 => Aft K O m H v H1 fun x m1 M1 => PostL K O m1 H1 W s Q (k x M1)) R := by
  cases R with
  | ok x M' => exact fun v m' H' e' S' r' => ⟨x, m', M', e', S', r', PostL.later (R := k x M') h e'⟩
  | exn c x M' => exact h
  | stuck => exact h
theorem PostL.bindL {Q : List V → Hp → Prop} {R : Res (List MV)} {k : List MV → Mem → Res (List MV)} (h : PostL K O m H W s Q (R.bind k)) : PostL K O m H W s (fun v H1 => ∃ x m1 M1, Ext m H m1 H1 ∧ Sim K O m1 M1 H1 ∧ RepL K (gr O m1 H1) m1 v x ∧ PostL K O m1 H1 W s Q (k x M1)) R := by
  cases R with
  | ok x M' => exact fun v m' H' e' S' r' => ⟨x, m', M', e', S', r', PostL.later (R := k x M') h e'⟩
  | exn c x M' => exact h
  | stuck => exact h
theorem PostB.bindE {α : Type} {Q : α → Hp → Prop} {R : Res MV} {k : MV → Mem → Res α} (h : PostB K O m H W s Q (R.bind k)) : PostE K O m H W s (fun v H1 => Aft K O m H v H1 fun x m1 M1 => PostB K O m1 H1 W s Q (k x M1)) R := by
  cases R with
  | ok x M' => exact fun v m' H' e' S' r' => ⟨x, m', M', e', S', r', PostB.later (R := k x M') h e'⟩
  | exn c x M' => exact h
  | stuck => exact h
theorem PostE.bindB {α : Type} {Q : VK} {R : Res α} {k : α → Mem → Res MV} (h : PostE K O m H W s Q (R.bind k)) : PostB K O m H W s (fun x H1 => ∃ m1 M1, Ext m H m1 H1 ∧ Sim K O m1 M1 H1 ∧ PostE K O m1 H1 W s Q (k x M1)) R := by
  cases R with
  | ok x M' => exact fun m' H' e' S' => ⟨m', M', e', S', PostE.later (R := k x M') h e'⟩
  | exn c x M' => exact h
  | stuck => exact h
theorem PostE.imp {Q Q' : VK} {R : Res MV} (h : PostE K O m H W s Q R) (i : ∀ v H', Q v H' → Q' v H') : PostE K O m H W s Q' R := by
  cases R with
  | ok x M' => exact fun v m' H' e' S' r' => i _ _ (h v m' H' e' S' r')
  | exn c x M' => exact h
  | stuck => exact h
theorem PostL.imp {Q Q' : List V → Hp → Prop} {R : Res (List MV)} (h : PostL K O m H W s Q R) (i : ∀ v H', Q v H' → Q' v H') : PostL K O m H W s Q' R := by
  cases R with
  | ok x M' => exact fun v m' H' e' S' r' => i _ _ (h v m' H' e' S' r')
  | exn c x M' => exact h
  | stuck => exact h
theorem PostB.imp {α : Type} {Q Q' : α → Hp → Prop} {R : Res α} (h : PostB K O m H W s Q R) (i : ∀ v H', Q v H' → Q' v H') : PostB K O m H W s Q' R := by
  cases R with
  | ok x M' => exact fun m' H' e' S' => i _ _ (h m' H' e' S')
  | exn c x M' => exact h
  | stuck => exact h
/-- a plain operation's end -/
theorem PostE.opt {Q : VK} {o : Option MV} (h : PostE K O m H W s Q (.opt o M)) : ∃ z, o = some z ∧ Fin K O m M H z Q := by
  cases o with
  | none => exact h.elim
  | some z => exact ⟨z, rfl, fun u H' e' S' r' => h u m H' e' S' r'⟩
theorem PostB.opt {α : Type} {Q : α → Hp → Prop} {o : Option α} (h : PostB K O m H W s Q (.opt o M)) (S : Sim K O m M H) : ∃ z, o = some z ∧ Q z H := by
  cases o with
  | none => exact h.elim
  | some z => exact ⟨z, rfl, h m H Ext.refl S⟩
end
theorem PE_imp {X : Cx} {e : Expr} {t t' : TE} (h : PE X e t) (i : ∀ s H Q, t' s H Q → t s H Q) : PE X e t' := ⟨fun pins s σ H Q I q => h.run pins s σ H Q I (i _ _ _ q)⟩
theorem PT_imp {X : Cx} {e : Expr} {t t' : TT} (h : PT X e t) (i : ∀ s H Q, t' s H Q → t s H Q) : PT X e t' := ⟨fun pins s σ H Q I q => h.run pins s σ H Q I (i _ _ _ q)⟩
theorem PA_imp {X : Cx} {e : List Expr} {t t' : TA} (h : PA X e t) (i : ∀ s H Q, t' s H Q → t s H Q) : PA X e t' := ⟨fun pos pins s σ H Q I q => h.run pos pins s σ H Q I (i _ _ _ q)⟩

/-! ### rules -/
section
variable {X : Cx} {W : WX} {g : Cfg} {a b c e : Expr} {es : List Expr} {ca cb cc ce : CE} {cs : CL} {pos : Pos}
abbrev ME (X : Cx) (W : WX) (g : Cfg) (e : Expr) (c : CE) : Prop := PE X e (tE X.K W g c)
abbrev MT (X : Cx) (W : WX) (g : Cfg) (e : Expr) (c : CE) : Prop := PT X e (tT X.K W g c)
abbrev MA (X : Cx) (W : WX) (g : Cfg) (es : List Expr) (c : CL) : Prop := PA X es (tA X.K W g c)
theorem m_int {i j} : ME X W g (.Constant (.int i) j pos) (.con (.int i)) := PE_imp pe_int fun s H Q ⟨O, m, M, r, S, R, h⟩ => h _ m H Ext.refl S (.int i)
theorem m_bl {i j} : ME X W g (.Constant (.bool i) j pos) (.con (.bl i)) := PE_imp pe_bl fun s H Q ⟨O, m, M, r, S, R, h⟩ => h _ m H Ext.refl S (.bl i)
theorem m_str {i j} : ME X W g (.Constant (.str i) j pos) (.con (.str i)) := PE_imp pe_str fun s H Q ⟨O, m, M, r, S, R, h⟩ => h _ m H Ext.refl S (.str i)
theorem m_non {j} : ME X W g (.Constant .none j pos) (.con .non) := PE_imp pe_non fun s H Q ⟨O, m, M, r, S, R, h⟩ => h _ m H Ext.refl S .non
theorem m_var (i : Nat) {x : Str} (hN : X.N[i]? = some x := by rfl) (hv : Vis X.env.scope x := by first | exact Or.inl rfl | exact Or.inr (Or.inl rfl) | exact Or.inr (Or.inr rfl)) (hd : (x == ("__debug__" : Str)) = false := by decide)
    (hcd : (x == ("__classdict__" : Str)) = false := by decide) : ME X W g (.Name x pos) (.var i) := PE_imp (pe_var hN hv hd hcd) fun s H Q ⟨O, m, M, r, S, R, h⟩ => by
  simp only [evE] at h
  cases q : r[i]? with
  | none => rw [q] at h; exact h.elim
  | some o =>
    rw [q] at h
    cases o with
    | none => exact h.elim
    | some x =>
      obtain ⟨v, h1, h2⟩ := R.2 i x q
      exact ⟨v, h1, h v m H Ext.refl S h2⟩
/-- a module's constant -/
def GlOk (K : PySem.W.Frag) (mg : Str → Option Value) (gl : Str → Option MV) : Prop := ∀ x z, gl x = some z → ∃ v u, mg x = some u ∧ RelV v u ∧ ∀ G m, RepV K G m v z
theorem m_glb {x : Str} (hG : GlOk X.K X.mg g.glob) (hs : (g.glob x).isSome = true) (hg : Gl X x) (hd : (x == ("__debug__" : Str)) = false := by decide) : ME X W g (.Name x pos) (.glb x) := by
  obtain ⟨z, hz⟩ := Option.isSome_iff_exists.mp hs
  obtain ⟨v, u, h1, h2, h3⟩ := hG x z hz
  refine PE_imp (pe_glob hg h1 h2 hd) fun s H Q ⟨O, m, M, r, S, R, h⟩ => ?_
  simp only [evE, hz] at h
  exact h v m H Ext.refl S (h3 _ _)
/-- two parts, then an operation on their values -/
theorem two {O m : List Addr} {M : Mem} {r : Rho} {H : Hp} {s : St} {Q : VK} {f : Mem → MV → MV → Option MV} (S : Sim X.K O m M H) (R : EnvR X.K (gr O m H) m s r)
    (h : PostE X.K O m H W s Q ((evE g r ca M).bind fun x M1 => (evE g r cb M1).bind fun y M2 => .opt (f M2 x y) M2)) : tE X.K W g ca s H fun v H1 => tE X.K W g cb s H1 fun w H2 => rV2 X.K f v w H2 Q := by
  refine ⟨O, m, M, r, S, R, h.bindE.imp fun v H1 ⟨x, m1, M1, e1, S1, r1, h1⟩ => ⟨O, m1, M1, r, S1, R.ext e1, h1.bindE.imp fun w H2 ⟨y, m2, M2, e2, S2, r2, h2⟩ => ?_⟩⟩
  obtain ⟨z, hz, fin⟩ := h2.opt
  exact ⟨O, m2, M2, x, y, z, S2, r1.ext e2, r2, hz, fin⟩
theorem m_bin {op : Operator} (ha : ME X W g a ca) (hb : ME X W g b cb) : ME X W g (.BinOp a op b pos) (.bin op ca cb) :=
  PE_imp (pe_op (op_binM op) ha hb) fun s H Q ⟨O, m, M, r, S, R, h⟩ => two S R (by simp only [evE] at h; exact h)
theorem m_cmp {op : CmpOp} (hu : X.A.units + 64 < cLine) (ha : ME X W g a ca) (hb : ME X W g b cb) (hm : behindInMarks op b = false) : ME X W g (.Compare a [op] [b] pos) (.cmp op ca cb) :=
  PE_imp (pe_cmpR (op_cmpM hu op) ha hb hm) fun s H Q ⟨O, m, M, r, S, R, h⟩ => two S R (by simp only [evE] at h; exact h)
theorem m_idx (hk : KdOk X.K X.w g.kd) (ha : ME X W g a ca) (hb : ME X W g b cb) (hs : PlainIx b) : ME X W g (.Subscript a b pos) (.idx ca cb) :=
  PE_imp (pe_ix (ix_M hk) ha hb hs) fun s H Q ⟨O, m, M, r, S, R, h⟩ => two S R (by simp only [evE] at h; exact h)
theorem un_negM : UnR X (unaryOp .USub) (rV1 X.K fun _ x => match x with | .int i => some (.int (-i)) | _ => none) := by
  intro pins s σ H v vv Q I rv ⟨O, m, M, x, z, S, r1, e, fin⟩
  simp only at e
  split at e
  · have e' := Option.some.inj e
    subst e'
    cases r1
    exact un_neg pins s σ H _ vv Q I rv ⟨_, rfl, fin.here S (.int _)⟩
  · cases e
theorem m_neg (ha : ME X W g a ca) : ME X W g (.UnaryOp .USub a pos) (.neg ca) := PE_imp (pe_un un_negM ha) fun s H Q ⟨O, m, M, r, S, R, h⟩ => by
  simp only [evE] at h
  refine ⟨O, m, M, r, S, R, h.bindE.imp fun v H1 ⟨x, m1, M1, e1, S1, r1, h1⟩ => ?_⟩
  cases x with
  | int i => exact ⟨O, m1, M1, _, _, S1, r1, rfl, fun u H' e' S' r' => h1 u m1 H' e' S' r'⟩
  | _ => exact h1.elim
/-! ### truth -/
theorem tru_rep {K : PySem.W.Frag} {O m : List Addr} {M : Mem} {H : Hp} {v : V} {x : MV} {k : Bool} (S : Sim K O m M H) (r : RepV K (gr O m H) m v x) (e : truth M x = some k) : TruV K v H k := by
  cases x with
  | non => cases r; exact (Option.some.inj e).symm
  | bl b => cases r; exact (Option.some.inj e).symm
  | int b => cases r; exact (Option.some.inj e).symm
  | str b => cases r; obtain ⟨h1, h2⟩ := ite_some e; exact ⟨h1, h2.symm⟩
  | tup xs =>
    obtain ⟨a, vs, rfl, ha, la⟩ := tup_of r
    refine .inr (.inl ⟨vs, ha, ?_⟩)
    rw [← Option.some.inj e]
    cases la <;> rfl
  | lst xs =>
    obtain ⟨a, vs, rfl, ha, la⟩ := asL_of S r (show asL M (.lst xs) = some xs from rfl)
    refine .inl ⟨vs, SqL.of ha, ?_⟩
    rw [← Option.some.inj e]
    cases la <;> rfl
  | ref n =>
    unfold truth at e
    simp only at e
    cases q : M[n]? with
    | none => rw [q] at e; cases e
    | some c =>
      rw [q] at e
      cases c with
      | ins _ _ => cases e
      | dct _ => cases e
      | lst xs =>
        obtain ⟨a, vs, rfl, ha, la⟩ := asL_of S r (show asL M (.ref n) = some xs by unfold asL; simp only [q])
        refine .inl ⟨vs, SqL.of ha, ?_⟩
        rw [← Option.some.inj e]
        cases la <;> rfl
  | _ => cases e
/-- an expression as a test, where its node has no test of its own -/
theorem t_of (ha : ME X W g a ca) (he : ∀ whole, isTrue a X.env whole = (do let v ← whole; standAt a.pos; holding [v] (truthy v)) := by intro _; rfl) : MT X W g a ca := PT_imp (pt_truth ha he) fun s H Q ⟨O, m, M, r, S, R, h⟩ => by
  refine ⟨O, m, M, r, S, R, (PostB.bindE h).imp fun v H1 ⟨x, m1, M1, e1, S1, r1, h1⟩ => ?_⟩
  obtain ⟨k, hk, q⟩ := h1.opt S1
  exact ⟨k, tru_rep S1 r1 hk, q⟩
end
end Mini

set_option Elab.async false
set_option linter.all false
set_option maxRecDepth 100000
set_option maxHeartbeats 1000000
/-! MiE: expressions, further. -/
namespace Mini
open PySem L2
theorem Res.assoc {α β γ : Type} (R : Res α) (f : α → Mem → Res β) (k : β → Mem → Res γ) : (R.bind f).bind k = R.bind fun x M => (f x M).bind k := by
  cases R <;> rfl
section
variable {X : Cx} {W : WX} {g : Cfg} {a b c e o : Expr} {es rest : List Expr} {ca cb cc ce co : CE} {cs : CL} {pos : Pos}
/-! ### and, or, not -/
theorem m_not (ha : ME X W g a ca) : ME X W g (.UnaryOp .Not a pos) (.not ca) := PE_imp (pe_notT ha) fun s H Q ⟨O, m, M, r, S, R, h⟩ => by
  simp only [evE] at h
  refine ⟨O, m, M, r, S, R, h.bindE.imp fun v H1 ⟨x, m1, M1, e1, S1, r1, h1⟩ => ?_⟩
  obtain ⟨z, hz, fin⟩ := h1.opt
  obtain ⟨k, hk, ez⟩ := map_some hz
  subst ez
  exact ⟨k, tru_rep S1 r1 hk, fin.here S1 (.bl _)⟩
theorem m_one {op} (ha : ME X W g a ca) : ME X W g (.BoolOp op [a] pos) ca := pe_one ha
theorem m_and (ha : ME X W g a ca) (hb : ME X W g (.BoolOp .And (b :: rest) pos) cb) : ME X W g (.BoolOp .And (a :: b :: rest) pos) (.and ca cb) := PE_imp (pe_andT ha hb) fun s H Q ⟨O, m, M, r, S, R, h⟩ => by
  simp only [evE] at h
  refine ⟨O, m, M, r, S, R, h.bindE.imp fun v H1 ⟨x, m1, M1, e1, S1, r1, h1⟩ => ?_⟩
  dsimp only at h1
  cases q : truth M1 x with
  | none => rw [q] at h1; exact h1.elim
  | some k =>
    rw [q] at h1
    refine ⟨k, tru_rep S1 r1 q, ?_⟩
    cases k with
    | true => exact ⟨O, m1, M1, r, S1, R.ext e1, h1⟩
    | false => exact h1 v m1 H1 Ext.refl S1 r1
theorem m_or (ha : ME X W g a ca) (hb : ME X W g (.BoolOp .Or (b :: rest) pos) cb) : ME X W g (.BoolOp .Or (a :: b :: rest) pos) (.or ca cb) := PE_imp (pe_orT ha hb) fun s H Q ⟨O, m, M, r, S, R, h⟩ => by
  simp only [evE] at h
  refine ⟨O, m, M, r, S, R, h.bindE.imp fun v H1 ⟨x, m1, M1, e1, S1, r1, h1⟩ => ?_⟩
  dsimp only at h1
  cases q : truth M1 x with
  | none => rw [q] at h1; exact h1.elim
  | some k =>
    rw [q] at h1
    refine ⟨k, tru_rep S1 r1 q, ?_⟩
    cases k with
    | true => exact h1 v m1 H1 Ext.refl S1 r1
    | false => exact ⟨O, m1, M1, r, S1, R.ext e1, h1⟩
/-! ### tests -/
theorem bit_ok {r : Rho} {M : Mem} : bitV g r ca M = (evE g r ca M).bind fun x M1 => .opt (truth M1 x) M1 := rfl
theorem t_not (ha : MT X W g a ca) : MT X W g (.UnaryOp .Not a pos) (.not ca) := PT_imp (pt_not ha) fun s H Q ⟨O, m, M, r, S, R, h⟩ => by
  refine ⟨O, m, M, r, S, R, ?_⟩
  rw [bit_ok] at h ⊢
  simp only [evE] at h
  rw [Res.assoc] at h
  cases q : evE g r ca M with
  | stuck => rw [q] at h; exact h.elim
  | exn d y M1 => rw [q] at h; exact h
  | ok x M1 =>
    rw [q] at h
    simp only [Res.bind_ok] at h ⊢
    cases q2 : truth M1 x with
    | none => rw [q2] at h; exact h.elim
    | some k =>
      rw [q2] at h
      exact h
theorem t_and1 (ha : MT X W g a ca) : PW X (.BoolOp .And [a] pos) (tT X.K W g ca) := pw_and1 ha
theorem t_or1 (ha : MT X W g a ca) : PW X (.BoolOp .Or [a] pos) (tT X.K W g ca) := pw_or1 ha
theorem PW_imp {X : Cx} {e : Expr} {t t' : TT} (h : PW X e t) (i : ∀ s H Q, t' s H Q → t s H Q) : PW X e t' := ⟨fun wh pins s σ H Q I q => h.run wh pins s σ H Q I (i _ _ _ q)⟩
theorem t_and (ha : MT X W g a ca) (hb : PW X (.BoolOp .And (b :: rest) pos) (tT X.K W g cb)) : PW X (.BoolOp .And (a :: b :: rest) pos) (tT X.K W g (.and ca cb)) := PW_imp (pw_and ha hb) fun s H Q ⟨O, m, M, r, S, R, h⟩ => by
  refine ⟨O, m, M, r, S, R, ?_⟩
  rw [bit_ok] at h ⊢
  simp only [evE] at h
  rw [Res.assoc] at h
  cases q : evE g r ca M with
  | stuck => rw [q] at h; exact h.elim
  | exn d y M1 => rw [q] at h; exact h
  | ok x M1 =>
    rw [q] at h
    simp only [Res.bind_ok] at h ⊢
    cases q2 : truth M1 x with
    | none => rw [q2] at h; exact h.elim
    | some k =>
      rw [q2] at h
      intro m1 H1 e1 S1
      cases k with
      | true => exact ⟨O, m1, M1, r, S1, R.ext e1, PostB.later (R := bitV g r cb M1) h e1⟩
      | false =>
        have h' : PostB X.K O m H W s Q (.opt (truth M1 x) M1) := h
        rw [q2] at h'
        exact h' m1 H1 e1 S1
theorem t_or (ha : MT X W g a ca) (hb : PW X (.BoolOp .Or (b :: rest) pos) (tT X.K W g cb)) : PW X (.BoolOp .Or (a :: b :: rest) pos) (tT X.K W g (.or ca cb)) := PW_imp (pw_or ha hb) fun s H Q ⟨O, m, M, r, S, R, h⟩ => by
  refine ⟨O, m, M, r, S, R, ?_⟩
  rw [bit_ok] at h ⊢
  simp only [evE] at h
  rw [Res.assoc] at h
  cases q : evE g r ca M with
  | stuck => rw [q] at h; exact h.elim
  | exn d y M1 => rw [q] at h; exact h
  | ok x M1 =>
    rw [q] at h
    simp only [Res.bind_ok] at h ⊢
    cases q2 : truth M1 x with
    | none => rw [q2] at h; exact h.elim
    | some k =>
      rw [q2] at h
      intro m1 H1 e1 S1
      cases k with
      | true =>
        have h' : PostB X.K O m H W s Q (.opt (truth M1 x) M1) := h
        rw [q2] at h'
        exact h' m1 H1 e1 S1
      | false => exact ⟨O, m1, M1, r, S1, R.ext e1, PostB.later (R := bitV g r cb M1) h e1⟩
theorem twoT {O m : List Addr} {M : Mem} {r : Rho} {H : Hp} {s : St} {Q : Bool → Hp → Prop} {op : CmpOp} (S : Sim X.K O m M H) (R : EnvR X.K (gr O m H) m s r) (h : PostB X.K O m H W s Q (bitV g r (.cmp op ca cb) M)) :
    tE X.K W g ca s H fun v H1 => tE X.K W g cb s H1 fun w H2 => rV2 X.K (fun M x y => (cmpV op M x y).map .bl) v w H2 fun z H3 => ∃ k, z = .bl k ∧ Q k H3 := by
  rw [bit_ok] at h
  simp only [evE] at h
  rw [Res.assoc] at h
  refine ⟨O, m, M, r, S, R, h.bindE.imp fun v H1 ⟨x, m1, M1, e1, S1, r1, h1⟩ => ?_⟩
  simp only at h1
  rw [Res.assoc] at h1
  refine ⟨O, m1, M1, r, S1, R.ext e1, h1.bindE.imp fun w H2 ⟨y, m2, M2, e2, S2, r2, h2⟩ => ?_⟩
  dsimp only at h2
  cases q : cmpV op M2 x y with
  | none => rw [q] at h2; exact h2.elim
  | some k =>
    rw [q] at h2
    refine ⟨O, m2, M2, x, y, .bl k, S2, r1.ext e2, r2, by simp only [q]; rfl, fun u H' e' S' r' => ?_⟩
    cases r'
    exact ⟨k, rfl, h2 m2 H' e' S'⟩
theorem t_cmp {op : CmpOp} (hu : X.A.units + 64 < cLine) (ha : ME X W g a ca) (hb : ME X W g b cb) (hm : behindInMarks op b = false) : MT X W g (.Compare a [op] [b] pos) (.cmp op ca cb) :=
  PT_imp (pt_cmpR (op_cmpM hu op) ha hb hm) fun s H Q ⟨O, m, M, r, S, R, h⟩ => twoT S R h
/-! ### chains -/
theorem chn_of {O m : List Addr} {M : Mem} {r : Rho} {H : Hp} {s : St} {Q : VK} {op op' : CmpOp} (S : Sim X.K O m M H) (R : EnvR X.K (gr O m H) m s r) (h : PostE X.K O m H W s Q (evE g r (.chn op op' ca cb cc) M)) :
    tChain (rV2 X.K fun M x y => (cmpV op M x y).map .bl) (rV2 X.K fun M x y => (cmpV op' M x y).map .bl) (tE X.K W g ca) (tE X.K W g cb) (tE X.K W g cc) s H Q := by
  simp only [evE] at h
  refine ⟨O, m, M, r, S, R, h.bindE.imp fun v H1 ⟨x, m1, M1, e1, S1, r1, h1⟩ => ⟨O, m1, M1, r, S1, R.ext e1, h1.bindE.imp fun w H2 ⟨y, m2, M2, e2, S2, r2, h2⟩ => ?_⟩⟩
  dsimp only at h2
  cases q : cmpV op M2 x y with
  | none => rw [q] at h2; exact h2.elim
  | some k =>
    rw [q] at h2
    refine ⟨O, m2, M2, x, y, .bl k, S2, r1.ext e2, r2, by simp only [q]; rfl, fun u H' e' S' r' => ?_⟩
    cases r'
    refine ⟨k, rfl, ?_⟩
    have R2 := (R.ext e1).ext e2
    cases k with
    | false => exact h2 _ m2 H' e' S' (.bl _)
    | true =>
      refine ⟨O, m2, M2, r, S', R2.ext e', (PostE.later h2 e').bindE.imp fun z H3 ⟨zz, m3, M3, e3, S3, r3, h3⟩ => ?_⟩
      obtain ⟨u, hz, fin⟩ := h3.opt
      exact ⟨O, m3, M3, y, zz, u, S3, (r2.ext e').ext e3, r3, hz, fin⟩
theorem m_chn {op op' : CmpOp} (hu : X.A.units + 64 < cLine) (ha : ME X W g a ca) (hb : ME X W g b cb) (hc : ME X W g c cc) (hm : lastMarks [op, op'] [b, c] = false := by with_unfolding_all rfl) : ME X W g (.Compare a [op, op'] [b, c] pos) (.chn op op' ca cb cc) :=
  PE_imp (pe_chain (op_cmpM hu op) (op_cmpM hu op') ha hb hc hm) fun s H Q ⟨O, m, M, r, S, R, h⟩ => chn_of S R h
/-- the value of a chain is a bool -/
theorem chn_bl {op op' : CmpOp} {r : Rho} {M M' : Mem} {x : MV} (h : evE g r (.chn op op' ca cb cc) M = .ok x M') : ∃ k, x = .bl k := by
  simp only [evE] at h
  cases q1 : evE g r ca M with
  | stuck => rw [q1] at h; cases h
  | exn d y M1 => rw [q1] at h; cases h
  | ok x1 M1 =>
    rw [q1] at h
    simp only [Res.bind_ok] at h
    cases q2 : evE g r cb M1 with
    | stuck => rw [q2] at h; cases h
    | exn d y M1 => rw [q2] at h; cases h
    | ok x2 M2 =>
      rw [q2] at h
      simp only [Res.bind_ok] at h
      cases q3 : cmpV op M2 x1 x2 with
      | none => rw [q3] at h; cases h
      | some k =>
        rw [q3] at h
        cases k with
        | false => cases h; exact ⟨_, rfl⟩
        | true =>
          simp only at h
          cases q4 : evE g r cc M2 with
          | stuck => rw [q4] at h; cases h
          | exn d y M1 => rw [q4] at h; cases h
          | ok x3 M3 =>
            rw [q4] at h
            simp only [Res.bind_ok] at h
            cases q5 : cmpV op' M3 x2 x3 with
            | none => rw [q5] at h; cases h
            | some k => rw [q5] at h; cases h; exact ⟨_, rfl⟩
theorem t_chn {op op' : CmpOp} (hu : X.A.units + 64 < cLine) (ha : ME X W g a ca) (hb : ME X W g b cb) (hc : ME X W g c cc) (hm : lastMarks [op, op'] [b, c] = false := by with_unfolding_all rfl) : MT X W g (.Compare a [op, op'] [b, c] pos) (.chn op op' ca cb cc) :=
  PT_imp (pt_chain (op_cmpM hu op) (op_cmpM hu op') ha hb hc hm) fun s H Q ⟨O, m, M, r, S, R, h⟩ => by
    refine chn_of S R ?_
    rw [bit_ok] at h
    cases q : evE g r (.chn op op' ca cb cc) M with
    | stuck => rw [q] at h; exact h.elim
    | exn d y M1 => rw [q] at h; exact h
    | ok x M1 =>
      obtain ⟨k, rfl⟩ := chn_bl q
      rw [q] at h
      intro v m' H' e' S' r'
      cases r'
      exact ⟨k, rfl, h m' H' e' S'⟩
theorem m_ife (hc : MT X W g c cc) (ha : ME X W g a ca) (hb : ME X W g b cb) : ME X W g (.IfExp c a b pos) (.ife cc ca cb) := PE_imp (pe_ifExp hc ha hb) fun s H Q ⟨O, m, M, r, S, R, h⟩ => by
  simp only [evE] at h
  refine ⟨O, m, M, r, S, R, ?_⟩
  rw [bit_ok]
  cases q : evE g r cc M with
  | stuck => rw [q] at h; exact h.elim
  | exn d y M1 => rw [q] at h; exact h
  | ok x M1 =>
    rw [q] at h
    simp only [Res.bind_ok] at h ⊢
    cases q2 : truth M1 x with
    | none => rw [q2] at h; exact h.elim
    | some k =>
      rw [q2] at h
      intro m1 H1 e1 S1
      cases k with
      | true => exact ⟨O, m1, M1, r, S1, R.ext e1, PostE.later (R := evE g r ca M1) h e1⟩
      | false => exact ⟨O, m1, M1, r, S1, R.ext e1, PostE.later (R := evE g r cb M1) h e1⟩
/-! ### argument lists, displays -/
theorem a_nil : MA X W g [] .nil := PA_imp pa_nil fun s H Q ⟨O, m, M, r, S, R, h⟩ => h [] m H Ext.refl S .nil
theorem a_cons (ha : ME X W g e ce) (hr : MA X W g es cs) (hs : starEach (e :: es) X.env = (false, eval e X.env) :: starEach es X.env := by rfl) : MA X W g (e :: es) (.cons ce cs) := PA_imp (pa_cons ha hr hs) fun s H Q ⟨O, m, M, r, S, R, h⟩ => by
  simp only [evL] at h
  refine ⟨O, m, M, r, S, R, h.bindE.imp fun v H1 ⟨x, m1, M1, e1, S1, r1, h1⟩ => ⟨O, m1, M1, r, S1, R.ext e1, h1.bindL.imp fun w H2 ⟨y, m2, M2, e2, S2, r2, h2⟩ => ?_⟩⟩
  exact h2 _ m2 H2 Ext.refl S2 (.cons (r1.ext e2) r2)
theorem a_star {p : Pos} (ha : ME X W g e ce) (hr : MA X W g es cs) (hs : starEach (.Starred e p :: es) X.env = (true, eval e X.env) :: starEach es X.env := by rfl) : MA X W g (.Starred e p :: es) (.star ce cs) := PA_imp (StX.pa_star ha hr hs) fun s H Q ⟨O, m, M, r, S, R, h⟩ => by
  simp only [evL] at h
  refine ⟨O, m, M, r, S, R, h.bindE.imp fun v H1 ⟨x, m1, M1, e1, S1, r1, h1⟩ => ?_⟩
  cases x with
  | tup ys =>
    obtain ⟨a, vs, rfl, ha, la⟩ := tup_of r1
    refine ⟨a, vs, rfl, .inl ha, O, m1, M1, r, S1, R.ext e1, h1.bindL.imp fun w H2 ⟨y, m2, M2, e2, S2, r2, h2⟩ => ?_⟩
    exact h2 _ m2 H2 Ext.refl S2 ((la.ext e2).append r2)
  | lst ys =>
    obtain ⟨a, vs, rfl, ha, la⟩ := asL_of S1 r1 (show asL M1 (.lst ys) = some ys from rfl)
    refine ⟨a, vs, rfl, .inr (SqL.of ha), O, m1, M1, r, S1, R.ext e1, h1.bindL.imp fun w H2 ⟨y, m2, M2, e2, S2, r2, h2⟩ => ?_⟩
    exact h2 _ m2 H2 Ext.refl S2 ((la.ext e2).append r2)
  | _ => exact h1.elim
theorem m_tup {k} (h : MA X W g es cs) : ME X W g (.Tuple es k pos) (.tup cs) := PE_imp (pe_tup h) fun s H Q ⟨O, m, M, r, S, R, h⟩ => by
  simp only [evE] at h
  refine ⟨O, m, M, r, S, R, h.bindL.imp fun v H1 ⟨x, m1, M1, e1, S1, r1, h1⟩ => ?_⟩
  split at h1
  · refine ⟨by rw [r1.len]; assumption, fun p hp => ?_⟩
    exact Fin.tup (fun u H' e' S' r' => h1 u m1 H' e' S' r') S1 hp r1
  · exact h1.elim
theorem m_lst (h : MA X W g es cs) : ME X W g (.List es pos) (.lst cs) := PE_imp (pe_lst h) fun s H Q ⟨O, m, M, r, S, R, h⟩ => by
  simp only [evE] at h
  refine ⟨O, m, M, r, S, R, h.bindL.imp fun v H1 ⟨x, m1, M1, e1, S1, r1, h1⟩ => ?_⟩
  split at h1
  · refine ⟨by rw [r1.len]; assumption, fun p hp => ?_⟩
    exact Fin.lst (fun u H' e' S' r' => h1 u m1 H' e' S' r') S1 hp r1
  · exact h1.elim
theorem m_nwl (h : MA X W g es cs) : ME X W g (.List es pos) (.nwl cs) := PE_imp (pe_lst h) fun s H Q ⟨O, m, M, r, S, R, h⟩ => by
  simp only [evE] at h
  refine ⟨O, m, M, r, S, R, h.bindL.imp fun v H1 ⟨x, m1, M1, e1, S1, r1, h1⟩ => ?_⟩
  split at h1
  · refine ⟨by rw [r1.len]; assumption, fun p hp => ?_⟩
    have e2 : Ext m1 H1 (m1 ++ [p]) (upd H1 p (.lst v)) := Ext.cell S1 hp
    refine h1 (.ref p) (m1 ++ [p]) _ e2 (S1.cell hp ⟨v, upd_same, r1.ext e2⟩) (.ref ?_)
    rw [← S1.len, List.getElem?_append_right (Nat.le_refl _), Nat.sub_self]
    rfl
  · exact h1.elim
/-! ### slices -/
abbrev MP (X : Cx) (W : WX) (g : Cfg) (e : Option Expr) (c : CO) : Prop := PO X e (tP X.K W g c)
theorem PO_imp {X : Cx} {e : Option Expr} {t t' : TO} (h : PO X e t) (i : ∀ s H Q, t' s H Q → t s H Q) : PO X e t' := ⟨fun pins s σ H Q I q => h.run pins s σ H Q I (i _ _ _ q)⟩
theorem m_ndd (ha : ME X W g a ca) (hb : ME X W g b cb) : ME X W g (.BinOp a .Add b pos) (.ndd ca cb) :=
  PE_imp (pe_op op_cat ha hb) fun s H Q ⟨O, m, M, r, S, R, h⟩ => by
    simp only [evE] at h
    refine ⟨O, m, M, r, S, R, h.bindE.imp fun v H1 ⟨x, m1, M1, e1, S1, r1, h1⟩ => ?_⟩
    refine ⟨O, m1, M1, r, S1, R.ext e1, (PostE.bindE h1).imp fun w H2 ⟨y, m2, M2, e2, S2, r2, h2⟩ => ?_⟩
    dsimp only at h2
    cases q1 : asL M2 x with
    | none => rw [q1] at h2; exact h2.elim
    | some xs =>
      cases q2 : asL M2 y with
      | none => rw [q1, q2] at h2; exact h2.elim
      | some ys =>
        rw [q1, q2] at h2
        dsimp only at h2
        split at h2
        · rename_i hz
          obtain ⟨a1, vs, rfl, ha1, la⟩ := asL_of S2 (r1.ext e2) q1
          obtain ⟨b1, ws, rfl, hb1, lb⟩ := asL_of S2 r2 q2
          refine ⟨a1, b1, vs, ws, rfl, rfl, ha1, hb1, by rw [la.len, lb.len]; exact hz, fun p hp => ?_⟩
          have e3 : Ext m2 H2 (m2 ++ [p]) (upd H2 p (.lst (vs ++ ws))) := Ext.cell S2 hp
          refine h2 (.ref p) (m2 ++ [p]) _ e3 (S2.cell hp ⟨_, upd_same, (la.append lb).ext e3⟩) (.ref ?_)
          rw [← S2.len, List.getElem?_append_right (Nat.le_refl _), Nat.sub_self]
          rfl
        · exact h2.elim
theorem p_none : MP X W g none .none := PO_imp po_none fun s H Q ⟨O, m, M, r, S, R, h⟩ => h m H Ext.refl S
theorem p_some (h : ME X W g e ce) : MP X W g (some e) (.some ce) := PO_imp (po_some h) fun s H Q ⟨O, m, M, r, S, R, h⟩ => by
  simp only [evO] at h
  refine ⟨O, m, M, r, S, R, (PostB.bindE h).imp fun v H1 ⟨x, m1, M1, e1, S1, r1, h1⟩ => ?_⟩
  cases x with
  | int i =>
    cases r1
    exact ⟨i, rfl, h1 m1 H1 Ext.refl S1⟩
  | _ => exact h1.elim
theorem m_slc {lo hi : Option Expr} {cl ch : CO} {p2 : Pos} (ha : ME X W g a ca) (hl : MP X W g lo cl) (hh : MP X W g hi ch) : ME X W g (.Subscript a (.Slice lo hi none p2) pos) (.slc ca cl ch) :=
  PE_imp (pe_slice sl_M ha hl hh) fun s H Q ⟨O, m, M, r, S, R, h⟩ => by
    simp only [evE] at h
    refine ⟨O, m, M, r, S, R, h.bindE.imp fun v H1 ⟨x, m1, M1, e1, S1, r1, h1⟩ => ⟨O, m1, M1, r, S1, R.ext e1, (PostE.bindB h1).imp fun l H2 ⟨m2, M2, e2, S2, h2⟩ => ⟨O, m2, M2, r, S2, (R.ext e1).ext e2, (PostE.bindB h2).imp fun u H3 ⟨m3, M3, e3, S3, h3⟩ => ?_⟩⟩⟩
    obtain ⟨z, hz, fin⟩ := h3.opt
    exact ⟨O, m3, M3, x, z, S3, (r1.ext e2).ext e3, hz, fin⟩
/-! ### attributes -/
theorem ins_of {K : PySem.W.Frag} {O m : List Addr} {M : Mem} {H : Hp} {v : V} {x : MV} {d : Str} {fs : List (Str × MV)} (S : Sim K O m M H) (r : RepV K (gr O m H) m v x) (e : insV M x = some (d, fs)) :
    ∃ a dx gs, v = .ref a ∧ H a = some (.ins (He.ga K d) dx gs) ∧ RepF K (gr O m H) m gs fs := by
  unfold insV at e
  cases x with
  | obj c ys =>
    have e' := Option.some.inj e
    cases e'
    cases r with
    | obj h1 h2 => exact ⟨_, _, _, rfl, hide_same _ _ h1, h2⟩
  | ref n =>
    simp only at e
    cases q : M[n]? with
    | none => rw [q] at e; cases e
    | some c =>
      rw [q] at e
      cases c with
      | lst _ => cases e
      | dct _ => cases e
      | ins c ys =>
        have e' := Option.some.inj e
        cases e'
        cases r with
        | ref h1 =>
          obtain ⟨a, h2, dx, gs, h3, h4⟩ := S.cel n _ q
          rw [h1] at h2
          cases h2
          exact ⟨_, dx, gs, rfl, h3, h4⟩
  | _ => cases e
/-- the classes of the text, by their fields -/
def ClOk (K : PySem.W.Frag) (cl : Str → Str → Bool) : Prop := ∀ c f, cl c f = true → Cls K (He.ga K c) ∧ NoAttr K (He.ga K c) f
theorem m_att {f : Str} (hC : ClOk X.K g.cl) (ha : ME X W g a ca) (hb : attributeBase a f X.env (eval a X.env) = eval a X.env := by rfl) : ME X W g (.Attribute a f pos) (.att ca f) := PE_imp (pe_fld ha hb) fun s H Q ⟨O, m, M, r, S, R, h⟩ => by
  simp only [evE] at h
  refine ⟨O, m, M, r, S, R, h.bindE.imp fun v H1 ⟨x, m1, M1, e1, S1, r1, h1⟩ => ?_⟩
  obtain ⟨z, hz, fin⟩ := h1.opt
  obtain ⟨⟨d, fs⟩, hi, hz⟩ := bind_some hz
  simp only at hz
  split at hz
  · rename_i hc
    obtain ⟨a, dx, gs, rfl, h2, h3⟩ := ins_of S1 r1 hi
    obtain ⟨u, h4, h5⟩ := h3.look hz
    obtain ⟨c1, c2⟩ := hC _ _ hc
    exact ⟨a, _, dx, gs, u, rfl, h2, c1, c2, h4, fin.here S1 h5⟩
  · cases hz
end
end Mini

set_option Elab.async false
set_option linter.all false
set_option maxRecDepth 100000
set_option maxHeartbeats 1000000
/-! MiF: calls of defs, methods, classes, built-ins; comprehensions. -/
namespace Mini
open PySem L2
/-- the promise of a def: what the small interpreter says -/
def spF (K : PySem.W.Frag) (call : FK → List MV → Mem → Res MV) (f : FK) : Sp := fun vs H Q E => ∃ O m M xs, Sim K O m M H ∧ RepL K (gr O m H) m vs xs ∧ PostE K O m H (fun c d _ H => E c d H) [] Q (call f xs M)
section
variable {X : Cx} {W : WX} {g : Cfg} {a b c e o : Expr} {es rest : List Expr} {ca cb cc ce co : CE} {cs : CL} {pos p apos : Pos} {k : Nat} {fa : Addr} {fd : FuncData} {ps : List Str} {f m : Str}
theorem PostE.wish {K : PySem.W.Frag} {O m : List Addr} {H : Hp} {s : St} {Q : VK} {R : Res MV} (h : PostE K O m H W s Q R) : PostE K O m H (fun c d _ H => W c d s H) [] Q R := by
  cases R with
  | ok x M' => exact h
  | exn c x M' => exact h
  | stuck => exact h
theorem m_cal (F : FnOk X.prog X.w X.K X.mg X.base (L2.CX X.prog X.w) k fa fd ps (spF X.K g.call (f, none))) (hr : Room k X.A) (tk : Takes X W) (hg : Gl X f) (hm : X.mg f = some (.ref fa)) (hk : PySem.W.keepIn X.K (.ref fa) = true) (hb : Binds X.K fd ps [])
    (ha : MA X W g (e :: es) cs) (hdb : (f == ("__debug__" : Str)) = false := by decide) (he : starEach (e :: es) X.env = (false, eval e X.env) :: starEach es X.env := by rfl) (hpl : (backTo pos (starEach es X.env)).any (·.1) = false := by rfl) :
    ME X W g (.Call (.Name f p) (e :: es) [] pos) (.cal f cs) := PE_imp (pe_callSD (E := fun σ => WE W σ) F hr hg hm hk hb .nil (fun σ => passAt tk σ) ha hdb he hpl) fun s H Q ⟨O, m, M, r, S, R, h⟩ => by
  simp only [evE] at h
  refine ⟨O, m, M, r, S, R, h.bindL.imp fun vs H1 ⟨xs, m1, M1, e1, S1, r1, h1⟩ => ?_⟩
  rw [List.append_nil]
  exact ⟨O, m1, M1, xs, S1, r1, h1.wish⟩
theorem m_cal0 (F : FnOk X.prog X.w X.K X.mg X.base (L2.CX X.prog X.w) k fa fd ps (spF X.K g.call (f, none))) (hr : Room k X.A) (tk : Takes X W) (hg : Gl X f) (hm : X.mg f = some (.ref fa)) (hk : PySem.W.keepIn X.K (.ref fa) = true) (hb : Binds X.K fd ps [])
    (hdb : (f == ("__debug__" : Str)) = false := by decide) : ME X W g (.Call (.Name f p) [] [] pos) (.cal f .nil) := by
  refine ⟨fun pins s σ H Q I h => ?_⟩
  obtain ⟨O, m, M, r, S, R, h⟩ := h
  simp only [evE, evL, Res.bind_ok] at h
  refine wpAny_Call_Name_kw (ld_glob I hg hm ?_ hdb)
  exact PySem.W.callWith_K0 I.kIn hk (run_fnSD (E := fun σ => WE W σ) (us := []) (vs := []) F hr hb .nil (passAt tk σ) I .nil ⟨O, m, M, [], S, .nil, h.wish⟩)
/-- the class and its method, as the text has them -/
structure MtOk (X : Cx) (g : Cfg) (k : Nat) (c m : Str) (fa : Addr) (fd : FuncData) (ps : List Str) : Prop where
  cls : Cls X.K (He.ga X.K c)
  meth : Meth X.K (He.ga X.K c) m fa
  ok : FnOk X.prog X.w X.K X.mg X.base (L2.CX X.prog X.w) k fa fd ps (spF X.K g.call (c, some m))
  bind : Binds X.K fd ps []
theorem m_mth {d : Str} {pl : Sem Bool} (T : MtOk X g k d m fa fd ps) (hr : Room k X.A) (tk : Takes X W) (ho : ME X W g o co) (ha : MA X W g (e :: es) cs)
    (hst : starEach (e :: es) X.env = (false, eval e X.env) :: starEach es X.env := by rfl) (hpl : (backTo pos (starEach es X.env)).any (·.1) = false := by rfl)
    (ht : eval (.Call (.Attribute o m apos) (e :: es) [] pos) X.env = (do
      let ov ← eval o X.env
      standAt apos.atName
      let (f, first) ← holding [ov] (getMethod ov m pl)
      callWith pos f first (backTo pos (starEach (e :: es) X.env)) (backToKw pos (keywordEach [] X.env))) := by rfl) :
    ME X W g (.Call (.Attribute o m apos) (e :: es) [] pos) (.mth d co m cs) := by
  refine ⟨fun pins s σ H Q I h => ?_⟩
  obtain ⟨O, m0, M, r, S, R, h⟩ := h
  simp only [evE] at h
  refine PySem.W.methodCall_KW (pl := pl) (thn (ho.run pins s σ H _ I ⟨O, m0, M, r, S, R, h.bindE⟩) fun u s1 ⟨v, H1, I1, rx, x, m1, M1, e1, S1, r1, h1⟩ => ?_) ht
  dsimp only at h1
  cases q : insV M1 x with
  | none => rw [q] at h1; exact h1.elim
  | some df =>
    obtain ⟨dd, fs⟩ := df
    rw [q] at h1
    dsimp only at h1
    split at h1
    · rename_i hc
      obtain ⟨hc1, hc2⟩ := hc
      subst hc1
      obtain ⟨a, dx, gs, rfl, h2, h3⟩ := ins_of S1 r1 q
      obtain rfl : u = Value.ref a := rx
      refine getmeth_ok I1 h2 T.cls T.meth (h3.none hc2) ?_
      refine PySem.W.callWith_K (first := [.ref a]) (h₀ := X.base) I.ok.mod.kin T.meth.kp (thn (ha.run pos pins s1 σ H1 _ I1 ⟨O, m1, M1, r, S1, R.ext e1, h1.bindL⟩) fun us s2 ⟨vs, H2, I2, rr, xs, m2, M2, e2, S2, r2, hq⟩ => ⟨I2.kIn, ?_⟩) hst hpl
      exact run_fnSD (E := fun σ => WE W σ) (us := .ref a :: us) (vs := .ref a :: vs) T.ok hr T.bind .nil (passAt tk σ) I2 (.cons rfl rr) ⟨O, m2, M2, x :: xs, S2, by rw [List.append_nil]; exact .cons (r1.ext e2) r2, hq.wish⟩
    · exact h1.elim
theorem m_mth0 {d : Str} {pl : Sem Bool} (T : MtOk X g k d m fa fd ps) (hr : Room k X.A) (tk : Takes X W) (ho : ME X W g o co)
    (ht : eval (.Call (.Attribute o m apos) [] [] pos) X.env = (do
      let ov ← eval o X.env
      standAt apos.atName
      let (f, first) ← holding [ov] (getMethod ov m pl)
      callWith pos f first (backTo pos (starEach [] X.env)) (backToKw pos (keywordEach [] X.env))) := by rfl) :
    ME X W g (.Call (.Attribute o m apos) [] [] pos) (.mth d co m .nil) := by
  refine ⟨fun pins s σ H Q I h => ?_⟩
  obtain ⟨O, m0, M, r, S, R, h⟩ := h
  simp only [evE, evL, Res.bind_ok] at h
  refine PySem.W.methodCall_KW (pl := pl) (thn (ho.run pins s σ H _ I ⟨O, m0, M, r, S, R, h.bindE⟩) fun u s1 ⟨v, H1, I1, rx, x, m1, M1, e1, S1, r1, h1⟩ => ?_) ht
  dsimp only at h1
  cases q : insV M1 x with
  | none => rw [q] at h1; exact h1.elim
  | some df =>
    obtain ⟨dd, fs⟩ := df
    rw [q] at h1
    dsimp only at h1
    split at h1
    · rename_i hc
      obtain ⟨hc1, hc2⟩ := hc
      subst hc1
      obtain ⟨a, dx, gs, rfl, h2, h3⟩ := ins_of S1 r1 q
      obtain rfl : u = Value.ref a := rx
      refine getmeth_ok I1 h2 T.cls T.meth (h3.none hc2) ?_
      exact PySem.W.callWith_K0 (first := [.ref a]) I1.kIn T.meth.kp (run_fnSD (E := fun σ => WE W σ) (us := [.ref a]) (vs := [.ref a]) T.ok hr T.bind .nil (passAt tk σ) I1 (.cons rfl .nil) ⟨O, m1, M1, [x], S1, .cons r1 .nil, h1.wish⟩)
    · exact h1.elim
/-! ### a new instance, a cell -/
structure NwOk (X : Cx) (g : Cfg) (k : Nat) (c : Str) (fa : Addr) (fd : FuncData) (ps : List Str) : Prop where
  mkr : Mk X.K (He.ga X.K c) fa
  glob : X.mg c = some (.ref (He.ga X.K c))
  ok : FnOk X.prog X.w X.K X.mg X.base (L2.CX X.prog X.w) k fa fd ps (spF X.K g.call (c, some "__init__"))
  bind : Binds X.K fd ps []
theorem run_makeS {C : Addr} {sp : Sp} {E : St → XK} {pins : List (Addr × Obj)} {σ : St} {H : Hp} {s : Shared} {Q : VK} {us : List Value} {vs : List V} (M : Mk X.K C fa) (F : FnOk X.prog X.w X.K X.mg X.base (L2.CX X.prog X.w) k fa fd ps sp) (hr : Room (k + 1) X.A) (hb : Binds X.K fd ps [])
    (hx : PassesAt (L2.CX X.prog X.w) X σ (E σ)) (I : L2.Inv X pins σ H s) (r : Vals vs us)
    (h : ∀ x dx, H x = none → H dx = none → dx ≠ x → sp (.ref x :: vs) (upd (upd H dx (.own x)) x (.ins C dx [])) (fun v H2 => v = .non ∧ Q (.ref x) H2) (E σ)) :
    wpAny (model X.prog X.w) X.A (call (.ref C) us) (EP X pins σ Q) X.xe s := by
  have hq := h (s.heap.objs.size + 1) s.heap.objs.size (I.hok.fresh (Nat.le_succ _)) (I.hok.fresh (Nat.le_refl _)) (Nat.ne_of_lt (Nat.lt_succ_self _))
  have I2 := Inv.made (C := C) I
  have r2 : Vals (V.ref (s.heap.objs.size + 1) :: vs) (Value.ref (s.heap.objs.size + 1) :: us) := .cons rfl r
  have hl : (Value.ref (s.heap.objs.size + 1) :: us).length = ps.length := by
    have e := r2.length
    rw [F.len _ _ _ _ hq] at e
    exact e.symm
  refine wpAny_call (make_map (f := fa) I.kIn M.makes M.init (beq_iff_eq.mp M.fn) (codeAny_mono (F.run _ X.stack _ _ ⟨Value.ref (s.heap.objs.size + 1) :: us, []⟩ (Value.ref (s.heap.objs.size + 1) :: us) _ _ (E σ) (hr.make C us [])
    (I2.env0.make C us []) (by have z := hb _ (Value.ref (s.heap.objs.size + 1) :: us) I2.kIn (by rw [List.append_nil]; exact hl); rw [List.append_nil] at z; exact z) r2 hq) fun r s' hq' => ?_))
  cases r with
  | error e => exact hx pins _ _ e s' I2 hq'
  | ok fl =>
    cases fl with
    | ret u =>
      obtain ⟨v, H', I3, rv, ev, q3⟩ := I2.after hq'
      subst ev
      exact ⟨rv, ⟨V.ref (s.heap.objs.size + 1), H', I3, rfl, q3⟩⟩
    | next => exact False.elim hq'
    | brk => exact False.elim hq'
    | cont => exact False.elim hq'
theorem new_of {d : Str} {O m1 : List Addr} {M1 : Mem} {H1 : Hp} {σ : St} {Q : VK} {vs : List V} {xs : List MV} (S1 : Sim X.K O m1 M1 H1) (r1 : RepL X.K (gr O m1 H1) m1 vs xs)
    (h1 : PostE X.K O m1 H1 W σ Q ((g.call (d, some "__init__") (.ref M1.length :: xs) (M1 ++ [.ins d []])).bind fun y M2 => (match y with
      | .non => .ok (.ref M1.length) M2
      | _ => .stuck))) (x dx : Addr) (nx : H1 x = none) (ndx : H1 dx = none) (ne : dx ≠ x) :
    spF X.K g.call (d, some "__init__") (.ref x :: vs) (upd (upd H1 dx (.own x)) x (.ins (He.ga X.K d) dx [])) (fun v H2 => v = .non ∧ Q (.ref x) H2) (WE W σ) := by
  have S2 : Sim X.K O m1 M1 (upd H1 dx (.own x)) := S1.alloc ndx
  have nx2 : upd H1 dx (.own x) x = none := by rw [upd_ne (Ne.symm ne)]; exact nx
  have e2 : Ext m1 H1 (m1 ++ [x]) (upd (upd H1 dx (.own x)) x (.ins (He.ga X.K d) dx [])) := (Ext.alloc S1 ndx).trans (Ext.cell S2 nx2)
  have S3 : Sim X.K O (m1 ++ [x]) (M1 ++ [.ins d []]) (upd (upd H1 dx (.own x)) x (.ins (He.ga X.K d) dx [])) := S2.cell nx2 ⟨dx, [], upd_same, .nil⟩
  have hx : (m1 ++ [x])[M1.length]? = some x := by
    rw [← S1.len, List.getElem?_append_right (Nat.le_refl _), Nat.sub_self]
    rfl
  refine ⟨O, m1 ++ [x], M1 ++ [.ins d []], .ref M1.length :: xs, S3, .cons (.ref hx) (r1.ext e2), ?_⟩
  refine ((PostE.later h1 e2).wish.bindE).imp fun v H' ⟨y, m', M', e', S', r', h'⟩ => ?_
  cases y with
  | non =>
    cases r'
    exact ⟨rfl, h' (.ref x) m' H' Ext.refl S' (.ref (pre_get e'.pre hx))⟩
  | _ => exact h'.elim
theorem m_new {d : Str} (T : NwOk X g k d fa fd ps) (hr : Room (k + 1) X.A) (tk : Takes X W) (hg : Gl X d) (ha : MA X W g (e :: es) cs) (hdb : (d == ("__debug__" : Str)) = false := by decide)
    (he : starEach (e :: es) X.env = (false, eval e X.env) :: starEach es X.env := by rfl) (hpl : (backTo pos (starEach es X.env)).any (·.1) = false := by rfl) : ME X W g (.Call (.Name d p) (e :: es) [] pos) (.new d cs) := by
  refine ⟨fun pins s σ H Q I h => ?_⟩
  obtain ⟨O, m0, M, r, S, R, h⟩ := h
  simp only [evE] at h
  refine wpAny_Call_Name_kw (ld_glob I hg T.glob ?_ hdb)
  refine PySem.W.callWith_K (h₀ := X.base) I.ok.mod.kin T.mkr.kp (thn (ha.run pos pins s σ H _ I ⟨O, m0, M, r, S, R, h.bindL⟩) fun us s1 ⟨vs, H1, I1, rr, xs, m1, M1, e1, S1, r1, h1⟩ => ⟨I1.kIn, ?_⟩) he hpl
  exact run_makeS (E := fun σ => WE W σ) T.mkr T.ok hr T.bind (passAt tk σ) I1 rr (new_of S1 r1 h1)
theorem m_new0 {d : Str} (T : NwOk X g k d fa fd ps) (hr : Room (k + 1) X.A) (tk : Takes X W) (hg : Gl X d) (hdb : (d == ("__debug__" : Str)) = false := by decide) : ME X W g (.Call (.Name d p) [] [] pos) (.new d .nil) := by
  refine ⟨fun pins s σ H Q I h => ?_⟩
  obtain ⟨O, m0, M, r, S, R, h⟩ := h
  simp only [evE, evL, Res.bind_ok] at h
  refine wpAny_Call_Name_kw (ld_glob I hg T.glob ?_ hdb)
  exact PySem.W.callWith_K0 I.kIn T.mkr.kp (run_makeS (E := fun σ => WE W σ) (us := []) T.mkr T.ok hr T.bind (passAt tk σ) I .nil (new_of S .nil h))
/-! ### built-ins -/
theorem blt_of {f : Bi} {s : St} {H : Hp} {Q : VK} (h : tE X.K W g (.blt f cs) s H Q) : tCB (rVL X.K (bltV f)) (tA X.K W g cs) s H Q := by
  obtain ⟨O, m, M, r, S, R, h⟩ := h
  simp only [evE] at h
  refine ⟨O, m, M, r, S, R, h.bindL.imp fun vs H1 ⟨xs, m1, M1, e1, S1, r1, h1⟩ => ?_⟩
  obtain ⟨z, hz, fin⟩ := h1.opt
  exact ⟨O, m1, M1, xs, z, S1, r1, hz, fin⟩
theorem m_bltB {f : Bi} {x : Str} {id : String} (hc : CallR X (.builtin id) (rVL X.K (bltV f))) (hg : Gl X x) (hm : X.mg x = none) (hv : bootBuiltins x = some (.builtin id)) (ha : MA X W g (e :: es) cs) (hn : x ≠ "__name__" := by decide) (hd : (x == ("__debug__" : Str)) = false := by decide)
    (he : starEach (e :: es) X.env = (false, eval e X.env) :: starEach es X.env := by rfl) (hpl : (backTo pos (starEach es X.env)).any (·.1) = false := by rfl) : ME X W g (.Call (.Name x p) (e :: es) [] pos) (.blt f cs) :=
  PE_imp (pe_callB (hn := hn) (hdb := hd) (he := he) (hpl := hpl) hc hg hm hv ha) fun s H Q h => blt_of h
theorem m_bltT {f : Bi} {x : Str} {id : String} (hc : CallR X (.type id) (rVL X.K (bltV f))) (hg : Gl X x) (hm : X.mg x = none) (hv : bootBuiltins x = some (.type id)) (ha : MA X W g (e :: es) cs) (hn : x ≠ "__name__" := by decide) (hd : (x == ("__debug__" : Str)) = false := by decide)
    (he : starEach (e :: es) X.env = (false, eval e X.env) :: starEach es X.env := by rfl) (hpl : (backTo pos (starEach es X.env)).any (·.1) = false := by rfl) : ME X W g (.Call (.Name x p) (e :: es) [] pos) (.blt f cs) :=
  PE_imp (pe_callTy (hn := hn) (hdb := hd) (he := he) (hpl := hpl) hc hg hm hv ha) fun s H Q h => blt_of h
end
end Mini

set_option Elab.async false
set_option linter.all false
set_option maxRecDepth 100000
set_option maxHeartbeats 1000000
/-! MiG: isinstance, built-in methods, dicts, targets, what is walked, comprehensions. -/
namespace Mini
open PySem L2
section
variable {X : Cx} {W : WX} {g : Cfg} {a b c e o : Expr} {es rest : List Expr} {ca cb cc ce co : CE} {cs : CL} {pos p p' apos : Pos}
/-! ### isinstance -/
theorem m_isi {T : Str} {n : String} (hg : Gl X "isinstance") (hm : X.mg "isinstance" = none) (hgT : Gl X T) (hmT : X.mg T = none) (hvT : bootBuiltins T = some (.type n)) (ha : ME X W g a ca) (hnT : T ≠ "__name__" := by decide) (hdT : (T == ("__debug__" : Str)) = false := by decide)
    (he : starEach [a, .Name T p'] X.env = [(false, eval a X.env), (false, eval (.Name T p') X.env)] := by rfl) : ME X W g (.Call (.Name "isinstance" p) [a, .Name T p'] [] pos) (.isi ca [n]) := by
  have hT : PE X (.Name T p') (tC (.ty n)) := pe_bltn hgT hmT hvT rfl hnT hdT
  refine PE_imp (pe_callB (call_isi (X := X)) hg hm (by decide +kernel) (pa_cons ha (pa_cons hT pa_nil (by rfl)) (by rw [he]; rfl)) (he := by rw [he]; rfl) (hpl := by rfl)) fun s H Q ⟨O, m, M, r, S, R, h⟩ => ?_
  simp only [evE] at h
  refine ⟨O, m, M, r, S, R, h.bindE.imp fun v H1 ⟨x, m1, M1, e1, S1, r1, h1⟩ => ?_⟩
  obtain ⟨z, hz, fin⟩ := h1.opt
  obtain ⟨k, hk, ez⟩ := map_some hz
  subst ez
  have hi : ∃ t, tyV2 M1 x = some t ∧ kitB t n = some k := by
    unfold isiA isiT at hk
    cases q : tyV2 M1 x with
    | none => rw [q] at hk; cases hk
    | some t =>
      refine ⟨t, rfl, ?_⟩
      rw [q] at hk
      simp only [Option.bind_some] at hk
      cases q2 : kitB t n with
      | none => rw [q2] at hk; cases hk
      | some k2 =>
        rw [q2] at hk
        cases k2 <;> exact hk
  obtain ⟨t, h2, h3⟩ := hi
  exact ⟨v, .ty n, .type t, .type n, k, rfl, .ty n, ty_rep S1 r1 h2, kit_ty h3, fin.here S1 (.bl _)⟩
/-! ### built-in methods -/
theorem rec_lst {M : Mem} {x : MV} (h : (match x with
    | .ref n => (match M[n]? with
      | some (.lst _) => true
      | _ => false)
    | _ => false) = true) : ∃ n xs, x = .ref n ∧ M[n]? = some (.lst xs) := by
  cases x with
  | ref n =>
    simp only at h
    cases q : M[n]? with
    | none => rw [q] at h; cases h
    | some c =>
      cases c with
      | lst xs => exact ⟨n, xs, rfl, q⟩
      | ins _ _ => rw [q] at h; cases h
      | dct _ => rw [q] at h; cases h
  | _ => cases h
theorem cell_lst {K : PySem.W.Frag} {O m : List Addr} {M : Mem} {H : Hp} {v : V} {n : Nat} {xs : List MV} (S : Sim K O m M H) (r : RepV K (gr O m H) m v (.ref n)) (e : M[n]? = some (.lst xs)) : ∃ a vs, v = .ref a ∧ m[n]? = some a ∧ H a = some (.lst vs) ∧ RepL K (gr O m H) m vs xs := by
  cases r with
  | ref h1 =>
    obtain ⟨a, h2, vs, h3, h4⟩ := S.cel n _ e
    rw [h1] at h2
    cases h2
    exact ⟨_, vs, rfl, h1, h3, h4⟩
theorem m_append (ho : ME X W g o co) (ha : ME X W g e ce)
    (hbase : attributeBase o "append" X.env (eval o X.env) = eval o X.env := by rfl) (hfew : ((backTo pos (starEach [e] X.env)).all (fun x => !x.1) && (backToKw pos (keywordEach [] X.env)).all (fun x => x.1.isSome)
      && decide (([e] : List Expr).length + ([] : List Keyword).length + (if ([] : List Keyword).isEmpty then 0 else 1) < 30)) = true := by rfl) (hline : (apos.endLine == pos.line) = true := by rfl) (hs : starEach [e] X.env = [(false, eval e X.env)] := by rfl) :
    ME X W g (.Call (.Attribute o "append" apos) [e] [] pos) (.bmt .append co (.cons ce .nil)) := by
  have hA : MA X W g [e] (.cons ce .nil) := a_cons ha a_nil (by rw [hs]; rfl)
  refine PE_imp (pe_bm PySem.F.plainAttrs_list PySem.F.slot_list_append PySem.F.type_list_append mt_append ho hA hbase hfew hline (by rw [hs]; rfl) (by rfl)) fun s H Q ⟨O, m, M, r, S, R, h⟩ => ?_
  simp only [evE] at h
  refine ⟨O, m, M, r, S, R, h.bindE.imp fun v H1 ⟨x, m1, M1, e1, S1, r1, h1⟩ => ?_⟩
  dsimp only at h1
  split at h1
  · rename_i hr
    obtain ⟨n, xs, rfl, hn⟩ := rec_lst hr
    obtain ⟨a, vs, rfl, h2, h3, h4⟩ := cell_lst S1 r1 hn
    refine ⟨.inl ⟨rfl, vs, SqL.of h3⟩, O, m1, M1, r, S1, R.ext e1, h1.bindL.imp fun ws H2 ⟨ys, m2, M2, e2, S2, r2, hq⟩ => ?_⟩
    cases q : bmtV .append M2 (.ref n) ys with
    | none => rw [q] at hq; exact hq.elim
    | some ym =>
      obtain ⟨y, M3⟩ := ym
      rw [q] at hq
      simp only [bmtV] at q
      split at q
      · rename_i n' y' heq
        cases heq
        cases q2 : M2[n]? with
        | none => rw [q2] at q; cases q
        | some c =>
          rw [q2] at q
          cases c with
          | ins _ _ => cases q
          | dct _ => cases q
          | lst zs =>
            obtain ⟨hz, q⟩ := ite_some q
            cases q
            obtain ⟨w, rfl, rw'⟩ := r2.one
            obtain ⟨a', ws, ea, k2, k3, k4⟩ := cell_lst S2 (r1.ext e2) q2
            cases ea
            refine ⟨a, ws, w, rfl, rfl, k3, by rw [k4.len]; exact hz, ?_⟩
            refine hq .non m2 _ (Ext.write k2) (S2.write k2 ⟨_, upd_same, ?_⟩) .non
            rw [gr_write (List.mem_of_getElem? k2)]
            exact k4.append (.cons rw' .nil)
      · cases q
  · exact h1.elim
theorem m_pop (ho : ME X W g o co)
    (hbase : attributeBase o "pop" X.env (eval o X.env) = eval o X.env := by rfl) (hline : (apos.endLine == pos.line) = true := by rfl) :
    ME X W g (.Call (.Attribute o "pop" apos) [] [] pos) (.bmt .pop co .nil) := by
  refine PE_imp (pe_bm0 PySem.F.plainAttrs_list PySem.F.slot_list_pop PySem.F.type_list_pop mt_pop ho hbase hline) fun s H Q ⟨O, m, M, r, S, R, h⟩ => ?_
  simp only [evE] at h
  refine ⟨O, m, M, r, S, R, h.bindE.imp fun v H1 ⟨x, m1, M1, e1, S1, r1, h1⟩ => ?_⟩
  dsimp only at h1
  split at h1
  · rename_i hr
    obtain ⟨n, xs, rfl, hn⟩ := rec_lst hr
    obtain ⟨a, vs, rfl, h2, h3, h4⟩ := cell_lst S1 r1 hn
    refine ⟨.inl ⟨rfl, vs, SqL.of h3⟩, ?_⟩
    simp only [evL, Res.bind_ok] at h1
    simp only [bmtV, hn] at h1
    cases q : xs[xs.length - 1]? with
    | none => rw [q] at h1; exact h1.elim
    | some y =>
      rw [q] at h1
      obtain ⟨w, k1, k2⟩ := h4.get q
      refine ⟨a, vs, w, rfl, rfl, h3, by rw [h4.len]; exact k1, ?_⟩
      refine h1 w m1 _ (Ext.write h2) (S1.write h2 ⟨_, upd_same, ?_⟩) ?_
      · rw [gr_write (List.mem_of_getElem? h2)]
        exact h4.dropLast
      · rw [gr_write (List.mem_of_getElem? h2)]
        exact k2
  · exact h1.elim
theorem m_join (ho : ME X W g o co) (ha : ME X W g e ce)
    (hbase : attributeBase o "join" X.env (eval o X.env) = eval o X.env := by rfl) (hfew : ((backTo pos (starEach [e] X.env)).all (fun x => !x.1) && (backToKw pos (keywordEach [] X.env)).all (fun x => x.1.isSome)
      && decide (([e] : List Expr).length + ([] : List Keyword).length + (if ([] : List Keyword).isEmpty then 0 else 1) < 30)) = true := by rfl) (hline : (apos.endLine == pos.line) = true := by rfl) (hs : starEach [e] X.env = [(false, eval e X.env)] := by rfl) :
    ME X W g (.Call (.Attribute o "join" apos) [e] [] pos) (.bmt .join co (.cons ce .nil)) := by
  have hA : MA X W g [e] (.cons ce .nil) := a_cons ha a_nil (by rw [hs]; rfl)
  refine PE_imp (pe_bm PySem.F.plainAttrs_str PySem.F.slot_str_join PySem.F.type_str_join mt_join ho hA hbase hfew hline (by rw [hs]; rfl) (by rfl)) fun s H Q ⟨O, m, M, r, S, R, h⟩ => ?_
  simp only [evE] at h
  refine ⟨O, m, M, r, S, R, h.bindE.imp fun v H1 ⟨x, m1, M1, e1, S1, r1, h1⟩ => ?_⟩
  dsimp only at h1
  split at h1
  · rename_i hr
    cases x with
    | str t =>
      cases r1
      refine ⟨rfl, O, m1, M1, r, S1, R.ext e1, h1.bindL.imp fun ws H2 ⟨ys, m2, M2, e2, S2, r2, hq⟩ => ?_⟩
      cases q : bmtV .join M2 (.str t) ys with
      | none => rw [q] at hq; exact hq.elim
      | some ym =>
        obtain ⟨y, M3⟩ := ym
        rw [q] at hq
        simp only [bmtV] at q
        split at q
        · rename_i a' y' heq
          cases heq
          obtain ⟨zs, k1, q⟩ := bind_some q
          obtain ⟨ss, k2, q⟩ := bind_some q
          obtain ⟨hz, q⟩ := ite_some q
          cases q
          obtain ⟨w, rfl, rw'⟩ := r2.one
          obtain ⟨a, vs, rfl, k3, k4⟩ := asL_of S2 rw' k1
          have ev := k4.strL k2
          subst ev
          exact ⟨t, a, ss, rfl, rfl, .inl (SqL.of k3), hz, hq _ m2 H2 Ext.refl S2 (.str _)⟩
        · cases q
    | _ => cases hr
  · exact h1.elim
/-! ### dicts: a display, and get -/
def tPs (K : PySem.W.Frag) (W : WX) (g : Cfg) : List Key → CL → List (TE × TE)
  | k :: ks, .cons e es => (tC (kV k), tE K W g e) :: tPs K W g ks es
  | _, _ => []
/-- as many keys as values, none with a star -/
def fitK : List Key → CL → Bool
  | [], .nil => true
  | _ :: ks, .cons _ es => fitK ks es
  | _, _ => false
theorem pairs_of {K : PySem.W.Frag} {s : St} {O : List Addr} : ∀ {ks : List Key} {cs : CL} {m : List Addr} {M : Mem} {H : Hp} {r : Rho} {Q : List (V × V) → Hp → Prop}, fitK ks cs = true → Sim K O m M H → EnvR K (gr O m H) m s r →
    PostL K O m H W s (fun vs H' => Q ((ks.zip vs).map fun kv => (kV kv.1, kv.2)) H') (evL g r cs M) → tPairs (tPs K W g ks cs) s H Q
  | [], .nil, m, M, H, r, Q, _, S, R, h => h [] m H Ext.refl S .nil
  | k :: ks, .cons e es, m, M, H, r, Q, hl, S, R, h => by
    simp only [evL] at h
    refine ⟨O, m, M, r, S, R, h.bindE.imp fun v H1 ⟨x, m1, M1, e1, S1, r1, h1⟩ => ?_⟩
    refine pairs_of (ks := ks) (cs := es) hl S1 (R.ext e1) (h1.bindL.imp fun vs H2 ⟨xs, m2, M2, e2, S2, r2, h2⟩ => ?_)
    exact h2 (v :: vs) m2 H2 Ext.refl S2 (.cons (r1.ext e2) r2)
  | k :: ks, .nil, m, M, H, r, Q, hl, S, R, h => by cases hl
  | k :: ks, .star _ _, m, M, H, r, Q, hl, S, R, h => by cases hl
  | [], .cons _ _, m, M, H, r, Q, hl, S, R, h => by cases hl
  | [], .star _ _, m, M, H, r, Q, hl, S, R, h => by cases hl
/-- an object just laid, out of reach -/
theorem gr_hid {O m : List Addr} {H : Hp} {p : Addr} {o : HO} (hn : H p = none) : gr (p :: O) m (upd H p o) = gr O m H := by
  funext a
  show hide _ _ _ = hide _ _ _
  unfold hide
  by_cases ha : a = p
  · subst ha
    rw [if_pos (by simp), hn]
    split <;> rfl
  · rw [upd_ne ha]
    by_cases hm : a ∈ O ++ m
    · rw [if_pos hm, if_pos (by simp only [List.cons_append, List.mem_cons]; exact .inr hm)]
    · rw [if_neg hm, if_neg (by simp only [List.cons_append, List.mem_cons]; exact fun z => z.elim ha hm)]
theorem Sim.hid {K : PySem.W.Frag} {O m : List Addr} {M : Mem} {H : Hp} (S : Sim K O m M H) {p : Addr} {o : HO} (hn : H p = none) : Sim K (p :: O) m M (upd H p o) := by
  refine ⟨S.len, S.nd, fun a ha z => ?_, fun i c q => ?_, fun a ha => ?_⟩
  · rcases List.mem_cons.mp z with z | z
    · exact S.fresh hn (z ▸ ha)
    · exact S.dis a ha z
  · obtain ⟨a, h1, h2⟩ := S.cel i c q
    obtain ⟨u, eu⟩ := S.tracked (List.mem_of_getElem? h1)
    refine ⟨a, h1, ?_⟩
    have e : Same (gr O m H) (gr (p :: O) m (upd H p o)) := by rw [gr_hid hn]; exact Same.refl _
    cases c with
    | lst xs =>
      obtain ⟨vs, e1, e2⟩ := h2
      exact ⟨vs, by rw [upd_ne (ne_of_none eu hn)]; exact e1, e2.mono e (List.prefix_refl _)⟩
    | ins c fs =>
      obtain ⟨dx, gs, e1, e2⟩ := h2
      exact ⟨dx, gs, by rw [upd_ne (ne_of_none eu hn)]; exact e1, e2.mono e (List.prefix_refl _)⟩
    | dct kvs =>
      obtain ⟨ps, e1, e2⟩ := h2
      exact ⟨ps, by rw [upd_ne (ne_of_none eu hn)]; exact e1, e2.mono e (List.prefix_refl _)⟩
  · rcases List.mem_cons.mp ha with z | z
    · rw [z, upd_same]; exact fun q => nomatch q
    · rw [upd_ne (fun q => S.otr a z (by rw [q]; exact hn))]
      exact S.otr a z
theorem gr_unhid {O m : List Addr} {H : Hp} {p : Addr} : Same (gr (p :: O) m H) (gr O m H) := fun a o h => by
  obtain ⟨h1, h2⟩ := of_hide h
  show hide _ _ _ = _
  rw [hide_of fun z => h1 (by simp only [List.cons_append, List.mem_cons]; exact .inr z)]
  exact h2
theorem Sim.unhid {K : PySem.W.Frag} {O m : List Addr} {M : Mem} {H : Hp} {p : Addr} (S : Sim K (p :: O) m M H) : Sim K O m M H := by
  refine ⟨S.len, S.nd, fun a ha z => S.dis a ha (List.mem_cons_of_mem _ z), fun i c q => ?_, fun a ha => S.otr a (List.mem_cons_of_mem _ ha)⟩
  obtain ⟨a, h1, h2⟩ := S.cel i c q
  refine ⟨a, h1, ?_⟩
  cases c with
  | lst xs =>
    obtain ⟨vs, e1, e2⟩ := h2
    exact ⟨vs, e1, e2.mono gr_unhid (List.prefix_refl _)⟩
  | ins c fs =>
    obtain ⟨dx, gs, e1, e2⟩ := h2
    exact ⟨dx, gs, e1, e2.mono gr_unhid (List.prefix_refl _)⟩
  | dct kvs =>
    obtain ⟨ps, e1, e2⟩ := h2
    exact ⟨ps, e1, e2.mono gr_unhid (List.prefix_refl _)⟩
/-- what is out of reach is changed -/
theorem gr_set {O m : List Addr} {H : Hp} {p : Addr} {o : HO} (hp : p ∈ O) : gr O m (upd H p o) = gr O m H := by
  funext a
  show hide _ _ _ = hide _ _ _
  unfold hide
  split
  · rfl
  · rename_i hb
    exact upd_ne fun z => hb (List.mem_append_left _ (z ▸ hp))
theorem Sim.set {K : PySem.W.Frag} {O m : List Addr} {M : Mem} {H : Hp} {p : Addr} {o : HO} (S : Sim K O m M H) (hp : p ∈ O) : Sim K O m M (upd H p o) := by
  refine ⟨S.len, S.nd, S.dis, fun i c q => ?_, fun a ha => ?_⟩
  · obtain ⟨a, h1, h2⟩ := S.cel i c q
    have ne : a ≠ p := fun z => S.dis a (List.mem_of_getElem? h1) (z ▸ hp)
    refine ⟨a, h1, ?_⟩
    cases c with
    | lst xs =>
      obtain ⟨vs, e1, e2⟩ := h2
      refine ⟨vs, by rw [upd_ne ne]; exact e1, ?_⟩
      show RepL K (gr O m (upd H p o)) m vs xs
      rw [gr_set hp]
      exact e2
    | ins c fs =>
      obtain ⟨dx, gs, e1, e2⟩ := h2
      refine ⟨dx, gs, by rw [upd_ne ne]; exact e1, ?_⟩
      show RepF K (gr O m (upd H p o)) m gs fs
      rw [gr_set hp]
      exact e2
    | dct kvs =>
      obtain ⟨ps, e1, e2⟩ := h2
      refine ⟨ps, by rw [upd_ne ne]; exact e1, ?_⟩
      show RepT K (gr O m (upd H p o)) m ps kvs
      rw [gr_set hp]
      exact e2
  · by_cases z : a = p
    · rw [z, upd_same]; exact fun q => nomatch q
    · rw [upd_ne z]; exact S.otr a ha
/-- from a heap to a later one over an object that came between -/
theorem Ext.over {m m' : List Addr} {H H' : Hp} {p : Addr} {o o' : HO} (hn : H p = none) (hp : p ∉ m') (e : Ext m (upd H p o) m' H') : Ext m H m' (upd H' p o') := by
  refine ⟨e.pre, fun a u ha h => ?_, fun a ha => ?_, fun a u h => ?_⟩
  · have ne := ne_of_none h hn
    rw [upd_ne ne]
    exact e.keep a u ha (by rw [upd_ne ne]; exact h)
  · rcases e.new a ha with z | z
    · exact .inl z
    · refine .inr ?_
      have ne : a ≠ p := fun q => hp (q ▸ ha)
      rw [upd_ne ne] at z
      exact z
  · have ne := ne_of_none h hn
    obtain ⟨u', h'⟩ := e.there a u (by rw [upd_ne ne]; exact h)
    exact ⟨u', by rw [upd_ne ne]; exact h'⟩
theorem putK_new : ∀ {acc : List (Key × V)} {k : Key} {v : V}, (∀ p ∈ acc, p.1 ≠ k) → putK acc k v = acc ++ [(k, v)]
  | acc, k, v, h => by
    unfold putK
    have q : (acc.any fun kv => decide (kv.1 = k)) = false := by
      rw [List.any_eq_false]
      intro p hp
      simpa using h p hp
    simp [q]
theorem merge_new : ∀ {ks : List Key} {vs : List V} {acc : List (Key × V)}, ks.Nodup → (∀ p ∈ acc, p.1 ∉ ks) → mergeK acc (ks.zip vs) = acc ++ ks.zip vs
  | [], vs, acc, _, _ => by simp [mergeK]
  | k :: ks, [], acc, _, _ => by simp [mergeK]
  | k :: ks, v :: vs, acc, nd, h => by
    have nd' := List.nodup_cons.mp nd
    show mergeK (putK acc k v) (ks.zip vs) = _
    rw [putK_new fun p hp z => h p hp (by rw [z]; exact List.mem_cons_self), merge_new nd'.2 fun p hp => ?_]
    · simp
    · rcases List.mem_append.mp hp with hp | hp
      · exact fun z => h p hp (List.mem_cons_of_mem _ z)
      · rw [List.mem_singleton.mp hp]; exact nd'.1
theorem RepK.zip {K : PySem.W.Frag} {G : Hp} {m : List Addr} : ∀ {ks : List Key} {vs : List V} {xs : List MV}, RepL K G m vs xs → RepK K G m (ks.zip vs) (ks.zip xs)
  | [], _, _, _ => .nil
  | _ :: _, [], [], _ => .nil
  | k :: ks, _ :: _, _ :: _, .cons h h' => .cons h (RepK.zip h')
theorem m_dsp {keys : List (Option Expr)} {values : List Expr} {ks : List Key} (h : PPs X pos keys values (tPs X.K W g ks cs)) (hf : fitK ks cs = true := by rfl) (hall : keys.all (·.isSome) = true := by rfl) (hl : keys.length = values.length := by rfl) (h0 : keys ≠ [] := by intro z; cases z)
    (h15 : keys.length ≤ 15 := by decide) : ME X W g (.Dict keys values pos) (.dsp ks cs) := PE_imp (pe_disp h hall hl h0 h15) fun s H Q ⟨O, m, M, r, S, R, h⟩ p hp => by
  simp only [evE] at h
  have R2 : EnvR X.K (gr (p :: O) m (upd H p (.dK []))) m s r := by rw [gr_hid hp]; exact R
  refine pairs_of (O := p :: O) hf (S.hid hp) R2 ?_
  cases q : evL g r cs M with
  | stuck => rw [q] at h; exact h.elim
  | exn d y M1 =>
    rw [q] at h
    intro d v m' H' e' S' r' hd
    have hne : d ≠ p := fun z => by
      have := e'.keep p _ (S.fresh hp) upd_same
      rw [← z, hd] at this
      cases this
    have e2 : Ext m H m' H' := by
      have e3 := Ext.over (o' := .dK []) hp (fun z => S'.dis p z List.mem_cons_self) e'
      have e4 : upd H' p (.dK []) = H' := by
        funext a
        by_cases z : a = p
        · rw [z, upd_same, e'.keep p _ (S.fresh hp) upd_same]
        · rw [upd_ne z]
      rw [e4] at e3
      exact e3
    exact h d v m' H' e2 S'.unhid (r'.mono gr_unhid (List.prefix_refl _)) hd
  | ok xs M1 =>
    rw [q] at h
    simp only [Res.bind_ok] at h
    intro vs m' H' e' S' r'
    split at h
    · rename_i hc
      obtain ⟨hc1, hc2, hc3⟩ := hc
      have hkp := e'.keep p _ (S.fresh hp) upd_same
      refine ⟨hkp, ks.zip vs, rfl, by rw [List.length_zip]; omega, ?_⟩
      rw [merge_new hc2 (by simp), List.nil_append]
      refine h (.ref p) m' _ (Ext.over hp (fun z => S'.dis p z List.mem_cons_self) e') (S'.set List.mem_cons_self).unhid (.dck (ps := ks.zip vs) ?_ ?_)
      · show hide _ _ _ = _
        rw [hide_of, upd_same]
        intro z
        rcases List.mem_append.mp z with z | z
        · exact S.otr p z hp
        · exact S'.dis p z List.mem_cons_self
      · refine (RepK.zip r').mono ?_ (List.prefix_refl _)
        rw [← gr_set (o := .dK (ks.zip vs)) (H := H') (O := p :: O) (m := m') List.mem_cons_self]
        exact gr_unhid
    · exact h.elim
theorem look_rep {K : PySem.W.Frag} {G : Hp} {m : List Addr} {k : Key} : ∀ {ps : List (Key × V)} {kvs : List (Key × MV)}, RepK K G m ps kvs → (valV ps k = none ∧ lookK kvs k = none) ∨ ∃ v x, valV ps k = some v ∧ lookK kvs k = some x ∧ RepV K G m v x
  | [], [], _ => .inl ⟨rfl, rfl⟩
  | (k', v) :: ps, (_, x) :: kvs, .cons h h' => by
    unfold valV lookK
    rw [List.find?_cons, List.find?_cons]
    by_cases z : k' = k
    · rw [decide_eq_true z]
      exact .inr ⟨v, x, rfl, rfl, h⟩
    · rw [decide_eq_false z]
      exact look_rep h'
theorem key_rep {K : PySem.W.Frag} {G : Hp} {m : List Addr} {v : V} {x : MV} {k : Key} (r : RepV K G m v x) (e : keyOf x = some k) : v = kV k := by
  cases r <;> cases e <;> rfl
theorem m_dget {f : Expr} {cf : CE} (hu : X.A.units + 1 < cLine) (ho : ME X W g o co) (he : ME X W g e ce) (hf : ME X W g f cf) (m : M2 X o "get" apos e f pos) : ME X W g (.Call (.Attribute o "get" apos) [e, f] [] pos) (.bmt .dget co (.cons ce (.cons cf .nil))) :=
  PE_imp (pe_dget2 hu ho he hf m) fun s H Q ⟨O, m, M, r, S, R, h⟩ => by
    simp only [evE] at h
    refine ⟨O, m, M, r, S, R, h.bindE.imp fun v H1 ⟨x, m1, M1, e1, S1, r1, h1⟩ => ?_⟩
    dsimp only at h1
    split at h1
    · rename_i hr
      cases x with
      | dck kvs =>
        cases r1 with
        | @dck a ps _ k1 k2 =>
          simp only [evL] at h1
          rw [Res.assoc] at h1
          refine ⟨a, rfl, .inl ⟨ps, .inl (hide_same _ _ k1)⟩, O, m1, M1, r, S1, R.ext e1, h1.bindE.imp fun w H2 ⟨y, m2, M2, e2, S2, r2, h2⟩ => ?_⟩
          dsimp only at h2
          rw [Res.assoc, Res.assoc] at h2
          refine ⟨O, m2, M2, r, S2, (R.ext e1).ext e2, h2.bindE.imp fun u H3 ⟨z, m3, M3, e3, S3, r3, h3⟩ => ?_⟩
          simp only [Res.bind_ok] at h3
          cases q : keyOf y with
          | none => simp only [bmtV, q] at h3; exact h3.elim
          | some k =>
            simp only [bmtV, q, Option.map_some] at h3
            have k3 : gr O m3 H3 a = some (.dK ps) := e3.sub _ _ (e2.sub _ _ k1)
            have k4 := (k2.mono e2.sub e2.pre).mono e3.sub e3.pre
            have hw := key_rep r2 q
            subst hw
            refine ⟨valV ps k, DGet.k (hide_same _ _ k3), ?_⟩
            rcases look_rep (k := k) k4 with ⟨q1, q2⟩ | ⟨v', x', q1, q2, q3⟩
            · rw [q1]
              rw [q2] at h3
              exact h3 u m3 H3 Ext.refl S3 r3
            · rw [q1]
              rw [q2] at h3
              exact h3 v' m3 H3 Ext.refl S3 q3
      | _ => cases hr
    · exact h1.elim
end
end Mini

set_option Elab.async false
set_option linter.all false
set_option maxRecDepth 100000
set_option maxHeartbeats 1000000
/-! MiH: targets, what is walked, comprehensions. -/
namespace Mini
open PySem L2
/-! ### targets -/
def setN (is : List Nat) (vs : List V) (s : St) : St := (is.zip vs).foldl (fun s p => s.set p.1 (some p.2)) s
def gN (is : List Nat) : TGs := fun vs s H Q => vs.length = is.length ∧ Q (setN is vs s) H
section
variable {X : Cx} {W : WX} {g : Cfg} {pos : Pos}
theorem PG_imp {X : Cx} {e : Expr} {t t' : TG} (h : PG X e t) (i : ∀ v s H Q, t' v s H Q → t v s H Q) : PG X e t' := ⟨fun pins s σ H v u Q I r q => h.run pins s σ H v u Q I r (i _ _ _ _ q)⟩
theorem PGs_imp {X : Cx} {e : List Expr} {t t' : TGs} (h : PGs X e t) (i : ∀ v s H Q, t' v s H Q → t v s H Q) : PGs X e t' := ⟨fun pins s σ H v u Q I r q => h.run pins s σ H v u Q I r (i _ _ _ _ q)⟩
theorem gs_nil : PGs X [] (gN []) := PGs_imp pgs_nil fun vs s H Q ⟨h, q⟩ => by
  cases vs with
  | nil => exact ⟨rfl, q⟩
  | cons _ _ => cases h
theorem gs_cons {i : Nat} {x : Str} {es : List Expr} {is : List Nat} (hN : X.N.Nodup) (hi : X.N[i]? = some x) (hx : Loc X.env.scope x) (h : PGs X es (gN is)) (hf : X.fn x = true ∨ X.env.scope.names.lookup x = some .local := by first | exact .inl rfl | exact .inr rfl | assumption)
    (hs : (assignEach (.Name x pos :: es) X.env).map (·.2) = assign (.Name x pos) X.env :: (assignEach es X.env).map (·.2) := by rfl) : PGs X (.Name x pos :: es) (gN (i :: is)) := PGs_imp (pgs_cons (pg_name hN hi hx hf) h hs) fun vs s H Q ⟨h, q⟩ => by
  cases vs with
  | nil => cases h
  | cons v vs => exact ⟨v, vs, rfl, Nat.succ.inj h, q⟩
theorem wipe_set {s : St} {i : Nat} {o : Option V} : ∀ {is : List Nat}, i ∈ is → L2.wipe (s.set i o) is = L2.wipe s is
  | [], h => by cases h
  | j :: is, h => by
    show (L2.wipe (s.set i o) is).set j none = (L2.wipe s is).set j none
    by_cases hm : i ∈ is
    · rw [wipe_set hm]
    · have hj : i = j := by
        rcases List.mem_cons.mp h with z | z
        · exact z
        · exact absurd z hm
      subst hj
      have key : ∀ (is : List Nat), i ∉ is → L2.wipe (s.set i o) is = (L2.wipe s is).set i o := by
        intro is
        induction is with
        | nil => intro _; rfl
        | cons k ks ih =>
          intro hk
          show (L2.wipe (s.set i o) ks).set k none = ((L2.wipe s ks).set k none).set i o
          rw [ih fun z => hk (List.mem_cons_of_mem _ z)]
          rw [List.set_comm _ _ (fun z => hk (by rw [z]; exact List.mem_cons_self))]
      rw [key is hm, List.set_set]
theorem wipe_setN : ∀ {is js : List Nat} {vs : List V} {s : St}, (∀ i ∈ is, i ∈ js) → L2.wipe (setN is vs s) js = L2.wipe s js
  | [], js, vs, s, _ => rfl
  | i :: is, js, [], s, _ => rfl
  | i :: is, js, v :: vs, s, h => by
    show L2.wipe (setN is vs (s.set i (some v))) js = _
    rw [wipe_setN fun k hk => h k (List.mem_cons_of_mem _ hk), wipe_set (h i List.mem_cons_self)]
theorem EnvR.setN {K : PySem.W.Frag} {G : Hp} {m : List Addr} : ∀ {is : List Nat} {vs : List V} {xs : List MV} {s : St} {r : Rho}, EnvR K G m s r → RepL K G m vs xs → EnvR K G m (Mini.setN is vs s) ((is.zip xs).foldl (fun r p => r.set p.1 (some p.2)) r)
  | [], _, _, _, _, h, _ => h
  | _ :: _, [], [], _, _, h, _ => h
  | i :: is, _ :: _, _ :: _, s, r, h, .cons q q' => EnvR.setN (is := is) (h.set q) q'
/-- a target by the interpreter's words -/
def tG (K : PySem.W.Frag) (tg : List Nat) (one : Bool) : TG := fun v s H Q => ∃ O m M x r r2, Sim K O m M H ∧ EnvR K (gr O m H) m s r ∧ RepV K (gr O m H) m v x ∧ bind1 tg one x r = some r2 ∧ ∀ s2, EnvR K (gr O m H) m s2 r2 → L2.wipe s2 tg = L2.wipe s tg → Q s2 H
abbrev MG (X : Cx) (e : Expr) (tg : List Nat) (one : Bool) : Prop := PG X e (tG X.K tg one)
theorem g_name {i : Nat} {x : Str} (hN : X.N.Nodup) (hi : X.N[i]? = some x) (hx : Loc X.env.scope x) (hf : X.fn x = true ∨ X.env.scope.names.lookup x = some .local := by first | exact .inl rfl | exact .inr rfl | assumption) : MG X (.Name x pos) [i] true :=
  PG_imp (pg_name hN hi hx hf) fun v s H Q ⟨O, m, M, x, r, r2, S, R, q, e, h⟩ => by
    have e' : r.set i (some x) = r2 := Option.some.inj e
    subst e'
    exact h _ (R.set q) (wipe_set List.mem_cons_self)
theorem g_tup {es : List Expr} {k : Nat} {is : List Nat} (hc : X.calm = true) (h : PGs X es (gN is)) (hn : (assignEach es X.env).length = is.length := by rfl) (hst : (assignEach es X.env).findIdx? (·.1) = none := by rfl) : MG X (.Tuple es k pos) is false :=
  PG_imp (pg_tup hc h hn hst) fun v s H Q ⟨O, m, M, x, r, r2, S, R, q, e, h⟩ => by
    unfold bind1 at e
    cases x with
    | tup xs =>
      simp only at e
      obtain ⟨hl, e⟩ := ite_some e
      subst e
      obtain ⟨a, vs, rfl, h1, h2⟩ := tup_of q
      exact ⟨a, vs, rfl, h1, by rw [h2.len]; exact hl, by rw [h2.len]; exact hl, h _ (R.setN h2) (wipe_setN fun _ z => z)⟩
    | _ => simp only at e; cases e
end
/-! ### what is walked -/
/-- the walk goes over these values while what stood at its start stands -/
structure Wlk (K : PySem.W.Frag) (J : It) (H1 : Hp) (m1 : List Addr) (G : Hp) (xs : List MV) : Prop where
  go : ∀ H i, (∀ a o, a ∉ m1 → H1 a = some o → H a = some o) → i < xs.length → J.go i H
  stop : ∀ H, (∀ a o, a ∉ m1 → H1 a = some o → H a = some o) → J.stop xs.length H
  yld : ∀ H i v H' x (O m : List Addr) (M : Mem), Ext m1 H1 m H → Same G (gr O m H) → Sim K O m M H → xs[i]? = some x → J.yld i H v H' → Ext m H m H' ∧ Sim K O m M H' ∧ RepV K (gr O m H') m v x
theorem wlk_mk {K : PySem.W.Frag} {J : It} {H1 : Hp} {m1 : List Addr} {G : Hp} {xs : List MV} (h1 : ∀ H i, (∀ a o, a ∉ m1 → H1 a = some o → H a = some o) → i < xs.length → J.go i H) (h2 : ∀ H, (∀ a o, a ∉ m1 → H1 a = some o → H a = some o) → J.stop xs.length H)
    (h3 : ∀ H i v H' x, (∀ a o, a ∉ m1 → H1 a = some o → H a = some o) → xs[i]? = some x → J.yld i H v H' → H' = H ∧ RepV K G m1 v x) : Wlk K J H1 m1 G xs := ⟨h1, h2, fun H i v H' x O m M e hG S hx y => by
  obtain ⟨rfl, rv⟩ := h3 H i v H' x e.keep hx y
  exact ⟨Ext.refl, S, rv.mono hG e.pre⟩⟩
def PostI (K : PySem.W.Frag) (O m : List Addr) (H : Hp) (W : WX) (s : St) (R : It → Hp → Prop) : Res (List MV) → Prop
  | .ok xs M' => ∀ J m' H', Ext m H m' H' → Sim K O m' M' H' → Wlk K J H' m' (gr O m' H') xs → R J H'
  | .exn c x M' => ∀ d v m' H', Ext m H m' H' → Sim K O m' M' H' → RepV K (gr O m' H') m' v x → H' d = some (.xd [(fo c, v)]) → W (.ref (He.ga K c)) (some d) s H'
  | .stuck => False
def tI (K : PySem.W.Frag) (W : WX) (g : Cfg) (c : CI) : TI := fun s H R => ∃ O m M r, Sim K O m M H ∧ EnvR K (gr O m H) m s r ∧ PostI K O m H W s R (evI g r c M)
section
variable {X : Cx} {W : WX} {g : Cfg} {tg e a b : Expr} {ce ca cb : CE} {pos p : Pos}
abbrev MI (X : Cx) (W : WX) (g : Cfg) (tg e : Expr) (c : CI) : Prop := PI X tg e (tI X.K W g c)
theorem PI_imp {X : Cx} {tg e : Expr} {t t' : TI} (h : PI X tg e t) (i : ∀ s H Q, t' s H Q → t s H Q) : PI X tg e t' := ⟨fun pins s σ H Q I q => h.run pins s σ H Q I (i _ _ _ q)⟩
def iSeq (K : PySem.W.Frag) (tl : TE) : TI := fun σ H R => tl σ H fun x H1 => ∃ a, x = .ref a ∧ (((∃ xs, SqL K H1 a xs) ∧ R (Itl K a) H1) ∨ ((∃ xs, SqT K H1 a xs) ∧ R (Itt K a) H1))
theorem pi_seq {l : Expr} {tl : TE} (hl : PE X l tl) : PI X tg l (iSeq X.K tl) := by
  refine ⟨fun pins s σ H R I h => ?_⟩
  refine thn (hl.run pins s σ H _ I h) fun v s1 ⟨x, H1, I1, r1, q1⟩ => ?_
  obtain ⟨a, e, q⟩ := q1
  subst e
  cases r1
  rcases q with ⟨⟨xs, hq⟩, q⟩ | ⟨⟨xs, hq⟩, q⟩
  · obtain ⟨its, rv, p, hz⟩ := I1.list hq
    refine PySem.wpAny_pyIter_list p.isList ?_
    refine ⟨s1.heap.objs.size, [s1.heap.objs.size], _, _, H1, rfl, I1.kept (t' := s1.toks) fun b o e => Heap.get?_push_of_some _ e, turn_list a _, ⟨_, Heap.get?_push_size _ rfl, rfl, rfl⟩, fun b hb => ?_, q⟩
    have e : b = s1.heap.objs.size := by simpa using hb
    subst e
    exact I1.fpOk (Nat.le_refl _) (I1.hok.fresh (Nat.le_refl _))
  · obtain ⟨its, rv, p, hz⟩ := I1.tuple hq
    refine PySem.wpAny_pyIter_tuple (show s1.heap.IsTuple a its.toArray from p) ?_
    refine ⟨s1.heap.objs.size, [s1.heap.objs.size], _, _, H1, rfl, I1.kept (t' := s1.toks) fun b o e => Heap.get?_push_of_some _ e, turn_tuple a _, ⟨_, Heap.get?_push_size _ rfl, rfl, rfl⟩, fun b hb => ?_, q⟩
    have e : b = s1.heap.objs.size := by simpa using hb
    subst e
    exact I1.fpOk (Nat.le_refl _) (I1.hok.fresh (Nat.le_refl _))
theorem keepT {K : PySem.W.Frag} {H1 H : Hp} {m1 : List Addr} {a : Addr} {vs : List V} {G : Hp} (hG : Same G H1) (hm : ∀ b o, G b = some o → b ∉ m1) (k : ∀ a o, a ∉ m1 → H1 a = some o → H a = some o) (h : SqT K G a vs) : SqT K H a vs := by
  rcases h with (h | ⟨o, h⟩) | h
  · exact .inl (.inl (k _ _ (hm _ _ h) (hG _ _ h)))
  · exact .inl (.inr ⟨o, k _ _ (hm _ _ h) (hG _ _ h)⟩)
  · exact .inr h
theorem gr_out {O m : List Addr} {H : Hp} : ∀ b o, gr O m H b = some o → b ∉ m := fun b o h z => (of_hide h).1 (List.mem_append_right _ z)
theorem i_seq (h : ME X W g e ce) : MI X W g tg e (.seq ce) := PI_imp (pi_seq h) fun s H R ⟨O, m, M, r, S, RR, h⟩ => by
  simp only [evI] at h
  have h' : PostE X.K O m H W s (fun v H1 => Aft X.K O m H v H1 fun x m1 M1 => PostI X.K O m1 H1 W s R (.opt (itemsV M1 x) M1)) (evE g r ce M) := by
    cases q : evE g r ce M with
    | stuck => rw [q] at h; exact h.elim
    | exn c x M' => rw [q] at h; exact h
    | ok x M' =>
      rw [q] at h
      intro v m1 H1 e1 S1 r1
      refine ⟨x, m1, M', e1, S1, r1, ?_⟩
      simp only [Res.bind_ok] at h
      cases q2 : itemsV M' x with
      | none => rw [q2] at h; exact h.elim
      | some xs =>
        rw [q2] at h
        show PostI X.K O m1 H1 W s R (.opt (itemsV M' x) M')
        rw [q2]
        exact fun J m' H' e' S' w' => h J m' H' (e1.trans e') S' w'
  refine ⟨O, m, M, r, S, RR, h'.imp fun v H1 ⟨x, m1, M1, e1, S1, r1, h1⟩ => ?_⟩
  dsimp only at h1
  cases q2 : itemsV M1 x with
  | none => rw [q2] at h1; exact h1.elim
  | some xs =>
    rw [q2] at h1
    cases x with
    | tup ys =>
      have e' := Option.some.inj q2
      subst e'
      cases r1 with
      | @tup a vs _ k1 k2 =>
        refine ⟨a, rfl, .inr ⟨⟨vs, .inl (.inl (hide_same _ _ k1))⟩, h1 _ m1 H1 Ext.refl S1 (wlk_mk (fun H i k hi => ?_) (fun H k => ?_) fun H i w H' x k hx y => ?_)⟩⟩
        · have q := keepT (K := X.K) hide_same gr_out k (.inl (.inl k1))
          exact ⟨vs, vs[i]'(by rw [k2.len]; exact hi), q, List.getElem?_eq_getElem _⟩
        · exact ⟨vs, keepT hide_same gr_out k (.inl (.inl k1)), by rw [k2.len]; exact Nat.le_refl _⟩
        · obtain ⟨y1, y2⟩ := y
          obtain ⟨w', j1, j2⟩ := k2.get hx
          have z := y2 vs (keepT hide_same gr_out k (.inl (.inl k1)))
          rw [j1] at z
          cases z
          exact ⟨y1, j2⟩
    | lst ys =>
      have e' := Option.some.inj q2
      subst e'
      cases r1 with
      | @lst a vs _ k1 k2 =>
        have k0 : ∀ {H : Hp}, (∀ a o, a ∉ m1 → H1 a = some o → H a = some o) → SqL X.K H a vs := fun k => SqL.of (k _ _ (gr_out _ _ k1) (hide_same _ _ k1))
        refine ⟨a, rfl, .inl ⟨⟨vs, SqL.of (hide_same _ _ k1)⟩, h1 _ m1 H1 Ext.refl S1 (wlk_mk (fun H i k hi => ?_) (fun H k => ?_) fun H i w H' x k hx y => ?_)⟩⟩
        · exact ⟨vs, vs[i]'(by rw [k2.len]; exact hi), k0 k, List.getElem?_eq_getElem _⟩
        · exact ⟨vs, k0 k, by rw [k2.len]; exact Nat.le_refl _⟩
        · obtain ⟨y1, y2⟩ := y
          obtain ⟨w', j1, j2⟩ := k2.get hx
          have z := y2 vs (k0 k)
          rw [j1] at z
          cases z
          exact ⟨y1, j2⟩
    | _ => cases q2
theorem i_chr (h : ME X W g e ce) : MI X W g tg e (.chr ce) := PI_imp (pi_str h) fun s H R ⟨O, m, M, r, S, RR, h⟩ => by
  simp only [evI] at h
  refine ⟨O, m, M, r, S, RR, ?_⟩
  cases q : evE g r ce M with
  | stuck => rw [q] at h; exact h.elim
  | exn c x M' => rw [q] at h; exact h
  | ok x M' =>
    rw [q] at h
    simp only [Res.bind_ok] at h
    intro v m1 H1 e1 S1 r1
    cases x with
    | str z =>
      cases r1
      refine ⟨z, rfl, h _ m1 H1 e1 S1 (wlk_mk (fun H i k hi => ?_) (fun H k => ?_) fun H i w H' x k hx y => ?_)⟩
      · rw [List.length_map, Array.length_toList] at hi
        exact hi
      · rw [List.length_map, Array.length_toList]
        exact Nat.le_refl _
      · obtain ⟨y1, c, y2, y3⟩ := y
        rw [List.getElem?_map, Array.getElem?_toList, y2] at hx
        cases hx
        subst y3
        exact ⟨y1, .str _⟩
    | _ => exact h.elim
theorem intsFrom_len : ∀ (n : Nat) (lo : Int), (intsFrom lo n).length = n
  | 0, _ => rfl
  | n + 1, lo => by show (intsFrom (lo + 1) n).length + 1 = n + 1; rw [intsFrom_len n]
theorem intsFrom_get : ∀ (n : Nat) (lo : Int) (i : Nat) (x : MV), (intsFrom lo n)[i]? = some x → x = .int (lo + i)
  | 0, _, _, _, h => by cases h
  | n + 1, lo, 0, x, h => by
    have h' : MV.int lo = x := Option.some.inj h
    rw [← h']
    simp
  | n + 1, lo, i + 1, x, h => by
    have z := intsFrom_get n (lo + 1) i x h
    rw [z]
    congr 1
    omega
theorem wlk_rng {K : PySem.W.Frag} {H1 : Hp} {m1 : List Addr} {G : Hp} {lo : Int} {n : Nat} : Wlk K (Itr lo n) H1 m1 G (intsFrom lo n) := by
  refine wlk_mk (fun H i _ hi => ?_) (fun H _ => ?_) fun H i v H' x _ hx y => ?_
  · rw [intsFrom_len] at hi; exact hi
  · rw [intsFrom_len]; exact Nat.le_refl n
  · obtain ⟨y1, y2⟩ := y
    subst y2
    rw [intsFrom_get _ _ _ _ hx]
    exact ⟨y1, .int _⟩
theorem i_rng (hg : Gl X "range") (hm : X.mg "range" = none) (ha : ME X W g a ca) (hs : starEach [a] X.env = [(false, eval a X.env)] := by rfl) : MI X W g tg (.Call (.Name "range" p) [a] [] pos) (.rng ca) :=
  PI_imp (pi_range1 hg hm (a_cons ha a_nil (by rw [hs]; rfl)) hs) fun s H R ⟨O, m, M, r, S, RR, h⟩ => by
    refine ⟨O, m, M, r, S, RR, ?_⟩
    simp only [evI] at h
    simp only [evL]
    cases q : evE g r ca M with
    | stuck => rw [q] at h; exact h.elim
    | exn c x M' => rw [q] at h; exact h
    | ok x M' =>
      rw [q] at h
      simp only [Res.bind_ok] at h ⊢
      intro vs m1 H1 e1 S1 r1
      obtain ⟨v, rfl, rv⟩ := r1.one
      cases x with
      | int j =>
        cases rv
        simp only at h
        split at h
        · rename_i hc
          exact ⟨j, rfl, hc.1, hc.2, h _ m1 H1 e1 S1 wlk_rng⟩
        · exact h.elim
      | _ => exact h.elim
theorem i_rng2 (hg : Gl X "range") (hm : X.mg "range" = none) (ha : ME X W g a ca) (hb : ME X W g b cb) (hs : starEach [a, b] X.env = [(false, eval a X.env), (false, eval b X.env)] := by rfl) (hs2 : starEach [b] X.env = [(false, eval b X.env)] := by rfl) :
    MI X W g tg (.Call (.Name "range" p) [a, b] [] pos) (.rng2 ca cb) :=
  PI_imp (pi_range2 hg hm (a_cons ha (a_cons hb a_nil (by rw [hs2]; rfl)) (by rw [hs, hs2])) hs hs2) fun s H R ⟨O, m, M, r, S, RR, h⟩ => by
    refine ⟨O, m, M, r, S, RR, ?_⟩
    simp only [evI] at h
    simp only [evL]
    cases q : evE g r ca M with
    | stuck => rw [q] at h; exact h.elim
    | exn c x M' => rw [q] at h; exact h
    | ok x M' =>
      rw [q] at h
      simp only [Res.bind_ok] at h ⊢
      cases q2 : evE g r cb M' with
      | stuck => rw [q2] at h; exact h.elim
      | exn c x M' => rw [q2] at h; exact h
      | ok y M2 =>
        rw [q2] at h
        simp only [Res.bind_ok] at h ⊢
        intro vs m1 H1 e1 S1 r1
        obtain ⟨v, w, rfl, rv, rw'⟩ := r1.two
        split at h
        · cases rv; cases rw'
          split at h
          · rename_i hc
            exact ⟨_, _, rfl, hc, h _ m1 H1 e1 S1 wlk_rng⟩
          · exact h.elim
        · exact h.elim
end
/-! ### comprehensions -/
abbrev Wno : WX := fun _ _ _ _ => False
section
variable {X : Cx} {W : WX} {g : Cfg} {elt tg iter : Expr} {ifs : List Expr} {scope : Scope} {own : List (Str × Nat)} {pos : Pos} {ce : CE} {ci : CI} {ct : CO} {is : List Nat} {one : Bool}
/-- a clause's tests -/
def tTs (K : PySem.W.Frag) (g : Cfg) (c : CO) : TT := fun s H Q => ∃ O m M r, Sim K O m M H ∧ EnvR K (gr O m H) m s r ∧ PostB K O m H Wno s Q (evT g r c M)
theorem ts_nil : PTs X [] (tTs X.K g .none) := ⟨fun pins s σ H Q I ⟨O, m, M, r, S, R, h⟩ => pts_nil.run pins s σ H Q I (h m H Ext.refl S)⟩
theorem ts_one {c : Expr} {cc : CE} (h : MT X Wno g c cc) : PTs X [c] (tTs X.K g (.some cc)) := ⟨fun pins s σ H Q I ⟨O, m, M, r, S, R, q⟩ => (pts_one h).run pins s σ H Q I ⟨O, m, M, r, S, R, q⟩⟩
/-- one element -/
def eltR (g : Cfg) (r : Rho) (is : List Nat) (one : Bool) (ct : CO) (ce : CE) (x : MV) (M : Mem) : Res (Option MV) := match bind1 is one x (wipeR r is) with
  | none => .stuck
  | some r2 => calm ((evT g r2 ct M).bind fun b M3 => if b then (evE g r2 ce M3).bind fun y M4 => .ok (some y) M4 else .ok none M3)
theorem lcp_eq {r : Rho} {M : Mem} : evE g r (.lcp is one ci ct ce) M = (evI g r ci M).bind fun xs M1 => (mapR (eltR g r is one ct ce) xs M1).bind fun ys M2 => if ys.length ≤ sizeLine then .ok (.lst ys) M2 else .stuck := by
  simp only [evE]
  rfl
/-- an element's run, and the rest -/
theorem elt_ok {r : Rho} {x : MV} {xs ys : List MV} {M M' : Mem} (h : mapR (eltR g r is one ct ce) (x :: xs) M = .ok ys M') :
    ∃ r2 b M3, bind1 is one x (wipeR r is) = some r2 ∧ evT g r2 ct M = .ok b M3 ∧ ((b = true ∧ ∃ y zs M4, evE g r2 ce M3 = .ok y M4 ∧ mapR (eltR g r is one ct ce) xs M4 = .ok zs M' ∧ ys = y :: zs) ∨ (b = false ∧ mapR (eltR g r is one ct ce) xs M3 = .ok ys M')) := by
  unfold mapR at h
  cases qe : eltR g r is one ct ce x M with
  | stuck => rw [qe] at h; cases h
  | exn _ _ _ => rw [qe] at h; cases h
  | ok o M1 =>
    rw [qe] at h
    simp only [Res.bind_ok] at h
    cases q3 : mapR (eltR g r is one ct ce) xs M1 with
    | stuck => rw [q3] at h; cases h
    | exn _ _ _ => rw [q3] at h; cases h
    | ok zs M5 =>
      rw [q3] at h
      simp only [Res.bind_ok] at h
      unfold eltR at qe
      cases q1 : bind1 is one x (wipeR r is) with
      | none => rw [q1] at qe; cases qe
      | some r2 =>
        rw [q1] at qe
        simp only at qe
        cases q2 : evT g r2 ct M with
        | stuck => rw [q2] at qe; cases qe
        | exn _ _ _ => rw [q2] at qe; cases qe
        | ok b M3 =>
          rw [q2] at qe
          simp only [Res.bind_ok] at qe
          refine ⟨r2, b, M3, rfl, q2, ?_⟩
          cases b with
          | false =>
            simp only [Bool.false_eq_true, if_false, calm] at qe
            cases qe
            cases h
            exact .inr ⟨rfl, q3⟩
          | true =>
            simp only [if_true] at qe
            cases q4 : evE g r2 ce M3 with
            | stuck => rw [q4] at qe; cases qe
            | exn _ _ _ => rw [q4] at qe; cases qe
            | ok y M4 =>
              rw [q4] at qe
              simp only [Res.bind_ok, calm] at qe
              cases qe
              cases h
              exact .inl ⟨rfl, _, zs, _, rfl, q3, rfl⟩
theorem mapR_calm {r : Rho} : ∀ {xs : List MV} {M M' : Mem} {c : Str} {x : MV}, mapR (eltR g r is one ct ce) xs M ≠ .exn c x M'
  | [], _, _, _, _ => fun h => by cases h
  | y :: xs, M, M', c, x => fun h => by
    unfold mapR at h
    cases q : eltR g r is one ct ce y M with
    | stuck => rw [q] at h; cases h
    | exn c2 x2 M2 =>
      unfold eltR at q
      split at q
      · cases q
      · unfold calm at q
        split at q
        · cases q
        · rename_i hn
          exact hn _ _ _ q
    | ok o M1 =>
      rw [q] at h
      simp only [Res.bind_ok] at h
      cases q3 : mapR (eltR g r is one ct ce) xs M1 with
      | stuck => rw [q3] at h; cases h
      | ok _ _ => rw [q3] at h; cases h
      | exn _ _ _ => exact mapR_calm q3
theorem mapR_len {f : MV → Mem → Res (Option MV)} : ∀ {xs ys : List MV} {M M' : Mem}, mapR f xs M = .ok ys M' → ys.length ≤ xs.length
  | [], ys, _, _, h => by cases h; exact Nat.le_refl _
  | x :: xs, ys, M, M', h => by
    unfold mapR at h
    cases q : f x M with
    | stuck => rw [q] at h; cases h
    | exn _ _ _ => rw [q] at h; cases h
    | ok o M1 =>
      rw [q] at h
      simp only [Res.bind_ok] at h
      cases q3 : mapR f xs M1 with
      | stuck => rw [q3] at h; cases h
      | exn _ _ _ => rw [q3] at h; cases h
      | ok zs M2 =>
        rw [q3] at h
        have ih := mapR_len q3
        simp only [Res.bind_ok] at h
        cases h
        cases o with
        | none => show zs.length ≤ xs.length + 1; omega
        | some y => show zs.length + 1 ≤ xs.length + 1; omega
/-- the block's reading out of the interpreter's run -/
theorem lc_of {K : PySem.W.Frag} {s : St} {H : Hp} {Q : VK} (h : tE K W g (.lcp is one ci ct ce) s H Q) : tLc (tI K W g ci) (tG K is one) (tTs K g ct) (tE K Wno g ce) is s H Q := by
  obtain ⟨O, m, M, r, S, R, h⟩ := h
  rw [lcp_eq] at h
  have h' : PostI K O m H W s (fun J H1 => ∃ xs m1 M1, Ext m H m1 H1 ∧ Sim K O m1 M1 H1 ∧ Wlk K J H1 m1 (gr O m1 H1) xs ∧ PostE K O m1 H1 W s Q ((mapR (eltR g r is one ct ce) xs M1).bind fun ys M2 => if ys.length ≤ sizeLine then .ok (.lst ys) M2 else .stuck)) (evI g r ci M) := by
    cases q : evI g r ci M with
    | stuck => rw [q] at h; exact h.elim
    | exn c x M' => rw [q] at h; exact h
    | ok xs M' =>
      rw [q] at h
      exact fun J m1 H1 e1 S1 w1 => ⟨xs, m1, M', e1, S1, w1, PostE.later h e1⟩
  refine ⟨O, m, M, r, S, R, ?_⟩
  cases qi : evI g r ci M with
  | stuck => rw [qi] at h'; exact h'.elim
  | exn c x M' => rw [qi] at h'; exact h'
  | ok xs0 M0 =>
    rw [qi] at h'
    intro J m1' H1 e1' S1' w1'
    obtain ⟨xs, m1, M1, e1, S1, w1, h1⟩ := h' J m1' H1 e1' S1' w1'
    intro D hD
    cases qm : mapR (eltR g r is one ct ce) xs M1 with
    | stuck => rw [qm] at h1; exact h1.elim
    | exn c x M' => exact absurd qm mapR_calm
    | ok ys Me =>
      rw [qm] at h1
      simp only [Res.bind_ok] at h1
      split at h1
      · rename_i hz
        have R1 := R.ext e1
        -- the invariant
        refine ⟨fun i mm H => mm = xs.length - i ∧ i ≤ xs.length ∧ ∃ mi Mi acc don zs, Ext m1 H1 mi H ∧ Sim K (D :: O) mi Mi H ∧ H D = some (.lst acc) ∧ RepL K (gr (D :: O) mi H) mi acc don ∧ mapR (eltR g r is one ct ce) (xs.drop i) Mi = .ok zs Me ∧ ys = don ++ zs ∧ EnvR K (gr (D :: O) mi H) mi s r, ⟨xs.length, ?_⟩, ?_⟩
        · refine ⟨by simp, Nat.zero_le _, m1, M1, [], [], ys, Ext.alloc S1 hD, S1.hid hD, upd_same, .nil, qm, rfl, ?_⟩
          rw [gr_hid hD]
          exact R1
        · rintro i mm H2 ⟨rfl, hi, mi, Mi, acc, don, zs, ei, Si, hDi, ri, qi, ey, Ri⟩
          have keep : ∀ a o, a ∉ m1 → H1 a = some o → H2 a = some o := ei.keep
          by_cases hlt : i < xs.length
          · refine .inr ⟨w1.go H2 i keep hlt, fun H5 => i + 1 ≤ xs.length ∧ ∃ mi Mi acc don zs, Ext m1 H1 mi H5 ∧ Sim K (D :: O) mi Mi H5 ∧ H5 D = some (.lst acc) ∧ RepL K (gr (D :: O) mi H5) mi acc don ∧ mapR (eltR g r is one ct ce) (xs.drop (i + 1)) Mi = .ok zs Me ∧ ys = don ++ zs ∧ EnvR K (gr (D :: O) mi H5) mi s r, fun H5 ⟨l5, h5⟩ => ⟨xs.length - (i + 1), by omega, rfl, l5, h5⟩, fun v H3 y => ?_⟩
            have hG : Same (gr O m1 H1) (gr (D :: O) mi H2) := fun a o ha => by
              have hne : a ≠ D := fun z => by
                have := (of_hide ha).2
                rw [z, hD] at this
                cases this
              have h2 := ei.sub (O := O) a o ha
              obtain ⟨n1, n2⟩ := of_hide h2
              show hide _ _ _ = _
              rw [hide_of, n2]
              intro z
              simp only [List.cons_append, List.mem_cons] at z
              rcases z with z | z
              · exact hne z
              · exact n1 z
            obtain ⟨e0, S0, rv⟩ := w1.yld H2 i v H3 xs[i] (D :: O) mi Mi ei hG Si (List.getElem?_eq_getElem hlt) y
            have hDi := e0.keep D _ (fun z => Si.dis D z List.mem_cons_self) hDi
            have ri := ri.ext e0
            have Ri := Ri.ext e0
            have ei := ei.trans e0
            have Si := S0
            rw [List.drop_eq_getElem_cons hlt] at qi
            obtain ⟨r2, b, M3, k1, k2, k3⟩ := elt_ok qi
            refine ⟨D :: O, mi, Mi, xs[i], wipeR r is, r2, Si, Ri.wipe is, rv, k1, fun s2 R2 hw => ⟨?_, ?_⟩⟩
            · have ww : ∀ (s : St) (vs : List Nat), L2.wipe (L2.wipe s vs) vs = L2.wipe s vs := by
                intro s vs
                have key : ∀ (js vs : List Nat) (s : St), (∀ j ∈ js, j ∈ vs) → L2.wipe (L2.wipe s js) vs = L2.wipe s vs := by
                  intro js
                  induction js with
                  | nil => intro vs s _; rfl
                  | cons j js ih =>
                    intro vs s hj
                    show L2.wipe ((L2.wipe s js).set j none) vs = _
                    rw [wipe_set (hj j List.mem_cons_self), ih vs s fun k hk => hj k (List.mem_cons_of_mem _ hk)]
                exact key vs vs s fun _ z => z
              rw [hw, ww]
            · refine ⟨D :: O, mi, Mi, r2, Si, R2, ?_⟩
              rw [k2]
              intro m3 H4 e3 S3
              have dn : D ∉ mi := fun z => Si.dis D z List.mem_cons_self
              have hD4 : H4 D = some (.lst acc) := e3.keep D _ dn hDi
              rcases k3 with ⟨eb, y, zs', M4, k4, k5, k6⟩ | ⟨eb, k5⟩
              · subst eb
                refine iteT ⟨D :: O, m3, M3, r2, S3, R2.ext e3, ?_⟩
                rw [k4]
                intro u m4 H5 e4 S4 ru
                have dn4 : D ∉ m3 := fun z => S3.dis D z List.mem_cons_self
                have hD5 : H5 D = some (.lst acc) := e4.keep D _ dn4 hD4
                have dn5 : D ∉ m4 := fun z => S4.dis D z List.mem_cons_self
                have hl : acc.length = don.length := ri.len
                have hy := congrArg List.length ey
                rw [k6, List.length_append, List.length_cons] at hy
                refine ⟨acc, hD5, by omega, by omega, m4, M4, acc ++ [u], don ++ [y], zs', ?_, S4.set List.mem_cons_self, upd_same, ?_, k5, by rw [ey, k6]; simp, ?_⟩
                · have e5 := (ei.trans e3).trans e4
                  refine ⟨e5.pre, fun a o ha h => ?_, e5.new, fun a o h => ?_⟩
                  · rw [upd_ne (ne_of_none h hD)]
                    exact e5.keep a o ha h
                  · obtain ⟨o', h'⟩ := e5.there a o h
                    exact ⟨o', by rw [upd_ne (ne_of_none h hD)]; exact h'⟩
                · rw [gr_set List.mem_cons_self]
                  exact ((ri.ext e3).ext e4).append (.cons ru .nil)
                · rw [gr_set List.mem_cons_self]
                  exact (Ri.ext e3).ext e4
              · subst eb
                exact iteF ⟨by omega, m3, M3, acc, don, zs, ei.trans e3, S3, hD4, ri.ext e3, k5, ey, Ri.ext e3⟩
          · have ei' : i = xs.length := by omega
            subst ei'
            rw [List.drop_length] at qi
            cases qi
            rw [List.append_nil] at ey
            subst ey
            refine .inl ⟨w1.stop H2 keep, h1 (.ref D) mi H2 ei Si.unhid (.lst ?_ (ri.mono gr_unhid (List.prefix_refl _)))⟩
            show hide _ _ _ = _
            rw [hide_of, hDi]
            intro z
            rcases List.mem_append.mp z with z | z
            · exact S1.otr D z hD
            · exact Si.dis D z List.mem_cons_self
      · exact h1.elim
theorem m_lcp (hc : X.calm = true) (hN : X.N.Nodup) (hi : MI X W g tg iter ci) (ok : BlkOk X.N X.env.scope scope own)
    (hg : ∀ (s : Shared) (H : Hp) (C : Addr) (cl : List (Str × Addr)) (fp : List Addr), MG (X.blk s H scope (PySem.compEnvC scope cl C X.env) fp) tg is one) (ht : ∀ (s : Shared) (H : Hp) (C : Addr) (cl : List (Str × Addr)) (fp : List Addr), PTs (X.blk s H scope (PySem.compEnvC scope cl C X.env) fp) ifs (tTs X.K g ct))
    (he : ∀ (s : Shared) (H : Hp) (C : Addr) (cl : List (Str × Addr)) (fp : List Addr), ME (X.blk s H scope (PySem.compEnvC scope cl C X.env) fp) Wno g elt ce) (hw : own.map (·.2) = is := by rfl) (hs : ∀ x, foldedSetIterable iter X.env x = pure x := by intro _; rfl) :
    ME X W g (.ListComp elt [⟨tg, iter, ifs, 0⟩] scope pos) (.lcp is one ci ct ce) := by
  subst hw
  exact PE_imp (pe_lc hc hN hi ok hg ht he hs) fun s H Q h => lc_of h
end
end Mini

set_option Elab.async false
set_option linter.all false
set_option maxRecDepth 100000
set_option maxHeartbeats 1000000
/-! MiI: statements. -/
namespace Mini
open PySem L2
def PostS (K : PySem.W.Frag) (O m : List Addr) (H : Hp) (W : WX) (na : Bool) (s : St) (D : Ends) : Res Flw → Prop
  | .ok (.next r') M' => ∀ s' m' H', (na = true → s' = s) → Ext m H m' H' → Sim K O m' M' H' → EnvR K (gr O m' H') m' s' r' → D.nx s' H'
  | .ok (.brk r') M' => ∀ s' m' H', (na = true → s' = s) → Ext m H m' H' → Sim K O m' M' H' → EnvR K (gr O m' H') m' s' r' → D.bk s' H'
  | .ok (.cnt r') M' => ∀ s' m' H', (na = true → s' = s) → Ext m H m' H' → Sim K O m' M' H' → EnvR K (gr O m' H') m' s' r' → D.ct s' H'
  | .ok (.ret x) M' => ∀ v m' H', Ext m H m' H' → Sim K O m' M' H' → RepV K (gr O m' H') m' v x → D.rt v H'
  | .exn c x M' => ∀ s' d v m' H', (na = true → s' = s) → Ext m H m' H' → Sim K O m' M' H' → RepV K (gr O m' H') m' v x → H' d = some (.xd [(fo c, v)]) → W (.ref (He.ga K c)) (some d) s' H'
  | .stuck => False
def tS (K : PySem.W.Frag) (W : WX) (g : Cfg) (na : Bool) (c : CS) : TS := fun D s H => ∃ O m M r, Sim K O m M H ∧ EnvR K (gr O m H) m s r ∧ PostS K O m H W na s D (evS g c r M)
def tBl (K : PySem.W.Frag) (W : WX) (g : Cfg) (na : Bool) (c : CB) : TS := fun D s H => ∃ O m M r, Sim K O m M H ∧ EnvR K (gr O m H) m s r ∧ PostS K O m H W na s D (evB g c r M)
section
variable {K : PySem.W.Frag} {O m m1 : List Addr} {H H1 : Hp} {W : WX} {s s1 : St} {M : Mem} {na : Bool} {D : Ends}
theorem PostS.later {R : Res Flw} (h : PostS K O m H W na s D R) (e : Ext m H m1 H1) (hs : na = true → s1 = s) : PostS K O m1 H1 W na s1 D R := by
  cases R with
  | ok w M' =>
    cases w with
    | next r' => exact fun s' m' H' hs' e' S' R' => h s' m' H' (fun z => (hs' z).trans (hs z)) (e.trans e') S' R'
    | brk r' => exact fun s' m' H' hs' e' S' R' => h s' m' H' (fun z => (hs' z).trans (hs z)) (e.trans e') S' R'
    | cnt r' => exact fun s' m' H' hs' e' S' R' => h s' m' H' (fun z => (hs' z).trans (hs z)) (e.trans e') S' R'
    | ret x => exact fun v m' H' e' S' r' => h v m' H' (e.trans e') S' r'
  | exn c x M' => exact fun s' d v m' H' hs' e' S' r' q => h s' d v m' H' (fun z => (hs' z).trans (hs z)) (e.trans e') S' r' q
  | stuck => exact h
theorem PostS.bindE {R : Res MV} {k : MV → Mem → Res Flw} (h : PostS K O m H W na s D (R.bind k)) : PostE K O m H W s (fun v H1 => Aft K O m H v H1 fun x m1 M1 => PostS K O m1 H1 W na s D (k x M1)) R := by
  cases R with
  | ok x M' => exact fun v m' H' e' S' r' => ⟨x, m', M', e', S', r', PostS.later (R := k x M') h e' fun _ => rfl⟩
  | exn c x M' => exact fun d v m' H' e' S' r' q => h s d v m' H' (fun _ => rfl) e' S' r' q
  | stuck => exact h
theorem PostS.bindL {R : Res (List MV)} {k : List MV → Mem → Res Flw} (h : PostS K O m H W na s D (R.bind k)) : PostL K O m H W s (fun v H1 => ∃ x m1 M1, Ext m H m1 H1 ∧ Sim K O m1 M1 H1 ∧ RepL K (gr O m1 H1) m1 v x ∧ PostS K O m1 H1 W na s D (k x M1)) R := by
  cases R with
  | ok x M' => exact fun v m' H' e' S' r' => ⟨x, m', M', e', S', r', PostS.later (R := k x M') h e' fun _ => rfl⟩
  | exn c x M' => exact fun d v m' H' e' S' r' q => h s d v m' H' (fun _ => rfl) e' S' r' q
  | stuck => exact h
theorem PostS.bindB {α : Type} {R : Res α} {k : α → Mem → Res Flw} (h : PostS K O m H W na s D (R.bind k)) : PostB K O m H W s (fun x H1 => ∃ m1 M1, Ext m H m1 H1 ∧ Sim K O m1 M1 H1 ∧ PostS K O m1 H1 W na s D (k x M1)) R := by
  cases R with
  | ok x M' => exact fun m' H' e' S' => ⟨m', M', e', S', PostS.later (R := k x M') h e' fun _ => rfl⟩
  | exn c x M' => exact fun d v m' H' e' S' r' q => h s d v m' H' (fun _ => rfl) e' S' r' q
  | stuck => exact h
theorem PostS.next {r : Rho} (h : PostS K O m H W na s D (.ok (.next r) M)) (S : Sim K O m M H) (R : EnvR K (gr O m H) m s r) : D.nx s H := h s m H (fun _ => rfl) Ext.refl S R
end
theorem PS_imp {X : Cx} {e : Stmt} {t t' : TS} (h : PS X e t) (i : ∀ D s H, t' D s H → t D s H) : PS X e t' := ⟨fun pins s σ H D I q => h.run pins s σ H D I (i _ _ _ q)⟩
theorem PSs_imp {X : Cx} {e : List Stmt} {t t' : TS} (h : PSs X e t) (i : ∀ D s H, t' D s H → t D s H) : PSs X e t' := ⟨fun pins s σ H D I q => h.run pins s σ H D I (i _ _ _ q)⟩
section
variable {X : Cx} {W : WX} {g : Cfg} {a b c e o k : Expr} {es rest : List Expr} {ca cb cc ce co ck : CE} {cl : CL} {pos p p' apos : Pos} {na : Bool} {st : Stmt} {sts sts' : List Stmt} {cs : CS} {bs bs' : CB} {f : Str}
abbrev MS (X : Cx) (W : WX) (g : Cfg) (na : Bool) (st : Stmt) (c : CS) : Prop := PS X st (tS X.K W g na c)
abbrev MB (X : Cx) (W : WX) (g : Cfg) (na : Bool) (st : List Stmt) (c : CB) : Prop := PSs X st (tBl X.K W g na c)
/-! ### blocks -/
theorem b_nil : MB X W g na [] .nil := PSs_imp pss_nil fun D s H ⟨O, m, M, r, S, R, h⟩ => h s m H (fun _ => rfl) Ext.refl S R
theorem b_cons (h1 : MS X W g na st cs) (h2 : MB X W g na sts bs) : MB X W g na (st :: sts) (.cons cs bs) := PSs_imp (pss_cons h1 h2) fun D s H ⟨O, m, M, r, S, R, h⟩ => by
  refine ⟨O, m, M, r, S, R, ?_⟩
  simp only [evB] at h
  cases q : evS g cs r M with
  | stuck => rw [q] at h; exact h.elim
  | exn c x M' => rw [q] at h; exact h
  | ok w M' =>
    rw [q] at h
    cases w with
    | next r' => exact fun s' m' H' hs' e' S' R' => ⟨O, m', M', r', S', R', PostS.later (R := evB g bs r' M') h e' hs'⟩
    | brk r' => exact h
    | cnt r' => exact h
    | ret x => exact h
theorem s_pas : MS X W g na (.Pass pos) .pas := PS_imp ps_pass fun D s H ⟨O, m, M, r, S, R, h⟩ => h s m H (fun _ => rfl) Ext.refl S R
theorem s_brk : MS X W g na (.Break pos) .brk := PS_imp ps_break fun D s H ⟨O, m, M, r, S, R, h⟩ => h s m H (fun _ => rfl) Ext.refl S R
theorem s_cnt : MS X W g na (.Continue pos) .cnt := PS_imp ps_continue fun D s H ⟨O, m, M, r, S, R, h⟩ => h s m H (fun _ => rfl) Ext.refl S R
theorem s_exp (he : ME X W g e ce) (hs : swapsWith e none pos.line X.env = pure false := by rfl) : MS X W g na (.Expr e pos) (.exp ce) := PS_imp (ps_expr he hs) fun D s H ⟨O, m, M, r, S, R, h⟩ => by
  simp only [evS] at h
  exact ⟨O, m, M, r, S, R, h.bindE.imp fun v H1 ⟨x, m1, M1, e1, S1, r1, h1⟩ => h1.next S1 (R.ext e1)⟩
theorem s_ret (he : ME X W g e ce) : MS X W g na (.Return (some e) pos) (.ret ce) := PS_imp (ps_ret he) fun D s H ⟨O, m, M, r, S, R, h⟩ => by
  simp only [evS] at h
  exact ⟨O, m, M, r, S, R, h.bindE.imp fun v H1 ⟨x, m1, M1, e1, S1, r1, h1⟩ => h1 v m1 H1 Ext.refl S1 r1⟩
theorem s_retN : MS X W g na (.Return none pos) .retN := PS_imp ps_retN fun D s H ⟨O, m, M, r, S, R, h⟩ => h .non m H Ext.refl S .non
theorem s_ite (hc : MT X W g c cc) (ha : MB X W g na sts bs) (hb : MB X W g na sts' bs') : MS X W g na (.If c sts sts' pos) (.ite cc bs bs') := PS_imp (ps_if hc ha hb) fun D s H ⟨O, m, M, r, S, R, h⟩ => by
  simp only [evS] at h
  refine ⟨O, m, M, r, S, R, (PostS.bindB h).imp fun k H1 ⟨m1, M1, e1, S1, h1⟩ => ?_⟩
  cases k with
  | true => exact ⟨O, m1, M1, r, S1, R.ext e1, h1⟩
  | false => exact ⟨O, m1, M1, r, S1, R.ext e1, h1⟩
/-! ### assignments -/
theorem s_asg {i : Nat} {x : Str} {pos' : Pos} (hN : X.N.Nodup) (hi : X.N[i]? = some x) (hx : Loc X.env.scope x) (he : ME X W g e ce) (hs : swapsWith e (some (.Name x pos')) pos.line X.env = pure false := by rfl) (hf : X.fn x = true ∨ X.env.scope.names.lookup x = some .local := by first | exact .inl rfl | exact .inr rfl | assumption) :
    MS X W g false (.Assign [.Name x pos'] e pos) (.asg i ce) := PS_imp (ps_set hN hi hx he hs hf) fun D s H ⟨O, m, M, r, S, R, h⟩ => by
  simp only [evS] at h
  exact ⟨O, m, M, r, S, R, h.bindE.imp fun v H1 ⟨x, m1, M1, e1, S1, r1, h1⟩ => h1 _ m1 H1 (fun z => nomatch z) Ext.refl S1 ((R.ext e1).set r1)⟩
/-- name = [..] on one line -/
theorem s_asgLc {i : Nat} {y : Str} {py : Pos} {elt tg iter : Expr} {ifs : List Expr} {scope : Scope} {own : List (Str × Nat)} {spos : Pos} {ci : CI} {ct : CO} {is : List Nat} {one : Bool} (hc : X.calm = true) (hN : X.N.Nodup) (hy : X.N[i]? = some y) (hyl : X.env.scope.names.lookup y = some .local)
    (hsw : swapsWith (.ListComp elt [⟨tg, iter, ifs, 0⟩] scope pos) (some (.Name y py)) spos.line X.env = pure true) (hi : MI X W g tg iter ci) (ok : BlkOk X.N X.env.scope scope own)
    (hg : ∀ (s : Shared) (H : Hp) (C : Addr) (cl : List (Str × Addr)) (fp : List Addr), MG (X.blk s H scope (PySem.compEnvC scope cl C X.env) fp) tg is one) (ht : ∀ (s : Shared) (H : Hp) (C : Addr) (cl : List (Str × Addr)) (fp : List Addr), PTs (X.blk s H scope (PySem.compEnvC scope cl C X.env) fp) ifs (tTs X.K g ct))
    (he : ∀ (s : Shared) (H : Hp) (C : Addr) (cl : List (Str × Addr)) (fp : List Addr), ME (X.blk s H scope (PySem.compEnvC scope cl C X.env) fp) Wno g elt ce) (hw : own.map (·.2) = is := by rfl) (hs : ∀ x, foldedSetIterable iter X.env x = pure x := by intro _; rfl) :
    MS X W g false (.Assign [.Name y py] (.ListComp elt [⟨tg, iter, ifs, 0⟩] scope pos) spos) (.asg i (.lcp is one ci ct ce)) := by
  subst hw
  refine PS_imp (ps_setLc (g := tG X.K (own.map (·.2)) one) (te := tE X.K Wno g ce) hc hN hy hyl hsw hi ok hg ht he hs) fun D s H ⟨O, m, M, r, S, R, h⟩ => ?_
  simp only [evS] at h
  exact lc_of ⟨O, m, M, r, S, R, h.bindE.imp fun v H1 ⟨x, m1, M1, e1, S1, r1, h1⟩ => h1 _ m1 H1 (fun z => nomatch z) Ext.refl S1 ((R.ext e1).set r1)⟩
theorem s_asgT {tg : Expr} {is : List Nat} (he : ME X W g e ce) (hg : MG X tg is false) (hs : swapsWithSole [tg] e pos.line X.env = pure false := by rfl) (hw : swappedStores [tg] e X.env = pure none := by rfl) (h1 : (assignEach [tg] X.env).map (·.2) = [assign tg X.env] := by rfl) :
    MS X W g false (.Assign [tg] e pos) (.asgT is ce) := PS_imp (ps_asg he hg hs hw h1) fun D s H ⟨O, m, M, r, S, R, h⟩ => by
  simp only [evS] at h
  refine ⟨O, m, M, r, S, R, h.bindE.imp fun v H1 ⟨x, m1, M1, e1, S1, r1, h1⟩ => ?_⟩
  dsimp only at h1
  cases q : bind1 is false x r with
  | none => rw [q] at h1; exact h1.elim
  | some r2 =>
    rw [q] at h1
    exact ⟨O, m1, M1, x, r, r2, S1, R.ext e1, r1, q, fun s2 R2 _ => h1 s2 m1 H1 (fun z => nomatch z) Ext.refl S1 R2⟩
theorem s_par {i j : Nat} {x y : Str} {px py pt : Pos} {kt k2 pt2} (hc : X.calm = true) (hN : X.N.Nodup) (hi : X.N[i]? = some x) (hj : X.N[j]? = some y) (hij : i ≠ j)
    (hx : X.env.scope.names.lookup x = some .local) (hy : X.env.scope.names.lookup y = some .local) (ha : MA X W g [a, b] cl) (hw : swappedStores [.Tuple [.Name x px, .Name y py] kt pt] (.Tuple [a, b] k2 pt2) X.env = pure (some [x, y]))
    (hs : swapsWithSole [.Tuple [.Name x px, .Name y py] kt pt] (.Tuple [a, b] k2 pt2) pos.line X.env = pure false := by rfl) : MS X W g false (.Assign [.Tuple [.Name x px, .Name y py] kt pt] (.Tuple [a, b] k2 pt2) pos) (.asgP [i, j] cl) :=
  PS_imp (ps_par hc hN hi hj hij hx hy ha hw hs) fun D s H ⟨O, m, M, r, S, R, h⟩ => by
    simp only [evS] at h
    refine ⟨O, m, M, r, S, R, h.bindL.imp fun vs H1 ⟨xs, m1, M1, e1, S1, r1, h1⟩ => ?_⟩
    simp only [bind1] at h1
    split at h1
    · rename_i r2 q
      obtain ⟨hl, q⟩ := ite_some q
      match xs, hl, r1 with
      | [u, w], _, .cons (v := v1) q1 (.cons (v := v2) q2 .nil) =>
        subst q
        exact ⟨v1, v2, rfl, h1 _ m1 H1 (fun z => nomatch z) Ext.refl S1 (((R.ext e1).set q1).set q2)⟩
    · exact h1.elim
theorem s_par3 {i j l : Nat} {x y z : Str} {px py pz pt : Pos} {kt k2 pt2} (hc : X.calm = true) (hN : X.N.Nodup) (hi : X.N[i]? = some x) (hj : X.N[j]? = some y) (hl : X.N[l]? = some z) (hij : i ≠ j) (hil : i ≠ l) (hjl : j ≠ l)
    (hx : X.env.scope.names.lookup x = some .local) (hy : X.env.scope.names.lookup y = some .local) (hz : X.env.scope.names.lookup z = some .local) (ha : MA X W g [a, b, c] cl) (hw : swappedStores [.Tuple [.Name x px, .Name y py, .Name z pz] kt pt] (.Tuple [a, b, c] k2 pt2) X.env = pure (some [x, y, z]))
    (hs : swapsWithSole [.Tuple [.Name x px, .Name y py, .Name z pz] kt pt] (.Tuple [a, b, c] k2 pt2) pos.line X.env = pure false := by rfl) : MS X W g false (.Assign [.Tuple [.Name x px, .Name y py, .Name z pz] kt pt] (.Tuple [a, b, c] k2 pt2) pos) (.asgP [i, j, l] cl) :=
  PS_imp (L2.ps_par3 hc hN hi hj hl hij hil hjl hx hy hz ha hw hs) fun D s H ⟨O, m, M, r, S, R, h⟩ => by
    simp only [evS] at h
    refine ⟨O, m, M, r, S, R, h.bindL.imp fun vs H1 ⟨xs, m1, M1, e1, S1, r1, h1⟩ => ?_⟩
    simp only [bind1] at h1
    split at h1
    · rename_i r2 q
      obtain ⟨hl, q⟩ := ite_some q
      match xs, hl, r1 with
      | [u, w, t], _, .cons (v := v1) q1 (.cons (v := v2) q2 (.cons (v := v3) q3 .nil)) =>
        subst q
        exact ⟨v1, v2, v3, rfl, h1 _ m1 H1 (fun z => nomatch z) Ext.refl S1 ((((R.ext e1).set q1).set q2).set q3)⟩
    · exact h1.elim
/-! ### stores -/
theorem sat_of {K : PySem.W.Frag} {O m : List Addr} {M M' : Mem} {H : Hp} {v u : V} {x y : MV} {fc : Str → Str → Bool} (hC : ClOk K fc) (S : Sim K O m M H) (r : RepV K (gr O m H) m v x) (ry : RepV K (gr O m H) m u y) (e : satV fc M x f y = some M') :
    ∃ a d dx gs, v = .ref a ∧ insV M x = some d ∧ H a = some (.ins (He.ga K d.1) dx gs) ∧ Cls K (He.ga K d.1) ∧ NoAttr K (He.ga K d.1) f ∧ gs.length < 1000 ∧ Ext m H m (upd H a (.ins (He.ga K d.1) dx (putF f u gs))) ∧ Sim K O m M' (upd H a (.ins (He.ga K d.1) dx (putF f u gs))) := by
  unfold satV at e
  cases x with
  | ref n =>
    simp only at e
    cases q : M[n]? with
    | none => rw [q] at e; cases e
    | some c =>
      rw [q] at e
      cases c with
      | lst _ => cases e
      | dct _ => cases e
      | ins d fs =>
        obtain ⟨⟨hc, hl⟩, e⟩ := ite_some e
        subst e
        cases r with
        | @ref _ a h1 =>
          obtain ⟨a', h2, dx, gs, h3, h4⟩ := S.cel n _ q
          rw [h1] at h2
          cases h2
          obtain ⟨c1, c2⟩ := hC _ _ hc
          refine ⟨a, (d, fs), dx, gs, rfl, by unfold insV; simp only [q], h3, c1, c2, by rw [h4.len]; exact hl, Ext.write h1, S.write h1 ⟨dx, _, upd_same, ?_⟩⟩
          rw [gr_write (List.mem_of_getElem? h1)]
          exact h4.put ry
  | _ => cases e
theorem s_sat (hC : ClOk X.K g.cl) (ho : ME X W g o co) (he : ME X W g e ce) (hs : swapsWith e (some (.Attribute o f p')) pos.line X.env = pure false := by rfl) : MS X W g na (.Assign [.Attribute o f p'] e pos) (.sat co f ce) :=
  PS_imp (ps_fld ho he hs) fun D s H ⟨O, m, M, r, S, R, h⟩ => by
    simp only [evS] at h
    refine ⟨O, m, M, r, S, R, h.bindE.imp fun u H1 ⟨y, m1, M1, e1, S1, r1, h1⟩ => ⟨O, m1, M1, r, S1, R.ext e1, h1.bindE.imp fun v H2 ⟨x, m2, M2, e2, S2, r2, h2⟩ => ?_⟩⟩
    dsimp only at h2
    cases q : satV g.cl M2 x f y with
    | none => rw [q] at h2; exact h2.elim
    | some M3 =>
      rw [q] at h2
      obtain ⟨a, d, dx, gs, rfl, _, k1, k2, k3, k4, k5, k6⟩ := sat_of hC S2 r2 (r1.ext e2) q
      exact ⟨a, _, dx, gs, rfl, k1, k2, k3, k4, h2 s m2 _ (fun _ => rfl) k5 k6 (((R.ext e1).ext e2).ext k5)⟩
theorem s_sub (ho : ME X W g o co) (hk : ME X W g k ck) (he : ME X W g e ce) (ha : ∀ v, assign (.Subscript o k p') X.env v = (do
      let ov ← holding [v] (eval o X.env)
      let iv ← holding [v, ov] (eval k X.env)
      standAt p'
      holding [v, ov, iv] (setItem ov iv v)
      release [v, ov, iv] []) := by intro _; rfl) (hs : swapsWithSole [.Subscript o k p'] e pos.line X.env = pure false := by rfl) (hw : swappedStores [.Subscript o k p'] e X.env = pure none := by rfl)
    (h1 : (assignEach [.Subscript o k p'] X.env).map (·.2) = [assign (.Subscript o k p') X.env] := by rfl) : MS X W g na (.Assign [.Subscript o k p'] e pos) (.sub co ck ce) :=
  PS_imp (ps_asg he (pg_sub ho hk set_list ha) hs hw h1) fun D s H ⟨O, m, M, r, S, R, h⟩ => by
    simp only [evS] at h
    refine ⟨O, m, M, r, S, R, h.bindE.imp fun u H1 ⟨y, m1, M1, e1, S1, r1, h1⟩ => ⟨O, m1, M1, r, S1, R.ext e1, h1.bindE.imp fun v H2 ⟨x, m2, M2, e2, S2, r2, h2⟩ => ⟨O, m2, M2, r, S2, (R.ext e1).ext e2, h2.bindE.imp fun w H3 ⟨z, m3, M3, e3, S3, r3, h3⟩ => ?_⟩⟩⟩
    dsimp only at h3
    cases q : subV M3 x z y with
    | none => rw [q] at h3; exact h3.elim
    | some M4 =>
      rw [q] at h3
      cases x with
      | ref n =>
        cases z with
        | int i =>
          simp only [subV] at q
          cases q2 : M3[n]? with
          | none => rw [q2] at q; cases q
          | some c =>
            rw [q2] at q
            cases c with
            | ins _ _ => cases q
            | dct _ => cases q
            | lst xs =>
              obtain ⟨j, hj, q⟩ := map_some q
              subst q
              obtain ⟨a, vs, rfl, k1, k2, k3⟩ := cell_lst S3 (r2.ext e3) q2
              cases r3
              refine ⟨a, vs, i, j, rfl, rfl, k2, by rw [k3.len]; exact hj, ?_⟩
              refine h3 s m3 _ (fun _ => rfl) (Ext.write k1) (S3.write k1 ⟨_, upd_same, ?_⟩) ((((R.ext e1).ext e2).ext e3).ext (Ext.write k1))
              rw [gr_write (List.mem_of_getElem? k1)]
              exact k3.set j ((r1.ext e2).ext e3)
        | _ => cases q
      | _ => cases q
theorem aug_of {op : Operator} {x y z : MV} (e : augI op x y = some z) : ∃ i j, x = .int i ∧ y = .int j ∧ ((op = .Add ∧ z = .int (i + j)) ∨ (op = .Sub ∧ z = .int (i - j))) := by
  unfold augI at e
  split at e
  · cases e; exact ⟨_, _, rfl, rfl, .inl ⟨rfl, rfl⟩⟩
  · cases e; exact ⟨_, _, rfl, rfl, .inr ⟨rfl, rfl⟩⟩
  · cases e
def rIp (op : Operator) : V → V → Hp → VK → Prop := fun x y H Q => (op = .Add ∧ rAdd x y H Q) ∨ (op = .Sub ∧ rSub x y H Q)
theorem in_ip (op : Operator) : InOp X op (rIp op) := by
  intro pins s σ H x y u v Q I rx ry h
  rcases h with ⟨rfl, h⟩ | ⟨rfl, h⟩
  · exact in_add pins s σ H x y u v Q I rx ry h
  · exact in_sub pins s σ H x y u v Q I rx ry h
theorem s_augA {op : Operator} (hC : ClOk X.K g.cl) (ho : ME X W g o co) (he : ME X W g e ce) : MS X W g na (.AugAssign (.Attribute o f p') op e pos) (.augA co f op ce) :=
  PS_imp (ps_fldaug ho he (in_ip op)) fun D s H ⟨O, m, M, r, S, R, h⟩ => by
    simp only [evS] at h
    refine ⟨O, m, M, r, S, R, h.bindE.imp fun v H1 ⟨x, m1, M1, e1, S1, r1, h1⟩ => ?_⟩
    dsimp only at h1
    cases q : fldV g.cl M1 x f with
    | none => rw [q] at h1; exact h1.elim
    | some z =>
      rw [q] at h1
      dsimp only at h1
      obtain ⟨⟨d, fs⟩, hi, hz⟩ := bind_some q
      simp only at hz
      split at hz
      · rename_i hc
        obtain ⟨a, dx, gs, rfl, k2, k3⟩ := ins_of S1 r1 hi
        obtain ⟨u, k4, k5⟩ := k3.look hz
        obtain ⟨c1, c2⟩ := hC _ _ hc
        refine ⟨a, _, dx, gs, u, rfl, k2, c1, c2, k4, O, m1, M1, r, S1, R.ext e1, h1.bindE.imp fun w H2 ⟨y, m2, M2, e2, S2, r2, h2⟩ => ?_⟩
        dsimp only at h2
        split at h2
        · rename_i hcl
          cases qa : augI op z y with
          | none => rw [qa] at h2; exact h2.elim
          | some t =>
            rw [qa] at h2
            dsimp only at h2
            cases qs : satV g.cl M2 x f t with
            | none => rw [qs] at h2; exact h2.elim
            | some M3 =>
              rw [qs] at h2
              have fin : ∀ i : Int, t = .int i → ∃ dx' fs', H2 a = some (.ins (He.ga X.K d) dx' fs') ∧ fs'.length < 1000 ∧ D.nx s (upd H2 a (.ins (He.ga X.K d) dx' (putF f (.int i) fs'))) := fun i ei => by
                subst ei
                obtain ⟨a', d', dx', gs', ea, j0, j1, _, _, j4, j5, j6⟩ := sat_of hC S2 (r1.ext e2) (.int i) qs
                cases ea
                rw [hi, j0] at hcl
                have hd : d = d'.1 := Option.some.inj hcl
                subst hd
                exact ⟨dx', gs', j1, j4, h2 s m2 _ (fun _ => rfl) j5 j6 (((R.ext e1).ext e2).ext j5)⟩
              obtain ⟨i, j, rfl, rfl, ⟨rfl, rfl⟩ | ⟨rfl, rfl⟩⟩ := aug_of qa
              · cases k5; cases r2
                exact .inl ⟨rfl, i, j, rfl, rfl, fin _ rfl⟩
              · cases k5; cases r2
                exact .inr ⟨rfl, i, j, rfl, rfl, fin _ rfl⟩
        · exact h2.elim
      · cases hz
theorem ip_ip (op : Operator) : PIp X op (rIp op) := by
  intro pins s σ H x y v u Q I rx ry h
  rcases h with ⟨rfl, h⟩ | ⟨rfl, h⟩
  · exact ip_add pins s σ H x y v u Q I rx ry h
  · exact ip_sub pins s σ H x y v u Q I rx ry h
theorem s_augV {op : Operator} {i : Nat} {x : Str} (hN : X.N.Nodup) (hi : X.N[i]? = some x) (hx : Loc X.env.scope x) (he : ME X W g e ce) (hf : X.fn x = true ∨ X.env.scope.names.lookup x = some .local := by first | exact .inl rfl | exact .inr rfl | assumption) :
    MS X W g false (.AugAssign (.Name x p') op e pos) (.augV i op ce) := PS_imp (ps_aug hN hi hx he (ip_ip op) hf) fun D s H ⟨O, m, M, r, S, R, h⟩ => by
  simp only [evS] at h
  cases q : r[i]? with
  | none => rw [q] at h; exact h.elim
  | some oz =>
    rw [q] at h
    cases oz with
    | none => exact h.elim
    | some z =>
      dsimp only at h
      obtain ⟨v, k1, k2⟩ := R.2 i z q
      refine ⟨v, k1, O, m, M, r, S, R, h.bindE.imp fun w H1 ⟨y, m1, M1, e1, S1, r1, h1⟩ => ?_⟩
      dsimp only at h1
      cases qa : augI op z y with
      | none => rw [qa] at h1; exact h1.elim
      | some t =>
        rw [qa] at h1
        obtain ⟨i', j, rfl, rfl, ⟨rfl, rfl⟩ | ⟨rfl, rfl⟩⟩ := aug_of qa
        · cases k2; cases r1
          exact .inl ⟨rfl, i', j, rfl, rfl, h1 _ m1 H1 (fun z => nomatch z) Ext.refl S1 ((R.ext e1).set (.int _))⟩
        · cases k2; cases r1
          exact .inr ⟨rfl, i', j, rfl, rfl, h1 _ m1 H1 (fun z => nomatch z) Ext.refl S1 ((R.ext e1).set (.int _))⟩
end
end Mini

set_option Elab.async false
set_option linter.all false
set_option maxRecDepth 100000
set_option maxHeartbeats 1000000
/-! MiJ: loops; the end of a call; a def keeps its promise. -/
namespace Mini
open PySem L2
section
variable {X : Cx} {W : WX} {g : Cfg} {tg iter c : Expr} {cc : CE} {ci : CI} {pos : Pos} {sts : List Stmt} {bs : CB} {is : List Nat} {one : Bool}
def turnV (g : Cfg) (is : List Nat) (one : Bool) (bs : CB) (x : MV) (r1 : Rho) (M2 : Mem) : Res Flw := match bind1 is one x r1 with
  | none => .stuck
  | some r2 => evB g bs r2 M2
theorem for_eq {r : Rho} {M : Mem} : evS g (.forr is one ci bs) r M = (evI g r ci M).bind fun xs M1 => forV (turnV g is one bs) xs r M1 := by
  simp only [evS]
  rfl
theorem s_for (hp : PassesOwn (model X.prog X.w) X.A X.env X.xe) (hc : X.calm = true) (hi : MI X W g tg iter ci) (hg : MG X tg is one) (hb : MB X W g false sts bs) (hs : ∀ x, foldedSetIterable iter X.env x = pure x := by intro _; rfl) :
    MS X W g false (.For tg iter sts [] pos) (.forr is one ci bs) := PS_imp (ps_for hp hc hi hg hb hs) fun D s H ⟨O, m, M, r, S, R, h⟩ => by
  rw [for_eq] at h
  refine ⟨O, m, M, r, S, R, ?_⟩
  cases qi : evI g r ci M with
  | stuck => rw [qi] at h; exact h.elim
  | exn c x M' =>
    rw [qi] at h
    exact fun d v m' H' e' S' r' q => h s d v m' H' (fun _ => rfl) e' S' r' q
  | ok xs M1 =>
    rw [qi] at h
    intro J m1 H1 e1 S1 w1
    have h1 : PostS X.K O m1 H1 W false s D (forV (turnV g is one bs) xs r M1) := PostS.later h e1 fun _ => rfl
    refine ⟨fun i mm s2 H2 => mm = xs.length - i ∧ i ≤ xs.length ∧ ∃ mi Mi ri, Ext m1 H1 mi H2 ∧ Sim X.K O mi Mi H2 ∧ EnvR X.K (gr O mi H2) mi s2 ri ∧ PostS X.K O mi H2 W false s2 D (forV (turnV g is one bs) (xs.drop i) ri Mi), ⟨xs.length, by simp, Nat.zero_le _, m1, M1, r, Ext.refl, S1, R.ext e1, h1⟩, ?_⟩
    rintro i mm s2 H2 ⟨rfl, hil, mi, Mi, ri, ei, Si, Ri, hq⟩
    by_cases hlt : i < xs.length
    · refine .inr ⟨w1.go H2 i ei.keep hlt, fun s' H' => i + 1 ≤ xs.length ∧ ∃ mi Mi ri, Ext m1 H1 mi H' ∧ Sim X.K O mi Mi H' ∧ EnvR X.K (gr O mi H') mi s' ri ∧ PostS X.K O mi H' W false s' D (forV (turnV g is one bs) (xs.drop (i + 1)) ri Mi), fun s' H' ⟨l5, h5⟩ => ⟨xs.length - (i + 1), by omega, rfl, l5, h5⟩, fun v H3 y => ?_⟩
      obtain ⟨e0, S0, rv⟩ := w1.yld H2 i v H3 xs[i] O mi Mi ei ei.sub Si (List.getElem?_eq_getElem hlt) y
      have hq := PostS.later (s1 := s2) hq e0 fun _ => rfl
      have Ri := Ri.ext e0
      have ei := ei.trans e0
      have Si := S0
      rw [List.drop_eq_getElem_cons hlt] at hq
      unfold forV at hq
      cases qb : bind1 is one xs[i] ri with
      | none => simp only [turnV, qb] at hq; exact hq.elim
      | some r2 =>
        simp only [turnV, qb] at hq
        refine ⟨O, mi, Mi, xs[i], ri, r2, Si, Ri, rv, qb, fun s3 R3 _ => ⟨O, mi, Mi, r2, Si, R3, ?_⟩⟩
        cases qe : evB g bs r2 Mi with
        | stuck => rw [qe] at hq; exact hq.elim
        | exn c x M' =>
          rw [qe] at hq
          exact fun s' d v m' H' _ e' S' r' q => hq s' d v m' H' (fun z => nomatch z) e' S' r' q
        | ok w M' =>
          rw [qe] at hq
          cases w with
          | next r' => exact fun s' m' H' _ e' S' R' => ⟨by omega, m', M', r', ei.trans e', S', R', PostS.later hq e' fun z => nomatch z⟩
          | cnt r' => exact fun s' m' H' _ e' S' R' => ⟨by omega, m', M', r', ei.trans e', S', R', PostS.later hq e' fun z => nomatch z⟩
          | brk r' => exact fun s' m' H' _ e' S' R' => hq s' m' H' (fun z => nomatch z) e' S' R'
          | ret x => exact fun v m' H' e' S' r' => hq v m' H' e' S' r'
    · have ei' : i = xs.length := by omega
      subst ei'
      rw [List.drop_length] at hq
      exact .inl ⟨w1.stop H2 ei.keep, PostS.next hq Si Ri⟩
theorem s_whl (hp : PassesOwn (model X.prog X.w) X.A X.env X.xe) (hc : MT X W g c cc) (hb : MB X W g false sts bs) : MS X W g false (.While c sts [] pos) (.whl cc bs) := PS_imp (ps_while hp hc hb) fun D s H ⟨O, m, M, r, S, R, h⟩ => by
  simp only [evS] at h
  refine ⟨fun n s2 H2 => ∃ mi Mi ri, Ext m H mi H2 ∧ Sim X.K O mi Mi H2 ∧ EnvR X.K (gr O mi H2) mi s2 ri ∧ PostS X.K O mi H2 W false s2 D (whlV (fun r1 M1 => bitV g r1 cc M1) (fun r1 M1 => evB g bs r1 M1) n ri Mi), ⟨g.fuel, m, M, r, Ext.refl, S, R, h⟩, ?_⟩
  rintro n s2 H2 ⟨mi, Mi, ri, ei, Si, Ri, hq⟩
  cases n with
  | zero => exact hq.elim
  | succ n =>
    unfold whlV at hq
    refine ⟨O, mi, Mi, ri, Si, Ri, ?_⟩
    cases qt : bitV g ri cc Mi with
    | stuck => rw [qt] at hq; exact hq.elim
    | exn c x M' =>
      rw [qt] at hq
      exact fun d v m' H' e' S' r' q => hq s2 d v m' H' (fun _ => rfl) e' S' r' q
    | ok k M1 =>
      rw [qt] at hq
      simp only [Res.bind_ok] at hq
      intro m3 H3 e3 S3
      cases k with
      | false => exact iteF (hq s2 m3 H3 (fun _ => rfl) e3 S3 (Ri.ext e3))
      | true =>
        refine iteT ⟨fun s' H' => ∃ mi Mi ri, Ext m H mi H' ∧ Sim X.K O mi Mi H' ∧ EnvR X.K (gr O mi H') mi s' ri ∧ PostS X.K O mi H' W false s' D (whlV (fun r1 M1 => bitV g r1 cc M1) (fun r1 M1 => evB g bs r1 M1) n ri Mi), fun s' H' h' => ⟨n, Nat.lt_succ_self n, h'⟩, O, m3, M1, ri, S3, Ri.ext e3, ?_⟩
        simp only [if_true] at hq
        have hq' := PostS.later hq e3 (s1 := s2) fun _ => rfl
        cases qe : evB g bs ri M1 with
        | stuck => rw [qe] at hq'; exact hq'.elim
        | exn c x M' =>
          rw [qe] at hq'
          exact fun s' d v m' H' _ e' S' r' q => hq' s' d v m' H' (fun z => nomatch z) e' S' r' q
        | ok w M' =>
          rw [qe] at hq'
          have ej := ei.trans e3
          cases w with
          | next r' => exact fun s' m' H' _ e' S' R' => ⟨m', M', r', ej.trans e', S', R', PostS.later hq' e' fun z => nomatch z⟩
          | cnt r' => exact fun s' m' H' _ e' S' R' => ⟨m', M', r', ej.trans e', S', R', PostS.later hq' e' fun z => nomatch z⟩
          | brk r' => exact fun s' m' H' _ e' S' R' => hq' s' m' H' (fun z => nomatch z) e' S' R'
          | ret x => exact fun v m' H' e' S' r' => hq' v m' H' e' S' r'
end
/-! ### the end of a call -/
section
variable {K : PySem.W.Frag} {G G' : Hp} {m m' : List Addr}
/-- the cells that a value names are among the first -/
theorem pre_take {n k : Nat} {a : Addr} (h : m[k]? = some a) (hk : k < n) : (m.take n)[k]? = some a := by
  rw [List.getElem?_take_of_lt hk]; exact h
mutual
theorem clean_rep {n : Nat} (e : Same G G') : ∀ (x : MV) (v : V), clean n x = true → RepV K G m v x → RepV K G' (m.take n) v x
  | .non, _, _, h => by cases h; exact .non
  | .bl _, _, _, h => by cases h; exact .bl _
  | .int _, _, _, h => by cases h; exact .int _
  | .str _, _, _, h => by cases h; exact .str _
  | .tup xs, _, c, h => by
    cases h with
    | tup hs ha => exact .tup (e _ _ hs) (cleanL_rep e xs _ c ha)
  | .lst xs, _, c, h => by
    cases h with
    | lst hs ha => exact .lst (e _ _ hs) (cleanL_rep e xs _ c ha)
  | .dck kvs, _, c, h => by
    cases h with
    | dck hs ha => exact .dck (e _ _ hs) (cleanK_rep e kvs _ c ha)
  | .obj _ fs, _, c, h => by
    cases h with
    | obj hs ha => exact .obj (e _ _ hs) (cleanF_rep e fs _ c ha)
  | .scr _, _, _, h => by
    cases h with
    | scr hs => exact .scr (e.seq hs)
  | .ref _, _, c, h => by
    cases h with
    | ref hs => exact .ref (pre_take hs (of_decide_eq_true c))
  | .glo _, _, _, h => by cases h; exact .glo _
  | .txt _, _, _, h => by
    cases h with
    | txt hs => exact .txt hs
  | .err _ x, _, c, h => by
    cases h with
    | err h1 h2 h3 => exact .err (e _ _ h1) (e _ _ h2) (clean_rep e x _ c h3)
theorem cleanL_rep {n : Nat} (e : Same G G') : ∀ (xs : List MV) (vs : List V), cleanL n xs = true → RepL K G m vs xs → RepL K G' (m.take n) vs xs
  | [], _, _, h => by cases h; exact .nil
  | x :: xs, _, c, h => by
    obtain ⟨c1, c2⟩ := Bool.and_eq_true_iff.mp (show (clean n x && cleanL n xs) = true from c)
    cases h with
    | cons h1 h2 => exact .cons (clean_rep e x _ c1 h1) (cleanL_rep e xs _ c2 h2)
theorem cleanK_rep {n : Nat} (e : Same G G') : ∀ (xs : List (Key × MV)) (vs : List (Key × V)), cleanK n xs = true → RepK K G m vs xs → RepK K G' (m.take n) vs xs
  | [], _, _, h => by cases h; exact .nil
  | (k, x) :: xs, _, c, h => by
    obtain ⟨c1, c2⟩ := Bool.and_eq_true_iff.mp (show (clean n x && cleanK n xs) = true from c)
    cases h with
    | cons h1 h2 => exact .cons (clean_rep e x _ c1 h1) (cleanK_rep e xs _ c2 h2)
theorem cleanF_rep {n : Nat} (e : Same G G') : ∀ (xs : List (Str × MV)) (vs : List (Str × V)), cleanF n xs = true → RepF K G m vs xs → RepF K G' (m.take n) vs xs
  | [], _, _, h => by cases h; exact .nil
  | (k, x) :: xs, _, c, h => by
    obtain ⟨c1, c2⟩ := Bool.and_eq_true_iff.mp (show (clean n x && cleanF n xs) = true from c)
    cases h with
    | cons h1 h2 => exact .cons (clean_rep e x _ c1 h1) (cleanF_rep e xs _ c2 h2)
end
mutual
/-- a value that stood before the later cells names none of them -/
theorem RepV.back {n : Nat} {G0 : Hp} {m0 : List Addr} (hn : m0.length ≤ n) : ∀ (x : MV) (v0 : V), RepV K G0 m0 v0 x → clean n x = true
  | .non, _, _ => rfl
  | .bl _, _, _ => rfl
  | .int _, _, _ => rfl
  | .str _, _, _ => rfl
  | .tup xs, _, h => by
    cases h with
    | tup hs ha => exact RepL.back hn xs _ ha
  | .lst xs, _, h => by
    cases h with
    | lst hs ha => exact RepL.back hn xs _ ha
  | .dck kvs, _, h => by
    cases h with
    | dck hs ha => exact RepK.back hn kvs _ ha
  | .obj _ fs, _, h => by
    cases h with
    | obj hs ha => exact RepF.back hn fs _ ha
  | .scr _, _, _ => rfl
  | .ref k, _, h => by
    cases h with
    | ref hs =>
      have z := (List.getElem?_eq_some_iff.mp hs).1
      exact decide_eq_true (by omega)
  | .glo _, _, _ => rfl
  | .txt _, _, _ => rfl
  | .err _ x, _, h => by
    cases h with
    | err h1 h2 h3 => exact RepV.back hn x _ h3
theorem RepL.back {n : Nat} {G0 : Hp} {m0 : List Addr} (hn : m0.length ≤ n) : ∀ (xs : List MV) (vs : List V), RepL K G0 m0 vs xs → cleanL n xs = true
  | [], _, _ => rfl
  | x :: xs, _, h => by
    cases h with
    | cons h1 h2 => exact Bool.and_eq_true_iff.mpr ⟨RepV.back hn x _ h1, RepL.back hn xs _ h2⟩
theorem RepK.back {n : Nat} {G0 : Hp} {m0 : List Addr} (hn : m0.length ≤ n) : ∀ (xs : List (Key × MV)) (vs : List (Key × V)), RepK K G0 m0 vs xs → cleanK n xs = true
  | [], _, _ => rfl
  | (k, x) :: xs, _, h => by
    cases h with
    | cons h1 h2 => exact Bool.and_eq_true_iff.mpr ⟨RepV.back hn x _ h1, RepK.back hn xs _ h2⟩
theorem RepF.back {n : Nat} {G0 : Hp} {m0 : List Addr} (hn : m0.length ≤ n) : ∀ (xs : List (Str × MV)) (vs : List (Str × V)), RepF K G0 m0 vs xs → cleanF n xs = true
  | [], _, _ => rfl
  | (k, x) :: xs, _, h => by
    cases h with
    | cons h1 h2 => exact Bool.and_eq_true_iff.mpr ⟨RepV.back hn x _ h1, RepF.back hn xs _ h2⟩
end
end
section
variable {K : PySem.W.Frag} {O m m' : List Addr} {M M' : Mem} {H H' : Hp}
theorem gr_take {n : Nat} : Same (gr O m' H') (gr O (m'.take n) H') := fun a o h => by
  obtain ⟨h1, h2⟩ := of_hide h
  show hide _ _ _ = _
  rw [hide_of fun z => h1 ?_]
  · exact h2
  · rcases List.mem_append.mp z with z | z
    · exact List.mem_append_left _ z
    · exact List.mem_append_right _ (List.mem_of_mem_take z)
theorem mapO_get {α β : Type} {f : α → Option β} : ∀ {xs : List α} {ys : List β}, mapO f xs = some ys → (xs = [] ∧ ys = []) ∨ ∃ x xr y yr, xs = x :: xr ∧ ys = y :: yr ∧ f x = some y ∧ mapO f xr = some yr
  | [], ys, h => by cases h; exact .inl ⟨rfl, rfl⟩
  | x :: xs, ys, h => by
    unfold mapO at h
    cases q1 : f x with
    | none => rw [q1] at h; cases h
    | some y =>
      cases q2 : mapO f xs with
      | none => rw [q1, q2] at h; cases h
      | some yr =>
        rw [q1, q2] at h
        cases h
        exact .inr ⟨x, xs, y, yr, rfl, rfl, q1, q2⟩
theorem mapO_repL {f : MV → Option MV} {G G' : Hp} {m1 m2 : List Addr} (hf : ∀ v x y, RepV K G m1 v x → f x = some y → RepV K G' m2 v y) : ∀ {xs : List MV} {vs : List V} {ys : List MV}, RepL K G m1 vs xs → mapO f xs = some ys → RepL K G' m2 vs ys
  | [], [], ys, _, h => by cases h; exact .nil
  | x :: xs, v :: vs, ys, .cons h1 h2, h => by
    rcases mapO_get h with ⟨z, _⟩ | ⟨x', xr, y, yr, z, rfl, q1, q2⟩
    · cases z
    · cases z
      exact .cons (hf _ _ _ h1 q1) (mapO_repL hf h2 q2)
theorem mapO_repF {f : MV → Option MV} {G G' : Hp} {m1 m2 : List Addr} (hf : ∀ v x y, RepV K G m1 v x → f x = some y → RepV K G' m2 v y) : ∀ {xs : List (Str × MV)} {vs : List (Str × V)} {ys : List (Str × MV)}, RepF K G m1 vs xs → mapO (fun p : Str × MV => (f p.2).map fun y => (p.1, y)) xs = some ys → RepF K G' m2 vs ys
  | [], [], ys, _, h => by cases h; exact .nil
  | (k, x) :: xs, _ :: vs, ys, .cons h1 h2, h => by
    rcases mapO_get h with ⟨z, _⟩ | ⟨x', xr, y, yr, z, rfl, q1, q2⟩
    · cases z
    · cases z
      obtain ⟨w, q3, q4⟩ := map_some q1
      subst q4
      exact .cons (hf _ _ _ h1 q3) (mapO_repF hf h2 q2)
/-- cells that become values -/
theorem frz_rep {n : Nat} (S : Sim K O m' M' H') : ∀ (k : Nat) (v : V) (x y : MV), RepV K (gr O m' H') m' v x → frz M' n k x = some y → RepV K (gr O (m'.take n) H') (m'.take n) v y
  | 0, _, _, _, _, h => by cases h
  | k + 1, v, x, y, r, h => by
    have ih := frz_rep (n := n) S k
    unfold frz at h
    split at h
    · rename_i hc
      have h' := Option.some.inj h
      subst h'
      exact clean_rep gr_take x v hc r
    · rename_i hc
      cases x with
      | ref j =>
        have hj : ¬ j < n := fun z => hc (decide_eq_true z)
        simp only at h
        cases r with
        | @ref _ a ha =>
          have hna : a ∉ m'.take n := fun z => by
            obtain ⟨i, hi⟩ := List.getElem?_of_mem z
            have h1 : i < n := by
              have := (List.getElem?_eq_some_iff.mp hi).1
              rw [List.length_take] at this
              omega
            rw [List.getElem?_take_of_lt h1] at hi
            have := nd_ix S.nd hi ha
            omega
          have hgr : ∀ {o : HO}, H' a = some o → gr O (m'.take n) H' a = some o := fun {o} e => by
            show hide _ _ _ = _
            rw [hide_of, e]
            intro z
            rcases List.mem_append.mp z with z | z
            · exact S.dis a (List.mem_of_getElem? ha) z
            · exact hna z
          cases q : M'[j]? with
          | none => rw [q] at h; cases h
          | some c =>
            obtain ⟨a', h1, h2⟩ := S.cel j c q
            rw [ha] at h1
            cases h1
            rw [q] at h
            cases c with
            | lst xs =>
              obtain ⟨ys, q1, q2⟩ := map_some h
              subst q2
              obtain ⟨vs, e1, e2⟩ := h2
              exact .lst (hgr e1) (mapO_repL ih e2 q1)
            | ins d fs =>
              obtain ⟨ys, q1, q2⟩ := map_some h
              subst q2
              obtain ⟨dx, gs, e1, e2⟩ := h2
              exact .obj (hgr e1) (mapO_repF ih e2 q1)
            | dct _ => cases h
      | tup xs =>
        obtain ⟨ys, q1, q2⟩ := map_some h
        subst q2
        cases r with
        | tup hs ha => exact .tup (gr_take _ _ hs) (mapO_repL ih ha q1)
      | lst xs =>
        obtain ⟨ys, q1, q2⟩ := map_some h
        subst q2
        cases r with
        | lst hs ha => exact .lst (gr_take _ _ hs) (mapO_repL ih ha q1)
      | err c0 x0 =>
        obtain ⟨ys, q1, q2⟩ := map_some h
        subst q2
        cases r with
        | err h1 h2 h3 => exact .err (gr_take _ _ h1) (gr_take _ _ h2) (ih _ _ _ h3 q1)
      | _ => cases h
def cleanT (n : Nat) : List (List Key × MV) → Bool
  | [] => true
  | p :: xs => clean n p.2 && cleanT n xs
theorem cleanT_rep {G G' : Hp} {m : List Addr} {n : Nat} (e : Same G G') : ∀ (xs : List (List Key × MV)) (vs : List (List Key × V)), cleanT n xs = true → RepT K G m vs xs → RepT K G' (m.take n) vs xs
  | [], _, _, h => by cases h; exact .nil
  | (k, x) :: xs, _, c, h => by
    obtain ⟨c1, c2⟩ := Bool.and_eq_true_iff.mp (show (clean n x && cleanT n xs) = true from c)
    cases h with
    | cons h1 h2 => exact .cons (clean_rep e x _ c1 h1) (cleanT_rep e xs _ c2 h2)
theorem RepT.back {n : Nat} {G0 : Hp} {m0 : List Addr} (hn : m0.length ≤ n) : ∀ (xs : List (List Key × MV)) (vs : List (List Key × V)), RepT K G0 m0 vs xs → cleanT n xs = true
  | [], _, _ => rfl
  | (k, x) :: xs, _, h => by
    cases h with
    | cons h1 h2 => exact Bool.and_eq_true_iff.mpr ⟨RepV.back hn x _ h1, RepT.back hn xs _ h2⟩
/-- the call's own cells are let go -/
theorem Sim.cut (S0 : Sim K O m M H) (S : Sim K O m' M' H') (e : Ext m H m' H') (hM : M'.take M.length = M) : Sim K O m M H' ∧ Ext m H m H' ∧ m'.take M.length = m := by
  have hm : m'.take M.length = m := by
    obtain ⟨t, rfl⟩ := e.pre
    rw [← S0.len, List.take_left]
  have e2 : Ext m H m H' := ⟨List.prefix_refl m, e.keep, fun _ z => .inl z, e.there⟩
  refine ⟨⟨S0.len, S0.nd, S0.dis, fun i c q => ?_, S0.otr' e2⟩, e2, hm⟩
  have hi : i < M.length := (List.getElem?_eq_some_iff.mp q).1
  have q' : M'[i]? = some c := by
    rw [← hM, List.getElem?_take_of_lt (by rw [hM] at *; exact hi)] at q
    exact q
  obtain ⟨a, h1, h2⟩ := S.cel i c q'
  obtain ⟨a0, h3, h4⟩ := S0.cel i c q
  have ea : a = a0 := by
    have := pre_get e.pre h3
    rw [h1] at this
    exact Option.some.inj this
  subst ea
  refine ⟨a, h3, ?_⟩
  have hg : Same (gr O m' H') (gr O m H') := by
    have z := gr_take (O := O) (m' := m') (H' := H') (n := M.length)
    rw [hm] at z
    exact z
  cases c with
  | lst xs =>
    obtain ⟨vs, e1, e2⟩ := h2
    obtain ⟨vs0, e3, e4⟩ := h4
    have z := cleanL_rep (n := M.length) (m := m') hg xs vs (e4.back (by rw [S0.len]; exact Nat.le_refl _)) e2
    rw [hm] at z
    exact ⟨vs, e1, z⟩
  | ins d fs =>
    obtain ⟨dx, gs, e1, e2⟩ := h2
    obtain ⟨dx0, gs0, e3, e4⟩ := h4
    have z := cleanF_rep (n := M.length) (m := m') hg fs gs (e4.back (by rw [S0.len]; exact Nat.le_refl _)) e2
    rw [hm] at z
    exact ⟨dx, gs, e1, z⟩
  | dct kvs =>
    obtain ⟨ps, e1, e2⟩ := h2
    obtain ⟨ps0, e3, e4⟩ := h4
    have z := cleanT_rep (n := M.length) (m := m') hg kvs ps (e4.back (by rw [S0.len]; exact Nat.le_refl _)) e2
    rw [hm] at z
    exact ⟨ps, e1, z⟩
theorem fin_of {keep : Bool} {W : WX} {s : St} {Q : VK} {w : Res MV} (S0 : Sim K O m M H) (h : PostE K O m H W s Q (fin keep M w)) : PostE K O m H W s Q w := by
  cases w with
  | stuck => exact h
  | ok v M1 =>
    unfold fin at h
    simp only at h
    split at h
    · exact h
    · split at h
      · rename_i hM
        cases q : frz M1 M.length 64 v with
        | none => rw [q] at h; exact h.elim
        | some u =>
          rw [q] at h
          intro vv m' H' e' S' r'
          obtain ⟨S2, e2, hm⟩ := S0.cut S' e' hM
          have z := frz_rep S' 64 vv v u r' q
          rw [hm] at z
          exact h vv m H' e2 S2 z
      · exact h
  | exn c v M1 =>
    unfold fin at h
    simp only at h
    split at h
    · exact h
    · split at h
      · rename_i hM
        cases q : frz M1 M.length 64 v with
        | none => rw [q] at h; exact h.elim
        | some u =>
          rw [q] at h
          intro d vv m' H' e' S' r' hd
          obtain ⟨S2, e2, hm⟩ := S0.cut S' e' hM
          have z := frz_rep S' 64 vv v u r' q
          rw [hm] at z
          exact h d vv m H' e2 S2 z hd
      · exact h
end
end Mini

set_option Elab.async false
set_option linter.all false
set_option maxRecDepth 100000
set_option maxHeartbeats 2000000
/-! MiV: own errors made by keyword; errors over OverflowError. -/
namespace PySem
namespace HandSPX
open Builtin Builtin.ObjectAttr
section
variable {M : Model} {A : Around} {E : Value → Shared → Prop} {h : Heap} {g : Array GenState} {d : Drawn} {t : Nat} {os : OsState}
variable {nm q : Str} {C N : Addr} {bs bm bmB : List Value} {hdct : Bool} {sn : List Str} {sub : List Value} {ab : Bool} {col : Option Bool} {dd : Option Addr} {k0 k1 k2 k3 k5 : Option Value} {B newId initId : String}
theorem ck_new_kw (F : ExcBaseFacts B newId initId bmB) (hT : ∀ X : String, bm.contains (.type X) = bmB.contains (.type X)) {kx : Str} {kv : Value} {Q : Unit → Shared → Prop}
    (hC : h.get? C = some (excClassObj nm q C N bs bm hdct sn sub ab col dd k0 k1 k2 k3 k5 newId)) (hq : Q () ⟨h, g, d, t, os⟩) : wpAny M A (checkBuiltinCall newId ⟨[.ref C], [(kx, kv)]⟩) Q E ⟨h, g, d, t, os⟩ := by
  have c1 : (Value.ref C :: bm).contains (.type B) = true := by rw [List.contains_cons, hT, F.hasB, Bool.or_true]
  have c2 := F.noStar
  simp only [checkBuiltinCall, F.newKind, F.newSplit, F.newRow]
  repeat (first | refine wpAny_loadPart_at hC ?_ | (refine wpAny_isSubtype_exc hC ?_; rw [c1]) | refine wpAny_staticBase_exc hC ?_ | refine wpAny_madeBy_exc hC ?_ | simp only [bne_self_eq_false, Bool.false_eq_true, if_false] | wp_step)
  exact hq
end
section
variable {prog : Program} {w : World} {A : Around} {E : Value → Shared → Prop} {R : Result → Shared → Prop} {h : Heap} {g : Array GenState} {d : Drawn} {t : Nat} {os : OsState}
variable {nm q : Str} {C N : Addr} {bs bm bmB : List Value} {hdct : Bool} {sn : List Str} {sub : List Value} {ab : Bool} {col : Option Bool} {dd : Option Addr} {k0 k1 k2 k3 k5 : Option Value} {B newId initId : String} {kx : Str} {kv : Value}
theorem new_kw (F : ExcBaseFacts B newId initId bmB) (hT : ∀ X : String, bm.contains (.type X) = bmB.contains (.type X))
    (hC : h.get? C = some (excClassObj nm q C N bs bm hdct sn sub ab col dd k0 k1 k2 k3 k5 newId))
    (hq : R (.ok (.ret (.ref (h.objs.size + 1)))) ⟨(h.push (W.kdv_tup [])).push (excO C h.objs.size), g, d, t, os⟩) :
    codeAny (model prog w) A (.builtin newId ⟨[.ref C], [(kx, kv)]⟩) R ⟨h, g, d, t, os⟩ := by
  have e1 := F.ends
  have i1 : (Value.ref C :: bm).contains (.type B) = true := by rw [List.contains_cons, hT, F.hasB, Bool.or_true]
  have i2 : (Value.ref C :: bm).contains (.type "AttributeError") = false := by rw [List.contains_cons, hT, F.noAttr]; rfl
  have i3 : (Value.ref C :: bm).contains (.type "NameError") = false := by rw [List.contains_cons, hT, F.noName]; rfl
  refine codeAny_builtinAt F.entry ?_
  unfold Builtin.«BaseException.__new__»
  refine wpAt_bind ?_
  show wpAt _ _ _ (stack >>= _) _ _ _
  refine wpAt_bind (wpAt_stack fun p below => wpAt_of_wpAny ?_)
  wp_walk
  refine wpAt_of_wpAny ?_
  rw [F.owner]
  repeat (first | with_reducible refine wpAny_madeHere_exc F.canon hC ?_ | with_reducible refine wpAny_loadPart_at hC ?_ | (with_reducible refine wpAny_isSubtype_exc hC ?_; first | rw [i1] | rw [i2] | rw [i3]) | wp_step)
  show R _ _
  rw [Heap.size_push]
  exact hq
theorem type_call_kw (F : ExcBaseFacts B newId initId bmB) (hT : ∀ X : String, bm.contains (.type X) = bmB.contains (.type X)) {fI : Addr} {Q : Fin → Shared → Prop}
    (hC : h.get? C = some (excClassObj nm q C N bs bm hdct sn sub ab col dd k0 k1 k2 k3 k5 newId))
    (hi : W.Looks (model prog w) h (typeLookup (.ref C) "__init__") (some (.ref fI))) (hb : ∀ self, W.Looks (model prog w) h (bindSpecial (.ref fI) self) (.ref fI, [self]))
    (hq : codeAny (model prog w) A (.call (.ref fI) ⟨[.ref (h.objs.size + 1)], [(kx, kv)]⟩)
      (fun r s' => match r with | .ok (.ret v) => v = .none ∧ Q (.done (.ret (.ref (h.objs.size + 1)))) s' | .ok _ => False | .error e => E e s')
      ⟨(h.push (W.kdv_tup [])).push (excO C h.objs.size), g, d, t, os⟩) :
    wpAny (model prog w) A (Builtin.«type.__call__» ⟨[.ref C], [(kx, kv)]⟩) Q E ⟨h, g, d, t, os⟩ := by
  repeat (first | with_reducible refine wpAny_loadPart_at hC ?_ | with_reducible refine wpAny_madeBy_exc hC ?_ | wp_step)
  refine codeAny_call_builtin_code (Code.quiet_builtin _ F.quiet) (ck_new_kw F hT hC ?_)
  refine new_kw F hT hC ?_
  show wpAny _ _ _ _ _ _
  have k : ∀ b o, h.get? b = some o → ((h.push (W.kdv_tup [])).push (excO C h.objs.size)).get? b = some o := fun b o e => Heap.get?_push_of_some _ (Heap.get?_push_of_some _ e)
  have hC1 := k _ _ hC
  have hg1 : ((h.push (W.kdv_tup [])).push (excO C h.objs.size)).get? (h.objs.size + 1) = some (excO C h.objs.size) := by heap_get
  have hcC : (Value.ref C :: bm).contains (.ref C) = true := by simp
  have i1 := hi.keeps k
  have b1 := (hb (.ref (h.objs.size + 1))).keeps k
  unfold isInstance
  repeat (first | with_reducible refine wpAny_loadPart_at hg1 ?_ | (with_reducible refine wpAny_isSubtype_exc hC1 ?_; rw [hcC]) | wp_step)
  show wpAny _ _ (typeLookup (.ref C) _) _ _ _
  refine i1.at ?_
  refine wpAny_holding (wpAny_bind (b1.at ?_))
  refine wpAny_bind (wpAny_call (codeAny_mono hq fun r s' z => ?_))
  rcases r with e | (v | _ | _ | _) <;> first | exact z | exact z.elim | skip
  obtain ⟨rfl, z⟩ := z
  first
    | exact wpAny_pure (wpAny_pure z)
    | (wp_walk; exact z)
theorem ck_type_kw {M : Model} {Q : Unit → Shared → Prop} (hC : h.get? C = some (excClassObj nm q C N bs bm hdct sn sub ab col dd k0 k1 k2 k3 k5 newId)) (hq : Q () ⟨h, g, d, t, os⟩) : wpAny M A (checkBuiltinCall "type.__call__" ⟨[.ref C], [(kx, kv)]⟩) Q E ⟨h, g, d, t, os⟩ := by
  have f3 := tc_sub
  have hT : (⟨h, g, d, t, os⟩ : Shared).TypeIs (.ref C) "type" := ⟨_, hC, rfl⟩
  simp only [checkBuiltinCall, tc_kind, tc_split]
  repeat (any_goals (first | assumption | with_reducible refine wpAny_loadPart_at hC ?_ | with_reducible refine wpAny_onRaise ?_ | with_reducible refine wpAny_map ?_ | wp_step))
theorem call_kw (F : ExcBaseFacts B newId initId bmB) (hT : ∀ X : String, bm.contains (.type X) = bmB.contains (.type X)) {fI : Addr}
    (hC : h.get? C = some (excClassObj nm q C N bs bm hdct sn sub ab col dd k0 k1 k2 k3 k5 newId))
    (hi : W.Looks (model prog w) h (typeLookup (.ref C) "__init__") (some (.ref fI))) (hb : ∀ self, W.Looks (model prog w) h (bindSpecial (.ref fI) self) (.ref fI, [self]))
    (hq : codeAny (model prog w) (A.under (.builtin "type.__call__" ⟨[.ref C], [(kx, kv)]⟩)) (.call (.ref fI) ⟨[.ref (h.objs.size + 1)], [(kx, kv)]⟩) (W.InitBack (h.objs.size + 1) R)
      ⟨(h.push (W.kdv_tup [])).push (excO C h.objs.size), g, d, t, os⟩) :
    codeAny (model prog w) A (.call (.ref C) ⟨[], [(kx, kv)]⟩) R ⟨h, g, d, t, os⟩ := by
  have f1 := tc_lookup
  have f2 := tc_bind (.ref C)
  have hTy : (⟨h, g, d, t, os⟩ : Shared).TypeIs (.ref C) "type" := ⟨_, hC, rfl⟩
  refine codeAny_of_tree ?_
  show wpAny _ _ (callAny (.ref C) _) _ _ _
  repeat (any_goals (first | assumption | with_reducible refine wpAny_loadPart_at hC ?_ | wp_step))
  refine ⟨rfl, ?_⟩
  refine codeAny_call_builtin_at (Code.quiet_builtin _ (by decide +kernel)) entry_typeCall (ck_type_kw hC (type_call_kw F hT hC hi hb ?_))
  refine codeAny_mono hq fun r s' z => ?_
  rcases r with e | (v | _ | _ | _) <;> exact z
end
/-! ### errors over OverflowError -/
abbrev oeTail : List Value := [.type "OverflowError", .type "ArithmeticError", .type "Exception", .type "BaseException", .type "object"]
def refsOE : List Value → Bool
  | .ref _ :: r => refsOE r
  | l => l == oeTail
theorem refsOE_of : ∀ l : List Value, refsOE l = true → (∃ c r, l = .ref c :: r ∧ refsOE r = true) ∨ l = oeTail := by
  intro l e
  cases l with
  | nil => exact .inr (beq_iff_eq.mp e)
  | cons a r =>
    cases a with
    | ref c => exact .inl ⟨c, r, rfl, e⟩
    | _ => exact .inr (beq_iff_eq.mp e)
theorem refsOE_pass (self : Value) : ∀ l : List Value, refsOE l = true → refuseLoop self "__setattr__" l = pure ()
  | [], e => absurd e (by decide)
  | a :: r, e => by
    rcases refsOE_of (a :: r) e with ⟨c, r', q, h⟩ | q
    · obtain ⟨rfl, rfl⟩ := List.cons.inj q
      rw [refuseLoop_ref]
      exact refsOE_pass self r h
    · rw [q]
      exact F.store_OverflowError.passes self
theorem refsOE_contains (X : String) : ∀ l : List Value, refsOE l = true → l.contains (.type X) = oeTail.contains (.type X)
  | [], e => absurd e (by decide)
  | a :: r, e => by
    rcases refsOE_of (a :: r) e with ⟨c, r', q, h⟩ | q
    · obtain ⟨rfl, rfl⟩ := List.cons.inj q
      rw [List.contains_cons, refsOE_contains X r h]
      rfl
    · rw [q]
theorem refsOE_ne {l : List Value} (e : refsOE l = true) : l.isEmpty = false := by
  cases l with
  | nil => exact absurd e (by decide)
  | cons _ _ => rfl
section
variable {prog : Program} {w : World} {A : Around} {R : Result → Shared → Prop} {hp : Heap} {g : Array GenState} {d : Drawn} {t : Nat} {os : OsState}
theorem exc_osaO {K : W.Frag} {name : Str} {tk : Tok} {v : Value} {x C : Addr} {fv : Array Value} {cd : ClassData}
    (X : K.In hp) (hx : hp.get? x = some { cls := .ref C, data := .fields fv }) (hcd : W.clsIn K C = some cd) (hm : refsOE cd.mro = true) (hh : cd.hasDict = true) (ha : W.findIn K (.ref C) name = some none)
    (hq : ∀ h' tk' dx, (∀ b o, b ≠ x → hp.get? b = some o → h'.get? b = some o) → hp.objs.size ≤ dx → dx ≠ x → h'.get? x = some { cls := .ref C, dict := some dx, data := .fields fv } → h'.Ns1 dx (fun y => if y = name then some v else none) → R (.ok (.ret .none)) ⟨h', g, d, tk', os⟩) :
    codeAny (model prog w) A (.call (.builtin "object.__setattr__") ⟨[.ref x, .str name tk, v], []⟩) R ⟨hp, g, d, t, os⟩ := by
  have iA : W.InstAt hp x { cls := .ref C, data := .fields fv } C none := ⟨hx, rfl, rfl, trivial⟩
  have st := F.store_object
  have n0 := refsOE_ne hm
  have ob : cd.mro.contains (.type "object") = true := (refsOE_contains "object" _ hm).trans (by decide +kernel)
  have xs : x ≠ hp.objs.size := Nat.ne_of_lt (Heap.lt_size hx)
  have su : W.Looks (model prog w) hp (isInstance (.ref x) (.type "object")) true := iA.type.andThen (W.looks_mroIn X (by unfold W.mroIn; rw [hcd, Option.bind_some, if_neg (by rw [n0]; decide), ob]))
  refine codeAny_call_builtin st.slot.plain st.entry (@W.check_slot (model prog w) _ _ ⟨hp, g, d, t, os⟩ "object.__setattr__" "object" "__setattr__" (.ref x) [.str name tk, v] [] _ st.kind st.split su (st.args (.ref x) (.str name tk) v) ?_)
  have mr : W.Looks (model prog w) hp (mroOf (.ref C)) cd.mro := (W.looks_clsIn X hcd).andThen .now
  have l3 : W.Looks (model prog w) hp (storeTaker? none) none := .now
  have hcls : W.Looks (model prog w) hp (classData C) cd := W.looks_clsIn X hcd
  rw [W.osa_eq, refuse_eq]
  refine wpAny_bind (wpAny_bind (iA.type.at (wpAny_bind (mr.at ?_))))
  rw [refsOE_pass _ _ hm]
  refine wpAny_pure (wpAny_bind (iA.type.at (wpAny_bind ((W.looks_findIn X ha).at (wpAny_bind (l3.at ?_))))))
  show wpAny _ _ (storeInOwnDict (.ref x) (.ref C) (.str name tk) name v false) _ _ _
  obtain ⟨nm, bs, mro, ns, qn, hd, sn, sb, ab, col, del⟩ := cd
  dsimp only at hh
  subst hh
  unfold storeInOwnDict ownDictForStores
  repeat (first | with_reducible refine store_in_new ?_ ?_ | with_reducible refine wpAny_loadPart_at hx ?_ | with_reducible refine hcls.at ?_ | wp_step)
  · exact ⟨_, #[], _, (Heap.get?_update_ne _ _ _ _ xs.symm).trans (Heap.get?_push_at rfl rfl), rfl, fun e he => absurd he (by simp), fun _ => rfl⟩
  · intro h' tk' hn' hs
    have hx1 : (hp.push { cls := .type "dict", data := .dict #[] }).get? x = some { cls := .ref C, data := .fields fv } := Heap.get?_push_of_some _ hx
    refine hq h' tk' hp.objs.size (fun b o hb ho => ?_) (Nat.le_refl _) xs.symm ?_ hn'
    · exact (hs.2 b (Nat.ne_of_lt (Heap.lt_size ho))).trans ((Heap.get?_update_ne _ _ _ _ hb).trans (Heap.get?_push_of_some _ ho))
    · exact (hs.2 x xs).trans (Heap.get?_update_self _ hx1 rfl)
end
end HandSPX
end PySem

set_option Elab.async false
set_option linter.all false
set_option maxRecDepth 100000
set_option maxHeartbeats 2000000
/-! MiX: own errors: class C(..ValueError..): def __init__(self, told): super().__init__(told); self.told = told. -/
namespace Mini
open PySem L2
theorem erO_ok {P : Program} {w : World} {H : Hp} {h : Heap} {a d : Addr} {cls : Value} {oe : Obj} {vs : Array Value} (e : h.get? a = some oe) (z1 : oe.cls = cls) (z2 : oe.dict = some d) (z3 : oe.data = .fields vs) : ObjOk P w H h a (ErO cls d a) :=
  ⟨⟨oe, vs, e, z1, z2, z3⟩, ⟨oe, e⟩, fun _ _ ⟨o, v, q, r⟩ k => ⟨o, v, k o q, r⟩⟩
section text
def erArgs (p1 p2 : Pos) : Arguments := { posonlyargs := [], args := [{ arg := "self", annotation := none, pos := p1 }, { arg := "told", annotation := none, pos := p2 }], vararg := none, kwonlyargs := [], kw_defaults := [], kwarg := none, defaults := [] }
def erBody (a0 a1 a2 a3 a4 a5 b1 b2 b3 b4 : Pos) : List Stmt := [.Expr (.Call (.Attribute (.Call (.Name "super" a0) [] [] a1) "__init__" a2) [.Name "told" a3] [] a4) a5, .Assign [.Attribute (.Name "self" b1) "told" b2] (.Name "told" b3) b4]
def erScope : Scope := { kind := .function, names := [(PySem.Str.ofString "self", .local), (PySem.Str.ofString "told", .local), (PySem.Str.ofString "__class__", .free), (PySem.Str.ofString "super", .globalImplicit)], isGenerator := false, isCoroutine := false, more := [] }
end text
/-- what the written part says of the class at C and of its __init__ at fI -/
structure ErT (prog : Program) (K : PySem.W.Frag) (C fI : Addr) : Prop where
  cls : ∃ nm q N bs bm sn sub ab col dd k0 k1 k2 k3 k5, K.lookup C = some (excClassObj nm q C N bs bm true sn sub ab col dd k0 k1 k2 k3 k5 "ValueError.__new__") ∧ HandSPX.refsVE bm = true
  sa : PySem.W.findIn K (.ref C) "__setattr__" = some (some (.builtin "object.__setattr__"))
  ga : PySem.W.findIn K (.ref C) "__getattribute__" = some (some (.builtin "BaseException.__getattribute__"))
  gg : PySem.W.findIn K (.ref C) "__getattr__" = some none
  noN : PySem.W.findIn K (.ref C) "told" = some none
  iC : PySem.W.findIn K (.ref C) "__init__" = some (some (.ref fI))
  tC : PySem.W.typeIn K (.ref fI) = some (.type "function")
  kC : PySem.W.keepIn K (.ref C) = true
  exC : PySem.W.subIn K (.ref C) (.type "BaseException") = some true
  tyC : PySem.W.typeIn K (.ref C) = some (.type "type")
  hdC : PySem.W.hasDictIn K C = true
  sup : PySem.W.ks_superIn K C C "__init__" = some (some (.builtin "ValueError.__init__"))
  subB : PySem.W.subIn K (.ref C) (.type "ValueError") = some true
  mroC : PySem.W.mroIn K C (.ref C) = some true
  opq : PySem.W.nsIn K cStatics "thirdparty.any" = some none
  fn : ∃ (oc : Value) (od : Option Addr) (kV doc pm : Value) (an : Option Addr) (cda : Addr) (ct : Value) (osl : Array (Option Value)) (cc : Addr) (qual : Str) (p1 p2 a0 a1 a2 a3 a4 a5 b1 b2 b3 b4 : Pos) (ccl : Value) (cdd : Option Addr) (vs : Array Value) (ccs : Array (Option Value)) (file : Str) (tf : Tok) (cl : Value) (cld : Option Addr) (csl : Array (Option Value)),
    K.lookup fI = some ⟨oc, od, .func (PySem.W.ksFn "__init__" qual (erArgs p1 p2) (erBody a0 a1 a2 a3 a4 a5 b1 b2 b3 b4) erScope .none kV doc pm an (.ref cda) ct cc), osl⟩ ∧ PySem.W.codeIn K (.ref cda) qual = true ∧
    K.lookup cda = some ⟨ccl, cdd, .fields vs, ccs⟩ ∧ vs[2]? = some (.str file tf) ∧ ((prog.main.file : Str) == file) = true ∧ (a2.endLine == a4.line) = true ∧ K.lookup cc = some ⟨cl, cld, .cell (some (.ref C)), csl⟩
structure ErEnd (h h' : Heap) (x C dx : Addr) (v : Value) : Prop where
  keep : ∀ b o, b ≠ x → h.get? b = some o → h'.get? b = some o
  obj : ∃ t1 : Addr, h'.get? x = some { cls := .ref C, dict := some dx, data := .fields #[.ref t1, .none, .none, .none, .bool false, .none] }
  dbig : h.objs.size ≤ dx
  dne : dx ≠ x
  ns : h'.Ns1 dx (fun y => if y = "told" then some v else none)
structure ErMade (h h' : Heap) (e C d : Addr) (v : Value) : Prop where
  keep : ∀ b o, h.get? b = some o → h'.get? b = some o
  new : h.objs.size ≤ e
  obj : ∃ oe vs, h'.get? e = some oe ∧ oe.cls = .ref C ∧ oe.dict = some d ∧ oe.data = .fields vs ∧ vs[1]? = some .none
  dbig : h.objs.size ≤ d
  dne : d ≠ e
  ns : h'.Ns1 d (fun y => if y = "told" then some v else none)
section
open PySem.W PySem.Calls PyProof.Rows PySem.HandSPX
variable {prog : Program} {w : World} {A : Around} {E : Value → Shared → Prop} {R : Result → Shared → Prop} {s : Shared} {K : Frag} {mg mb : Str → Option Value} {C fI : Addr}
theorem one_sz (v : Value) : [v].length ≤ sizeLine := by
  rw [sizeLine_eq]
  exact (by decide : 1 ≤ 16777216)
theorem ld_ks {M : Model} {name : Str} {scope : Scope} {L a cc : Addr} {cd : Value} {m : Str → Option Value} {x : Str} {pos : Pos} {v : Value} {Q : Value → Shared → Prop} (hn : s.heap.Ns L m) (hv : m x = some v) (h : Q v s)
    (hk : scope.kind = .function := by rfl) (hl : (ksEnv name scope L a cd cc).kindOf x = some .local := by rfl) (hd : (x == ("__debug__" : Str)) = false := by decide) :
    wpAny M A (eval (.Name x pos) (ksEnv name scope L a cd cc)) Q E s := wpAny_Name (wpAny_loadName_local hk hl hn hv h) hd
/-- super().__init__(v) of a bound ValueError.__init__ -/
theorem call_mw {h : Heap} {g : Array GenState} {d : Drawn} {t : Nat} {os : OsState} {u e t0 : Addr} {rest : List Value} {Q : Value → Shared → Prop} {nm q : Str} {N : Addr} {bs bm : List Value} {hdct : Bool} {sn : List Str} {sub : List Value} {ab : Bool} {col : Option Bool} {dd : Option Addr} {k0 k1 k2 k3 k5 : Option Value}
    (hC : h.get? C = some (excClassObj nm q C N bs bm hdct sn sub ab col dd k0 k1 k2 k3 k5 "ValueError.__new__")) (he : h.get? e = some (excO C t0)) (hu : h.get? u = some (kxs_mw "ValueError.__init__" e)) (hrest : rest.length ≤ sizeLine)
    (hq : ∀ h' t1, (∀ b o, b ≠ e → h.get? b = some o → h'.get? b = some o) → h'.get? e = some (excO C t1) → Q .none ⟨h', g, d, t, os⟩) :
    wpAny (model prog w) A (call (.ref u) rest) Q E ⟨h, g, d, t, os⟩ := by
  refine wpAny_call (codeAny_of_tree ?_)
  show wpAny _ A.in1 (callAny (.ref u) ⟨rest, []⟩) _ _ _
  simp only [callAny]
  refine wpAny_bind (wpAny_load hu ?_)
  simp only [kxs_mw, show (Value.type "method-wrapper" == Value.type "method" || Value.type "method-wrapper" == Value.type "builtin_function_or_method" || Value.type "method-wrapper" == Value.type "method-wrapper") = true by decide, if_true]
  refine W.KFB.if_so (by decide) ?_
  refine wpAny_bind (check_bound_init F.excBase_ValueError.toExcCallFacts hC he rfl ?_)
  refine wpAny_bind (wpAny_pure (wpAny_pure ?_))
  refine ⟨plainId_quiet F.excBase_ValueError.init.plain _, codeAny_builtin F.excBase_ValueError.initEntry ?_⟩
  exact exc_init_tree (cls := .ref C) (t0 := t0) (dv := none) (c2 := .none) (c3 := .none) (b4 := .bool false) he hrest fun h' k e' t' => hq h' _ k e'
theorem mc_eq {qual : Str} {L f cc : Addr} {cd : Value} {a0 a1 a2 a3 a4 : Pos} (hpos : (a2.endLine == a4.line) = true) : eval (.Call (.Attribute (.Call (.Name "super" a0) [] [] a1) "__init__" a2) [.Name "told" a3] [] a4) (ksEnv qual erScope L f cd cc) = (do
      let ov ← attributeBase (.Call (.Name "super" a0) [] [] a1) "__init__" (ksEnv qual erScope L f cd cc) (eval (.Call (.Name "super" a0) [] [] a1) (ksEnv qual erScope L f cd cc))
      standAt a2.atName
      let (fn, first) ← holding [ov] (getMethod ov "__init__" (do return (← importBound (.Call (.Name "super" a0) [] [] a1) (ksEnv qual erScope L f cd cc)).getD true))
      callWith a4 fn first (backTo a4 (starEach [.Name "told" a3] (ksEnv qual erScope L f cd cc))) []) := by
  show (attributeBase (.Call (.Name "super" a0) [] [] a1) "__init__" (ksEnv qual erScope L f cd cc) (eval (.Call (.Name "super" a0) [] [] a1) (ksEnv qual erScope L f cd cc)) >>= fun ov => standAt a2.atName >>= fun _ => methodCall (.Call (.Name "super" a0) [] [] a1) "__init__" a2 a4 (ksEnv qual erScope L f cd cc) ov 1 (backTo a4 (starEach [.Name "told" a3] (ksEnv qual erScope L f cd cc))) []) = _
  congr 1
  funext ov
  congr 1
  funext _
  unfold methodCall methodCallPos
  rw [hpos]
  rfl
theorem er_init (T : ErT prog K C fI) {x t0 : Addr} {v : Value} (X : K.In s.heap) (hlim : s.heap.NoLimit) (hG : s.heap.Ns mainGlobals mg) (hB : s.heap.Ns builtinsNs mb) (hsg : mg "super" = none) (hsb : mb "super" = some (.type "super")) (htop : (prog.main.scope.names.lookup ("super" : Str)).isSome = false)
    (hx : s.heap.get? x = some (excO C t0)) (hnx : K.lookup x = none) (hxG : x ≠ mainGlobals) (hxB : x ≠ builtinsNs) (hroom : A.depth < recursionLimit) {args : Args} (hargs : args = ⟨[.ref x, v], []⟩ ∨ args = ⟨[.ref x], [("told", v)]⟩)
    (hq : ∀ h' tk dx, ErEnd s.heap h' x C dx v → R (.ok (.ret .none)) { s with heap := h', toks := tk }) :
    codeAny (model prog w) A (.call (.ref fI) args) R s := by
  obtain ⟨oc, od, kV, doc, pm, an, cda, ct, osl, cc, qual, p1, p2, a0, a1, a2, a3, a4, a5, b1, b2, b3, b4, ccl, cdd, vs, ccs, file, tf, cl, cld, csl, ho, hcd, hcode, hvs, hfile, hpos, hcell⟩ := T.fn
  obtain ⟨nm, q, N, bs, bm, sn, sub, ab, col, dd, k0, k1, k2, k3, k5, hC, hbm⟩ := T.cls
  have hcl : clsIn K C = some { name := nm, bases := bs, mro := .ref C :: bm, ns := N, qualname := q, hasDict := true, slotNames := sn, subclasses := sub, abstract := ab, collection := col, hasDel := false } := by unfold clsIn; rw [hC] <;> rfl
  obtain ⟨hp, g, dr, tk, os⟩ := s
  refine ks_codeAny_call_defAt (fd := ksFn "__init__" qual (erArgs p1 p2) (erBody a0 a1 a2 a3 a4 a5 b1 b2 b3 b4) erScope .none kV doc pm an (.ref cda) ct cc) (body := erBody a0 a1 a2 a3 a4 a5 b1 b2 b3 b4) (binds := [("self", .ref x), ("told", v)]) hroom (X _ _ ho) rfl hlim (codeRec_of X hcd) rfl (by rcases hargs with rfl | rfl <;> exact BindsTo.of_eq (by first | rfl | with_unfolding_all rfl)) (show ∀ x ∈ erScope.names, x.2 ≠ .cell by decide) (locs rfl) (fun h₁ hns hk => ?_)
  show _root_.PySem.wpAt _ (A.deeper (ksEnv qual erScope hp.objs.size fI (.ref cda) cc)) (.func _ (ksEnv qual erScope hp.objs.size fI (.ref cda) cc)) (execs _ (ksEnv qual erScope hp.objs.size fI (.ref cda) cc)) _ _ _
  have X₁ : K.In h₁ := X.keeps hk
  have hx₁ : h₁.get? x = some (excO C t0) := hk _ _ hx
  have hD1 := X₁ _ _ hC
  refine ks_wpAt_execs_cons (ks_wpAt_Expr_any ?_ rfl rfl)
  refine ks_wpAt_MethodCall ?_ (mc_eq hpos)
  refine ks_wpAt_super_base (env := ksEnv qual erScope hp.objs.size fI (.ref cda) cc) rfl rfl (by decide) rfl (X₁ _ _ ho) rfl rfl rfl (X₁ _ _ hcode) rfl hvs hfile htop ?_
  refine ks_loadName_global rfl rfl (loadGlobal_builtin (env := ksEnv qual erScope hp.objs.size fI (.ref cda) cc) (hG.keeps hk) hsg (hB.keeps hk) hsb ⟨rfl, ?_⟩)
  refine wpAny_loadName_free rfl rfl rfl ⟨_, X₁ _ _ hcell, rfl⟩ ?_
  refine wpAny_loadName_local (v := .ref x) rfl rfl hns (by first | rfl | kernel_rfl) ?_
  refine ks_wpAny_isType_cls hD1 rfl ⟨rfl, ?_⟩
  refine ks_wpAny_call_super hD1 rfl hx₁ rfl (fun c e => by cases e) (looks_mroIn X₁ T.mroC) (fun h₂ e₂ k₂ => ?_)
  have X₂ : K.In h₂ := X₁.keeps k₂
  have hx₂ : h₂.get? x = some (excO C t0) := k₂ _ _ hx₁
  have I₂ : InstAt h₂ x (excO C t0) C none := ⟨hx₂, rfl, rfl, trivial⟩
  have hm := T.sup
  unfold ks_superIn at hm
  rw [hcl] at hm
  refine kxs_getMethod kxs_ValueError e₂ (looks_opaque X₂ T.opq) (l₀ := .ref C :: bm) ?_ rfl X₂ hm (I₂.type.andThen (looks_subIn X₂ T.subB)) (ks_ne X₂ I₂ hcl) (by decide) ?_
  · exact fun A Q E s k q => wpAny_bind ((looks_clsIn X₂ hcl) A _ E s k (wpAny_pure q))
  have k₃ : ∀ b o, h₂.get? b = some o → (h₂.push (kxs_mw "ValueError.__init__" x)).get? b = some o := fun b o e => Heap.get?_push_of_some _ e
  refine kxs_callWith (i := "ValueError.__init__") (x := x) rfl ?_
  refine evalArgs_plain (spliced_cons ?_)
  refine ld_ks (v := v) ((hns.keeps k₂).keeps k₃) (by first | rfl | kernel_rfl) ?_
  refine spliced_nil ⟨Heap.get?_push_at rfl rfl, ?_⟩
  refine call_mw (k₃ _ _ (k₂ _ _ hD1)) (k₃ _ _ hx₂) (Heap.get?_push_at rfl rfl) (one_sz v) fun h₄ t1 k₄ hx₄ => ?_
  have k5 : ∀ b o, b ≠ x → h₁.get? b = some o → h₄.get? b = some o := fun b o hb e => k₄ b o hb (k₃ _ _ (k₂ _ _ e))
  have X₄ : K.In h₄ := fun a o e => k5 a o (fun z => by rw [z, hnx] at e; cases e) (X₁ _ _ e)
  have hxL : hp.objs.size ≠ x := Nat.ne_of_gt (Heap.lt_size hx)
  have hns₄ : h₄.Ns hp.objs.size (fun y => ([("self", .ref x), ("told", v)] : List (Str × Value)).reverse.lookup y) := by
    obtain ⟨oL, es, ep, hL, r⟩ := hns
    exact ⟨oL, es, ep, k5 _ _ hxL hL, r⟩
  refine _root_.PySem.wpAt_of_wpAny ?_
  refine wpAny_execs_cons (plainObj_wpAny_Assign_Attribute ?_)
  refine ld_ks (v := v) hns₄ (by first | rfl | kernel_rfl) (ld_ks (v := .ref x) hns₄ (by first | rfl | kernel_rfl) ?_)
  refine set_plain X₄ (ox := excO C t1) (od := none) ⟨hx₄, rfl, rfl, trivial⟩ T.sa ?_
  refine exc_osa X₄ hx₄ hcl (show refsVE (.ref C :: bm) = true from hbm) rfl T.noN (fun h₅ tk₅ dx k₅ dn dne hx₅ hn₅ => ?_)
  have z0 : hp.objs.size ≤ h₄.objs.size := Nat.le_of_lt hns₄.lt
  exact wpAny_execs_nil (hq h₅ tk₅ dx ⟨fun b o hb e => k₅ b o hb (k5 b o hb (hk b o e)), ⟨t1, hx₅⟩, Nat.le_trans z0 dn, dne, hn₅⟩)
theorem er_made (T : ErT prog K C fI) {v : Value} (X : K.In s.heap) (hlim : s.heap.NoLimit) (hG : s.heap.Ns mainGlobals mg) (hB : s.heap.Ns builtinsNs mb) (hsg : mg "super" = none) (hsb : mb "super" = some (.type "super")) (htop : (prog.main.scope.names.lookup ("super" : Str)).isSome = false) (hroom : A.depth + 1 < recursionLimit)
    (hq : ∀ h' tk e d, ErMade s.heap h' e C d v → R (.ok (.ret (.ref e))) { s with heap := h', toks := tk }) :
    codeAny (model prog w) A (.call (.ref C) ⟨[v], []⟩) R s := by
  obtain ⟨nm, q, N, bs, bm, sn, sub, ab, col, dd, k0, k1, k2, k3, k5, hC, hbm⟩ := T.cls
  obtain ⟨hp, g, dr, tk, os⟩ := s
  have k : ∀ b o, hp.get? b = some o → ((hp.push (kdv_tup [v])).push (excO C hp.objs.size)).get? b = some o := fun b o e => Heap.get?_push_of_some _ (Heap.get?_push_of_some _ e)
  have hget : ((hp.push (kdv_tup [v])).push (excO C hp.objs.size)).get? (hp.objs.size + 1) = some (excO C hp.objs.size) := by heap_get
  have fresh : ∀ o, hp.get? (hp.objs.size + 1) ≠ some o := fun o z => absurd (Nat.lt_of_succ_lt (Heap.lt_size z)) (Nat.lt_irrefl _)
  have hnx : K.lookup (hp.objs.size + 1) = none := by
    cases e : K.lookup (hp.objs.size + 1) with
    | none => rfl
    | some o => exact absurd (X _ _ e) (fresh o)
  refine call_own F.excBase_ValueError (fun X => refsVE_contains X bm hbm) (X _ _ hC) (looks_findIn X T.iC) (fun self => bind_fn X self T.tC) (one_sz v) ?_
  refine er_init (s := ⟨(hp.push (kdv_tup [v])).push (excO C hp.objs.size), g, dr, tk, os⟩) T (X.keeps k) (hlim.keeps k) (hG.keeps k) (hB.keeps k) hsg hsb htop hget hnx ?_ ?_ ?_ (.inl rfl) fun h' tk' dx ⟨k', ⟨t1, hx⟩, dn, dne, hns⟩ => ?_
  · intro z
    have y := hG.lt
    rw [← z] at y
    exact absurd (Nat.lt_of_succ_lt y) (Nat.lt_irrefl _)
  · intro z
    have y := hB.lt
    rw [← z] at y
    exact absurd (Nat.lt_of_succ_lt y) (Nat.lt_irrefl _)
  · show A.depth + 1 < recursionLimit
    exact hroom
  · have old : ∀ b o, hp.get? b = some o → h'.get? b = some o := fun b o e => k' b o (Nat.ne_of_lt (Nat.lt_succ_of_lt (Heap.lt_size e))) (k b o e)
    have z : hp.objs.size + 1 + 1 ≤ dx := by
      first
        | (simpa only [Heap.size_push] using dn)
        | exact dn
        | (have q := dn; rw [Heap.size_push, Heap.size_push] at q; exact q)
    exact ⟨rfl, hq h' tk' (hp.objs.size + 1) dx ⟨old, Nat.le_succ _, ⟨_, _, hx, rfl, rfl, rfl, rfl⟩, Nat.le_trans (Nat.le_trans (Nat.le_succ _) (Nat.le_succ _)) z, dne, hns⟩⟩
theorem er_madeK (T : ErT prog K C fI) {v : Value} (X : K.In s.heap) (hlim : s.heap.NoLimit) (hG : s.heap.Ns mainGlobals mg) (hB : s.heap.Ns builtinsNs mb) (hsg : mg "super" = none) (hsb : mb "super" = some (.type "super")) (htop : (prog.main.scope.names.lookup ("super" : Str)).isSome = false) (hroom : A.depth + 1 < recursionLimit)
    (hq : ∀ h' tk e d, ErMade s.heap h' e C d v → R (.ok (.ret (.ref e))) { s with heap := h', toks := tk }) :
    codeAny (model prog w) A (.call (.ref C) ⟨[], [("told", v)]⟩) R s := by
  obtain ⟨nm, q, N, bs, bm, sn, sub, ab, col, dd, k0, k1, k2, k3, k5, hC, hbm⟩ := T.cls
  obtain ⟨hp, g, dr, tk, os⟩ := s
  have k : ∀ b o, hp.get? b = some o → ((hp.push (kdv_tup [])).push (excO C hp.objs.size)).get? b = some o := fun b o e => Heap.get?_push_of_some _ (Heap.get?_push_of_some _ e)
  have hget : ((hp.push (kdv_tup [])).push (excO C hp.objs.size)).get? (hp.objs.size + 1) = some (excO C hp.objs.size) := by heap_get
  have fresh : ∀ o, hp.get? (hp.objs.size + 1) ≠ some o := fun o z => absurd (Nat.lt_of_succ_lt (Heap.lt_size z)) (Nat.lt_irrefl _)
  have hnx : K.lookup (hp.objs.size + 1) = none := by
    cases e : K.lookup (hp.objs.size + 1) with
    | none => rfl
    | some o => exact absurd (X _ _ e) (fresh o)
  refine call_kw F.excBase_ValueError (fun X => refsVE_contains X bm hbm) (X _ _ hC) (looks_findIn X T.iC) (fun self => bind_fn X self T.tC) ?_
  refine er_init (s := ⟨(hp.push (kdv_tup [])).push (excO C hp.objs.size), g, dr, tk, os⟩) T (X.keeps k) (hlim.keeps k) (hG.keeps k) (hB.keeps k) hsg hsb htop hget hnx ?_ ?_ ?_ (.inr rfl) fun h' tk' dx ⟨k', ⟨t1, hx⟩, dn, dne, hns⟩ => ?_
  · intro z
    have y := hG.lt
    rw [← z] at y
    exact absurd (Nat.lt_of_succ_lt y) (Nat.lt_irrefl _)
  · intro z
    have y := hB.lt
    rw [← z] at y
    exact absurd (Nat.lt_of_succ_lt y) (Nat.lt_irrefl _)
  · show A.depth + 1 < recursionLimit
    exact hroom
  · have old : ∀ b o, hp.get? b = some o → h'.get? b = some o := fun b o e => k' b o (Nat.ne_of_lt (Nat.lt_succ_of_lt (Heap.lt_size e))) (k b o e)
    have z : hp.objs.size + 1 + 1 ≤ dx := by
      first
        | (simpa only [Heap.size_push] using dn)
        | exact dn
        | (have q := dn; rw [Heap.size_push, Heap.size_push] at q; exact q)
    exact ⟨rfl, hq h' tk' (hp.objs.size + 1) dx ⟨old, Nat.le_succ _, ⟨_, _, hx, rfl, rfl, rfl, rfl⟩, Nat.le_trans (Nat.le_trans (Nat.le_succ _) (Nat.le_succ _)) z, dne, hns⟩⟩
end
section
variable {X : Cx} {C fI : Addr}
theorem relO_told {v : V} {v' : Value} (r : RelV v v') (f : Str) : RelO (List.lookup f [(("told" : Str), v)]) (if f = "told" then some v' else none) := by
  by_cases hw : f = "told"
  · subst hw
    rw [if_pos rfl]
    have q : List.lookup ("told" : Str) [(("told" : Str), v)] = some v := by simp [List.lookup]
    rw [q]
    exact r
  · rw [if_neg hw]
    have qw : (f == ("told" : Str)) = false := by simpa using hw
    have q2 : List.lookup f [(("told" : Str), v)] = none := by simp [List.lookup, qw]
    rw [q2]
    trivial
/-- C(e) -/
def tMk (C : Addr) (ta : TA) : St → Hp → XK → Prop := fun σ H Q => ta σ H fun vs H1 => ∃ v, vs = [v] ∧ ∀ d, H1 d = none → Q (.ref C) (some d) (upd H1 d (.xd [(("told" : Str), v)]))
theorem pmk_er {a : Expr} {te : TA} {c : Str} {p pos : Pos} {k : Nat} (T : ErT X.prog X.K C fI) (hr : Room k X.A) (gC : X.mg c = some (.ref C)) (hsg : X.mg "super" = none) (hsb : bootBuiltins "super" = some (.type "super")) (htop : (X.prog.main.scope.names.lookup ("super" : Str)).isSome = false) (ha : PA X [a] te) (hg : Gl X c)
    (hdb : (c == ("__debug__" : Str)) = false := by decide) (he : starEach (a :: []) X.env = (false, eval a X.env) :: starEach [] X.env := by rfl) (hpl : (backTo pos (starEach [] X.env)).any (·.1) = false := by rfl) :
    PMk X (.Call (.Name c p) [a] [] pos) (tMk C te) := by
  intro pins s σ H Q I h
  refine wpAny_Call_Name_kw (ld_glob I hg gC ?_ hdb)
  refine PySem.W.callWith_K (h₀ := X.base) I.ok.mod.kin T.kC (thn (ha.run pos pins s σ H _ I h) fun us s1 hh => ?_) he hpl
  obtain ⟨vs, H1, I1, r1, v, ev, q1⟩ := hh
  subst ev
  refine ⟨I1.kIn, ?_⟩
  cases r1 with
  | cons rv rn =>
    rename_i v' us'
    cases rn
    show wpAny _ _ (call (.ref C) [v']) _ _ _
    have hlim := I1.nolimit
    obtain ⟨mb, hb1, hb2⟩ := I1.mod.blt
    have hG : s1.heap.Ns mainGlobals X.mg := I1.mod.glob.keeps I1.bk
    have hB : s1.heap.Ns builtinsNs mb := hb1.keeps I1.bk
    obtain ⟨hp, g, dr, tk, os⟩ := s1
    refine wpAny_call (er_made T I1.kIn hlim hG hB hsg ((hb2 _ (by decide)).trans hsb) htop (by have := hr.dp; omega) fun h' tk' e d M => ?_)
    show MkP X pins σ Q (.ref e) ⟨h', g, dr, tk', os⟩
    obtain ⟨oe, fv, hoe, hc, hd, hdat, h1⟩ := M.obj
    have hns := M.ns
    obtain ⟨G', g1, g2⟩ := restrict h' fun b => decide (b ≠ e)
    have gk : ∀ b, b ≠ e → G'.get? b = h'.get? b := fun b hb => g1 b (decide_eq_true hb)
    have ge : G'.get? e = none := g2 e (by simp)
    have old : ∀ b o, hp.get? b = some o → G'.get? b = some o := fun b o q => (gk b (Nat.ne_of_lt (Nat.lt_of_lt_of_le (Heap.lt_size q) M.new))).trans (M.keep b o q)
    have ob : ObjOk X.prog X.w (upd H1 d (.xd [(("told" : Str), v)])) G' d (.xd [(("told" : Str), v)]) :=
      ⟨_, hns.at (fun o q => (gk d M.dne).trans q), fun f => relO_told rv f⟩
    have J : Inv X pins σ (upd H1 d (.xd [(("told" : Str), v)])) ⟨G', g, dr, tk', os⟩ := I1.laid (t' := tk') old M.dbig ob
    refine ⟨e, oe, fv, ⟨G', g, dr, tk', os⟩, _, .ref C, some d, rfl, J, fun b o q => ?_, ge, hoe, ⟨hc, hd⟩, hdat, h1, ?_, rfl, I1.bare, raises_own T.exC T.tyC, q1 d (I1.hok.fresh M.dbig)⟩
    · by_cases hb : b = e
      · have q' : G'.get? b = some o := q
        rw [hb, ge] at q'; cases q'
      · exact (gk b hb).symm.trans q
    · rw [upd_ne (Ne.symm M.dne)]
      exact I1.hok.fresh M.new
theorem track_er {pins : List (Addr × Obj)} {σ : St} {H1 : Hp} {hp h' : Heap} {g : Array GenState} {dr : Drawn} {tk tk' : Nat} {os : OsState} {e d : Addr} {v : V} {v' : Value} (I1 : L2.Inv X pins σ H1 ⟨hp, g, dr, tk, os⟩) (rv : RelV v v') (M : ErMade hp h' e C d v') :
    H1 e = none ∧ H1 d = none ∧ L2.Inv X pins σ (upd (upd H1 d (.xd [(("told" : Str), v)])) e (ErO (.ref C) d e)) ⟨h', g, dr, tk', os⟩ := by
  obtain ⟨oe, fv, hoe, hc, hd, hdat, h1⟩ := M.obj
  have hns := M.ns
  obtain ⟨G', g1, g2⟩ := restrict h' fun b => decide (b ≠ e)
  have gk : ∀ b, b ≠ e → G'.get? b = h'.get? b := fun b hb => g1 b (decide_eq_true hb)
  have ge : G'.get? e = none := g2 e (by simp)
  have old : ∀ b o, hp.get? b = some o → G'.get? b = some o := fun b o q => (gk b (Nat.ne_of_lt (Nat.lt_of_lt_of_le (Heap.lt_size q) M.new))).trans (M.keep b o q)
  have ob : ObjOk X.prog X.w (upd H1 d (.xd [(("told" : Str), v)])) G' d (.xd [(("told" : Str), v)]) :=
    ⟨_, hns.at (fun o q => (gk d M.dne).trans q), fun f => relO_told rv f⟩
  have J : L2.Inv X pins σ (upd H1 d (.xd [(("told" : Str), v)])) ⟨G', g, dr, tk', os⟩ := I1.laid (t' := tk') old M.dbig ob
  refine ⟨I1.hok.fresh M.new, I1.hok.fresh M.dbig, J.laidN (t' := tk') (h' := h') (fun b o q => ?_) ge ?_ (erO_ok hoe hc hd hdat)⟩
  · by_cases hb : b = e
    · have q' : G'.get? b = some o := q
      rw [hb, ge] at q'; cases q'
    · exact (gk b hb).symm.trans q
  · rw [upd_ne (Ne.symm M.dne)]
    exact I1.hok.fresh M.new
theorem pe_er {a : Expr} {te : TE} {c : Str} {p pos : Pos} {k : Nat} (T : ErT X.prog X.K C fI) (hr : Room k X.A) (gC : X.mg c = some (.ref C)) (hsg : X.mg "super" = none) (hsb : bootBuiltins "super" = some (.type "super")) (htop : (X.prog.main.scope.names.lookup ("super" : Str)).isSome = false) (ha : PE X a te) (hg : Gl X c)
    (hdb : (c == ("__debug__" : Str)) = false := by decide) (he : starEach (a :: []) X.env = (false, eval a X.env) :: starEach [] X.env := by rfl) (hpl : (backTo pos (starEach [] X.env)).any (·.1) = false := by rfl) :
    PE X (.Call (.Name c p) [a] [] pos) (fun σ H Q => te σ H fun v H1 => ∀ e d, H1 e = none → H1 d = none → d ≠ e → Q (.ref e) (upd (upd H1 d (.xd [(("told" : Str), v)])) e (ErO (.ref C) d e))) := by
  refine ⟨fun pins s σ H Q I h => ?_⟩
  refine wpAny_Call_Name_kw (ld_glob I hg gC ?_ hdb)
  refine PySem.W.callWith_K (h₀ := X.base) I.ok.mod.kin T.kC ?_ he hpl
  rw [he]
  show wpAny _ _ (spliced ((false, eval a X.env) :: backTo pos (starEach [] X.env))) _ _ s
  refine Calls.spliced_cons (thn (ha.run pins s σ H _ I h) fun v' s1 ⟨v, H1, I1, rv, q1⟩ => ?_)
  refine Calls.spliced_nil ⟨I1.kIn, ?_⟩
  show wpAny _ _ (call (.ref C) [v']) _ _ _
  have hlim := I1.nolimit
  obtain ⟨mb, hb1, hb2⟩ := I1.mod.blt
  have hG : s1.heap.Ns mainGlobals X.mg := I1.mod.glob.keeps I1.bk
  have hB : s1.heap.Ns builtinsNs mb := hb1.keeps I1.bk
  obtain ⟨hp, g, dr, tk, os⟩ := s1
  refine wpAny_call (er_made T I1.kIn hlim hG hB hsg ((hb2 _ (by decide)).trans hsb) htop (by have := hr.dp; omega) fun h' tk' e d M => ?_)
  obtain ⟨n1, n2, J⟩ := track_er (tk' := tk') I1 rv M
  exact ⟨.ref e, _, J, rfl, q1 e d n1 n2 M.dne⟩
theorem pe_erK {a : Expr} {te : TE} {c : Str} {p pos kp : Pos} {k : Nat} (T : ErT X.prog X.K C fI) (hr : Room k X.A) (gC : X.mg c = some (.ref C)) (hsg : X.mg "super" = none) (hsb : bootBuiltins "super" = some (.type "super")) (htop : (X.prog.main.scope.names.lookup ("super" : Str)).isSome = false) (ha : PE X a te) (hg : Gl X c)
    (hdb : (c == ("__debug__" : Str)) = false := by decide) :
    PE X (.Call (.Name c p) [] [{ arg := some "told", value := a, pos := kp }] pos) (fun σ H Q => te σ H fun v H1 => ∀ e d, H1 e = none → H1 d = none → d ≠ e → Q (.ref e) (upd (upd H1 d (.xd [(("told" : Str), v)])) e (ErO (.ref C) d e))) := by
  refine ⟨fun pins s σ H Q I h => ?_⟩
  refine wpAny_Call_Name_kw (ld_glob I hg gC ?_ hdb)
  refine PySem.W.callWith_KW0 (h₀ := X.base) I.ok.mod.kin T.kC (by rfl) (thn ((pk_cons (kpos := kp) (nm := some "told") ha pk_nil).run pos pins s σ H (fun vs H1 => match vs with
    | [v] => ∀ e d, H1 e = none → H1 d = none → d ≠ e → Q (.ref e) (upd (upd H1 d (.xd [(("told" : Str), v)])) e (ErO (.ref C) d e))
    | _ => False) I h) fun ws s1 ⟨zs, H1, I1, rz, q1⟩ => ⟨I1.kIn, ?_⟩) (by rfl)
  cases rz with
  | nil => exact q1.elim
  | cons rv rn =>
    cases rn with
    | cons _ _ => exact q1.elim
    | nil =>
      show wpAny _ _ (call (.ref C) [] [(("told" : Str), _)]) _ _ _
      have hlim := I1.nolimit
      obtain ⟨mb, hb1, hb2⟩ := I1.mod.blt
      have hG : s1.heap.Ns mainGlobals X.mg := I1.mod.glob.keeps I1.bk
      have hB : s1.heap.Ns builtinsNs mb := hb1.keeps I1.bk
      obtain ⟨hp, g, dr, tk, os⟩ := s1
      refine wpAny_call (er_madeK T I1.kIn hlim hG hB hsg ((hb2 _ (by decide)).trans hsb) htop (by have := hr.dp; omega) fun h' tk' e d M => ?_)
      obtain ⟨n1, n2, J⟩ := track_er (tk' := tk') I1 rv M
      exact ⟨.ref e, _, J, rfl, q1 e d n1 n2 M.dne⟩
end
section text
def eoArgs (p1 p2 : Pos) : Arguments := { posonlyargs := [], args := [{ arg := "self", annotation := none, pos := p1 }, { arg := "most", annotation := none, pos := p2 }], vararg := none, kwonlyargs := [], kw_defaults := [], kwarg := none, defaults := [] }
def eoBody (a0 a1 a2 a3 a4 a5 b1 b2 b3 b4 : Pos) : List Stmt := [.Expr (.Call (.Attribute (.Call (.Name "super" a0) [] [] a1) "__init__" a2) [.Name "most" a3] [] a4) a5, .Assign [.Attribute (.Name "self" b1) "most" b2] (.Name "most" b3) b4]
def eoScope : Scope := { kind := .function, names := [(PySem.Str.ofString "self", .local), (PySem.Str.ofString "most", .local), (PySem.Str.ofString "__class__", .free), (PySem.Str.ofString "super", .globalImplicit)], isGenerator := false, isCoroutine := false, more := [] }
end text
/-- what the written part says of the class at C and of its __init__ at fI -/
structure EoT (prog : Program) (K : PySem.W.Frag) (C fI : Addr) : Prop where
  cls : ∃ nm q N bs bm sn sub ab col dd k0 k1 k2 k3 k5, K.lookup C = some (excClassObj nm q C N bs bm true sn sub ab col dd k0 k1 k2 k3 k5 "OverflowError.__new__") ∧ HandSPX.refsOE bm = true
  sa : PySem.W.findIn K (.ref C) "__setattr__" = some (some (.builtin "object.__setattr__"))
  ga : PySem.W.findIn K (.ref C) "__getattribute__" = some (some (.builtin "BaseException.__getattribute__"))
  gg : PySem.W.findIn K (.ref C) "__getattr__" = some none
  noN : PySem.W.findIn K (.ref C) "most" = some none
  iC : PySem.W.findIn K (.ref C) "__init__" = some (some (.ref fI))
  tC : PySem.W.typeIn K (.ref fI) = some (.type "function")
  kC : PySem.W.keepIn K (.ref C) = true
  exC : PySem.W.subIn K (.ref C) (.type "BaseException") = some true
  tyC : PySem.W.typeIn K (.ref C) = some (.type "type")
  hdC : PySem.W.hasDictIn K C = true
  sup : PySem.W.ks_superIn K C C "__init__" = some (some (.builtin "OverflowError.__init__"))
  subB : PySem.W.subIn K (.ref C) (.type "OverflowError") = some true
  mroC : PySem.W.mroIn K C (.ref C) = some true
  opq : PySem.W.nsIn K cStatics "thirdparty.any" = some none
  fn : ∃ (oc : Value) (od : Option Addr) (kV doc pm : Value) (an : Option Addr) (cda : Addr) (ct : Value) (osl : Array (Option Value)) (cc : Addr) (qual : Str) (p1 p2 a0 a1 a2 a3 a4 a5 b1 b2 b3 b4 : Pos) (ccl : Value) (cdd : Option Addr) (vs : Array Value) (ccs : Array (Option Value)) (file : Str) (tf : Tok) (cl : Value) (cld : Option Addr) (csl : Array (Option Value)),
    K.lookup fI = some ⟨oc, od, .func (PySem.W.ksFn "__init__" qual (eoArgs p1 p2) (eoBody a0 a1 a2 a3 a4 a5 b1 b2 b3 b4) eoScope .none kV doc pm an (.ref cda) ct cc), osl⟩ ∧ PySem.W.codeIn K (.ref cda) qual = true ∧
    K.lookup cda = some ⟨ccl, cdd, .fields vs, ccs⟩ ∧ vs[2]? = some (.str file tf) ∧ ((prog.main.file : Str) == file) = true ∧ (a2.endLine == a4.line) = true ∧ K.lookup cc = some ⟨cl, cld, .cell (some (.ref C)), csl⟩
structure EoEnd (h h' : Heap) (x C dx : Addr) (v : Value) : Prop where
  keep : ∀ b o, b ≠ x → h.get? b = some o → h'.get? b = some o
  obj : ∃ t1 : Addr, h'.get? x = some { cls := .ref C, dict := some dx, data := .fields #[.ref t1, .none, .none, .none, .bool false, .none] }
  dbig : h.objs.size ≤ dx
  dne : dx ≠ x
  ns : h'.Ns1 dx (fun y => if y = "most" then some v else none)
structure EoMade (h h' : Heap) (e C d : Addr) (v : Value) : Prop where
  keep : ∀ b o, h.get? b = some o → h'.get? b = some o
  new : h.objs.size ≤ e
  obj : ∃ oe vs, h'.get? e = some oe ∧ oe.cls = .ref C ∧ oe.dict = some d ∧ oe.data = .fields vs ∧ vs[1]? = some .none
  dbig : h.objs.size ≤ d
  dne : d ≠ e
  ns : h'.Ns1 d (fun y => if y = "most" then some v else none)
section
open PySem.W PySem.Calls PyProof.Rows PySem.HandSPX
variable {prog : Program} {w : World} {A : Around} {E : Value → Shared → Prop} {R : Result → Shared → Prop} {s : Shared} {K : Frag} {mg mb : Str → Option Value} {C fI : Addr}
theorem one_szo (v : Value) : [v].length ≤ sizeLine := by
  rw [sizeLine_eq]
  exact (by decide : 1 ≤ 16777216)
theorem ld_kso {M : Model} {name : Str} {scope : Scope} {L a cc : Addr} {cd : Value} {m : Str → Option Value} {x : Str} {pos : Pos} {v : Value} {Q : Value → Shared → Prop} (hn : s.heap.Ns L m) (hv : m x = some v) (h : Q v s)
    (hk : scope.kind = .function := by rfl) (hl : (ksEnv name scope L a cd cc).kindOf x = some .local := by rfl) (hd : (x == ("__debug__" : Str)) = false := by decide) :
    wpAny M A (eval (.Name x pos) (ksEnv name scope L a cd cc)) Q E s := wpAny_Name (wpAny_loadName_local hk hl hn hv h) hd
/-- super().__init__(v) of a bound OverflowError.__init__ -/
theorem call_mwo {h : Heap} {g : Array GenState} {d : Drawn} {t : Nat} {os : OsState} {u e t0 : Addr} {rest : List Value} {Q : Value → Shared → Prop} {nm q : Str} {N : Addr} {bs bm : List Value} {hdct : Bool} {sn : List Str} {sub : List Value} {ab : Bool} {col : Option Bool} {dd : Option Addr} {k0 k1 k2 k3 k5 : Option Value}
    (hC : h.get? C = some (excClassObj nm q C N bs bm hdct sn sub ab col dd k0 k1 k2 k3 k5 "OverflowError.__new__")) (he : h.get? e = some (excO C t0)) (hu : h.get? u = some (kxs_mw "OverflowError.__init__" e)) (hrest : rest.length ≤ sizeLine)
    (hq : ∀ h' t1, (∀ b o, b ≠ e → h.get? b = some o → h'.get? b = some o) → h'.get? e = some (excO C t1) → Q .none ⟨h', g, d, t, os⟩) :
    wpAny (model prog w) A (call (.ref u) rest) Q E ⟨h, g, d, t, os⟩ := by
  refine wpAny_call (codeAny_of_tree ?_)
  show wpAny _ A.in1 (callAny (.ref u) ⟨rest, []⟩) _ _ _
  simp only [callAny]
  refine wpAny_bind (wpAny_load hu ?_)
  simp only [kxs_mw, show (Value.type "method-wrapper" == Value.type "method" || Value.type "method-wrapper" == Value.type "builtin_function_or_method" || Value.type "method-wrapper" == Value.type "method-wrapper") = true by decide, if_true]
  refine W.KFB.if_so (by decide) ?_
  refine wpAny_bind (check_bound_init F.excBase_OverflowError.toExcCallFacts hC he rfl ?_)
  refine wpAny_bind (wpAny_pure (wpAny_pure ?_))
  refine ⟨plainId_quiet F.excBase_OverflowError.init.plain _, codeAny_builtin F.excBase_OverflowError.initEntry ?_⟩
  exact exc_init_tree (cls := .ref C) (t0 := t0) (dv := none) (c2 := .none) (c3 := .none) (b4 := .bool false) he hrest fun h' k e' t' => hq h' _ k e'
theorem mc_eqo {qual : Str} {L f cc : Addr} {cd : Value} {a0 a1 a2 a3 a4 : Pos} (hpos : (a2.endLine == a4.line) = true) : eval (.Call (.Attribute (.Call (.Name "super" a0) [] [] a1) "__init__" a2) [.Name "most" a3] [] a4) (ksEnv qual eoScope L f cd cc) = (do
      let ov ← attributeBase (.Call (.Name "super" a0) [] [] a1) "__init__" (ksEnv qual eoScope L f cd cc) (eval (.Call (.Name "super" a0) [] [] a1) (ksEnv qual eoScope L f cd cc))
      standAt a2.atName
      let (fn, first) ← holding [ov] (getMethod ov "__init__" (do return (← importBound (.Call (.Name "super" a0) [] [] a1) (ksEnv qual eoScope L f cd cc)).getD true))
      callWith a4 fn first (backTo a4 (starEach [.Name "most" a3] (ksEnv qual eoScope L f cd cc))) []) := by
  show (attributeBase (.Call (.Name "super" a0) [] [] a1) "__init__" (ksEnv qual eoScope L f cd cc) (eval (.Call (.Name "super" a0) [] [] a1) (ksEnv qual eoScope L f cd cc)) >>= fun ov => standAt a2.atName >>= fun _ => methodCall (.Call (.Name "super" a0) [] [] a1) "__init__" a2 a4 (ksEnv qual eoScope L f cd cc) ov 1 (backTo a4 (starEach [.Name "most" a3] (ksEnv qual eoScope L f cd cc))) []) = _
  congr 1
  funext ov
  congr 1
  funext _
  unfold methodCall methodCallPos
  rw [hpos]
  rfl
theorem eo_init (T : EoT prog K C fI) {x t0 : Addr} {v : Value} (X : K.In s.heap) (hlim : s.heap.NoLimit) (hG : s.heap.Ns mainGlobals mg) (hB : s.heap.Ns builtinsNs mb) (hsg : mg "super" = none) (hsb : mb "super" = some (.type "super")) (htop : (prog.main.scope.names.lookup ("super" : Str)).isSome = false)
    (hx : s.heap.get? x = some (excO C t0)) (hnx : K.lookup x = none) (hxG : x ≠ mainGlobals) (hxB : x ≠ builtinsNs) (hroom : A.depth < recursionLimit) {args : Args} (hargs : args = ⟨[.ref x, v], []⟩ ∨ args = ⟨[.ref x], [("most", v)]⟩)
    (hq : ∀ h' tk dx, EoEnd s.heap h' x C dx v → R (.ok (.ret .none)) { s with heap := h', toks := tk }) :
    codeAny (model prog w) A (.call (.ref fI) args) R s := by
  obtain ⟨oc, od, kV, doc, pm, an, cda, ct, osl, cc, qual, p1, p2, a0, a1, a2, a3, a4, a5, b1, b2, b3, b4, ccl, cdd, vs, ccs, file, tf, cl, cld, csl, ho, hcd, hcode, hvs, hfile, hpos, hcell⟩ := T.fn
  obtain ⟨nm, q, N, bs, bm, sn, sub, ab, col, dd, k0, k1, k2, k3, k5, hC, hbm⟩ := T.cls
  have hcl : clsIn K C = some { name := nm, bases := bs, mro := .ref C :: bm, ns := N, qualname := q, hasDict := true, slotNames := sn, subclasses := sub, abstract := ab, collection := col, hasDel := false } := by unfold clsIn; rw [hC] <;> rfl
  obtain ⟨hp, g, dr, tk, os⟩ := s
  refine ks_codeAny_call_defAt (fd := ksFn "__init__" qual (eoArgs p1 p2) (eoBody a0 a1 a2 a3 a4 a5 b1 b2 b3 b4) eoScope .none kV doc pm an (.ref cda) ct cc) (body := eoBody a0 a1 a2 a3 a4 a5 b1 b2 b3 b4) (binds := [("self", .ref x), ("most", v)]) hroom (X _ _ ho) rfl hlim (codeRec_of X hcd) rfl (by rcases hargs with rfl | rfl <;> exact BindsTo.of_eq (by first | rfl | with_unfolding_all rfl)) (show ∀ x ∈ eoScope.names, x.2 ≠ .cell by decide) (locs rfl) (fun h₁ hns hk => ?_)
  show _root_.PySem.wpAt _ (A.deeper (ksEnv qual eoScope hp.objs.size fI (.ref cda) cc)) (.func _ (ksEnv qual eoScope hp.objs.size fI (.ref cda) cc)) (execs _ (ksEnv qual eoScope hp.objs.size fI (.ref cda) cc)) _ _ _
  have X₁ : K.In h₁ := X.keeps hk
  have hx₁ : h₁.get? x = some (excO C t0) := hk _ _ hx
  have hD1 := X₁ _ _ hC
  refine ks_wpAt_execs_cons (ks_wpAt_Expr_any ?_ rfl rfl)
  refine ks_wpAt_MethodCall ?_ (mc_eqo hpos)
  refine ks_wpAt_super_base (env := ksEnv qual eoScope hp.objs.size fI (.ref cda) cc) rfl rfl (by decide) rfl (X₁ _ _ ho) rfl rfl rfl (X₁ _ _ hcode) rfl hvs hfile htop ?_
  refine ks_loadName_global rfl rfl (loadGlobal_builtin (env := ksEnv qual eoScope hp.objs.size fI (.ref cda) cc) (hG.keeps hk) hsg (hB.keeps hk) hsb ⟨rfl, ?_⟩)
  refine wpAny_loadName_free rfl rfl rfl ⟨_, X₁ _ _ hcell, rfl⟩ ?_
  refine wpAny_loadName_local (v := .ref x) rfl rfl hns (by first | rfl | kernel_rfl) ?_
  refine ks_wpAny_isType_cls hD1 rfl ⟨rfl, ?_⟩
  refine ks_wpAny_call_super hD1 rfl hx₁ rfl (fun c e => by cases e) (looks_mroIn X₁ T.mroC) (fun h₂ e₂ k₂ => ?_)
  have X₂ : K.In h₂ := X₁.keeps k₂
  have hx₂ : h₂.get? x = some (excO C t0) := k₂ _ _ hx₁
  have I₂ : InstAt h₂ x (excO C t0) C none := ⟨hx₂, rfl, rfl, trivial⟩
  have hm := T.sup
  unfold ks_superIn at hm
  rw [hcl] at hm
  refine kxs_getMethod kxs_OverflowError e₂ (looks_opaque X₂ T.opq) (l₀ := .ref C :: bm) ?_ rfl X₂ hm (I₂.type.andThen (looks_subIn X₂ T.subB)) (ks_ne X₂ I₂ hcl) (by decide) ?_
  · exact fun A Q E s k q => wpAny_bind ((looks_clsIn X₂ hcl) A _ E s k (wpAny_pure q))
  have k₃ : ∀ b o, h₂.get? b = some o → (h₂.push (kxs_mw "OverflowError.__init__" x)).get? b = some o := fun b o e => Heap.get?_push_of_some _ e
  refine kxs_callWith (i := "OverflowError.__init__") (x := x) rfl ?_
  refine evalArgs_plain (spliced_cons ?_)
  refine ld_kso (v := v) ((hns.keeps k₂).keeps k₃) (by first | rfl | kernel_rfl) ?_
  refine spliced_nil ⟨Heap.get?_push_at rfl rfl, ?_⟩
  refine call_mwo (k₃ _ _ (k₂ _ _ hD1)) (k₃ _ _ hx₂) (Heap.get?_push_at rfl rfl) (one_szo v) fun h₄ t1 k₄ hx₄ => ?_
  have k5 : ∀ b o, b ≠ x → h₁.get? b = some o → h₄.get? b = some o := fun b o hb e => k₄ b o hb (k₃ _ _ (k₂ _ _ e))
  have X₄ : K.In h₄ := fun a o e => k5 a o (fun z => by rw [z, hnx] at e; cases e) (X₁ _ _ e)
  have hxL : hp.objs.size ≠ x := Nat.ne_of_gt (Heap.lt_size hx)
  have hns₄ : h₄.Ns hp.objs.size (fun y => ([("self", .ref x), ("most", v)] : List (Str × Value)).reverse.lookup y) := by
    obtain ⟨oL, es, ep, hL, r⟩ := hns
    exact ⟨oL, es, ep, k5 _ _ hxL hL, r⟩
  refine _root_.PySem.wpAt_of_wpAny ?_
  refine wpAny_execs_cons (plainObj_wpAny_Assign_Attribute ?_)
  refine ld_kso (v := v) hns₄ (by first | rfl | kernel_rfl) (ld_kso (v := .ref x) hns₄ (by first | rfl | kernel_rfl) ?_)
  refine set_plain X₄ (ox := excO C t1) (od := none) ⟨hx₄, rfl, rfl, trivial⟩ T.sa ?_
  refine exc_osaO X₄ hx₄ hcl (show refsOE (.ref C :: bm) = true from hbm) rfl T.noN (fun h₅ tk₅ dx k₅ dn dne hx₅ hn₅ => ?_)
  have z0 : hp.objs.size ≤ h₄.objs.size := Nat.le_of_lt hns₄.lt
  exact wpAny_execs_nil (hq h₅ tk₅ dx ⟨fun b o hb e => k₅ b o hb (k5 b o hb (hk b o e)), ⟨t1, hx₅⟩, Nat.le_trans z0 dn, dne, hn₅⟩)
theorem eo_made (T : EoT prog K C fI) {v : Value} (X : K.In s.heap) (hlim : s.heap.NoLimit) (hG : s.heap.Ns mainGlobals mg) (hB : s.heap.Ns builtinsNs mb) (hsg : mg "super" = none) (hsb : mb "super" = some (.type "super")) (htop : (prog.main.scope.names.lookup ("super" : Str)).isSome = false) (hroom : A.depth + 1 < recursionLimit)
    (hq : ∀ h' tk e d, EoMade s.heap h' e C d v → R (.ok (.ret (.ref e))) { s with heap := h', toks := tk }) :
    codeAny (model prog w) A (.call (.ref C) ⟨[v], []⟩) R s := by
  obtain ⟨nm, q, N, bs, bm, sn, sub, ab, col, dd, k0, k1, k2, k3, k5, hC, hbm⟩ := T.cls
  obtain ⟨hp, g, dr, tk, os⟩ := s
  have k : ∀ b o, hp.get? b = some o → ((hp.push (kdv_tup [v])).push (excO C hp.objs.size)).get? b = some o := fun b o e => Heap.get?_push_of_some _ (Heap.get?_push_of_some _ e)
  have hget : ((hp.push (kdv_tup [v])).push (excO C hp.objs.size)).get? (hp.objs.size + 1) = some (excO C hp.objs.size) := by heap_get
  have fresh : ∀ o, hp.get? (hp.objs.size + 1) ≠ some o := fun o z => absurd (Nat.lt_of_succ_lt (Heap.lt_size z)) (Nat.lt_irrefl _)
  have hnx : K.lookup (hp.objs.size + 1) = none := by
    cases e : K.lookup (hp.objs.size + 1) with
    | none => rfl
    | some o => exact absurd (X _ _ e) (fresh o)
  refine call_own F.excBase_OverflowError (fun X => refsOE_contains X bm hbm) (X _ _ hC) (looks_findIn X T.iC) (fun self => bind_fn X self T.tC) (one_szo v) ?_
  refine eo_init (s := ⟨(hp.push (kdv_tup [v])).push (excO C hp.objs.size), g, dr, tk, os⟩) T (X.keeps k) (hlim.keeps k) (hG.keeps k) (hB.keeps k) hsg hsb htop hget hnx ?_ ?_ ?_ (.inl rfl) fun h' tk' dx ⟨k', ⟨t1, hx⟩, dn, dne, hns⟩ => ?_
  · intro z
    have y := hG.lt
    rw [← z] at y
    exact absurd (Nat.lt_of_succ_lt y) (Nat.lt_irrefl _)
  · intro z
    have y := hB.lt
    rw [← z] at y
    exact absurd (Nat.lt_of_succ_lt y) (Nat.lt_irrefl _)
  · show A.depth + 1 < recursionLimit
    exact hroom
  · have old : ∀ b o, hp.get? b = some o → h'.get? b = some o := fun b o e => k' b o (Nat.ne_of_lt (Nat.lt_succ_of_lt (Heap.lt_size e))) (k b o e)
    have z : hp.objs.size + 1 + 1 ≤ dx := by
      first
        | (simpa only [Heap.size_push] using dn)
        | exact dn
        | (have q := dn; rw [Heap.size_push, Heap.size_push] at q; exact q)
    exact ⟨rfl, hq h' tk' (hp.objs.size + 1) dx ⟨old, Nat.le_succ _, ⟨_, _, hx, rfl, rfl, rfl, rfl⟩, Nat.le_trans (Nat.le_trans (Nat.le_succ _) (Nat.le_succ _)) z, dne, hns⟩⟩
theorem eo_madeK (T : EoT prog K C fI) {v : Value} (X : K.In s.heap) (hlim : s.heap.NoLimit) (hG : s.heap.Ns mainGlobals mg) (hB : s.heap.Ns builtinsNs mb) (hsg : mg "super" = none) (hsb : mb "super" = some (.type "super")) (htop : (prog.main.scope.names.lookup ("super" : Str)).isSome = false) (hroom : A.depth + 1 < recursionLimit)
    (hq : ∀ h' tk e d, EoMade s.heap h' e C d v → R (.ok (.ret (.ref e))) { s with heap := h', toks := tk }) :
    codeAny (model prog w) A (.call (.ref C) ⟨[], [("most", v)]⟩) R s := by
  obtain ⟨nm, q, N, bs, bm, sn, sub, ab, col, dd, k0, k1, k2, k3, k5, hC, hbm⟩ := T.cls
  obtain ⟨hp, g, dr, tk, os⟩ := s
  have k : ∀ b o, hp.get? b = some o → ((hp.push (kdv_tup [])).push (excO C hp.objs.size)).get? b = some o := fun b o e => Heap.get?_push_of_some _ (Heap.get?_push_of_some _ e)
  have hget : ((hp.push (kdv_tup [])).push (excO C hp.objs.size)).get? (hp.objs.size + 1) = some (excO C hp.objs.size) := by heap_get
  have fresh : ∀ o, hp.get? (hp.objs.size + 1) ≠ some o := fun o z => absurd (Nat.lt_of_succ_lt (Heap.lt_size z)) (Nat.lt_irrefl _)
  have hnx : K.lookup (hp.objs.size + 1) = none := by
    cases e : K.lookup (hp.objs.size + 1) with
    | none => rfl
    | some o => exact absurd (X _ _ e) (fresh o)
  refine call_kw F.excBase_OverflowError (fun X => refsOE_contains X bm hbm) (X _ _ hC) (looks_findIn X T.iC) (fun self => bind_fn X self T.tC) ?_
  refine eo_init (s := ⟨(hp.push (kdv_tup [])).push (excO C hp.objs.size), g, dr, tk, os⟩) T (X.keeps k) (hlim.keeps k) (hG.keeps k) (hB.keeps k) hsg hsb htop hget hnx ?_ ?_ ?_ (.inr rfl) fun h' tk' dx ⟨k', ⟨t1, hx⟩, dn, dne, hns⟩ => ?_
  · intro z
    have y := hG.lt
    rw [← z] at y
    exact absurd (Nat.lt_of_succ_lt y) (Nat.lt_irrefl _)
  · intro z
    have y := hB.lt
    rw [← z] at y
    exact absurd (Nat.lt_of_succ_lt y) (Nat.lt_irrefl _)
  · show A.depth + 1 < recursionLimit
    exact hroom
  · have old : ∀ b o, hp.get? b = some o → h'.get? b = some o := fun b o e => k' b o (Nat.ne_of_lt (Nat.lt_succ_of_lt (Heap.lt_size e))) (k b o e)
    have z : hp.objs.size + 1 + 1 ≤ dx := by
      first
        | (simpa only [Heap.size_push] using dn)
        | exact dn
        | (have q := dn; rw [Heap.size_push, Heap.size_push] at q; exact q)
    exact ⟨rfl, hq h' tk' (hp.objs.size + 1) dx ⟨old, Nat.le_succ _, ⟨_, _, hx, rfl, rfl, rfl, rfl⟩, Nat.le_trans (Nat.le_trans (Nat.le_succ _) (Nat.le_succ _)) z, dne, hns⟩⟩
end
section
variable {X : Cx} {C fI : Addr}
theorem relO_most {v : V} {v' : Value} (r : RelV v v') (f : Str) : RelO (List.lookup f [(("most" : Str), v)]) (if f = "most" then some v' else none) := by
  by_cases hw : f = "most"
  · subst hw
    rw [if_pos rfl]
    have q : List.lookup ("most" : Str) [(("most" : Str), v)] = some v := by simp [List.lookup]
    rw [q]
    exact r
  · rw [if_neg hw]
    have qw : (f == ("most" : Str)) = false := by simpa using hw
    have q2 : List.lookup f [(("most" : Str), v)] = none := by simp [List.lookup, qw]
    rw [q2]
    trivial
/-- C(e) -/
def tMko (C : Addr) (ta : TA) : St → Hp → XK → Prop := fun σ H Q => ta σ H fun vs H1 => ∃ v, vs = [v] ∧ ∀ d, H1 d = none → Q (.ref C) (some d) (upd H1 d (.xd [(("most" : Str), v)]))
theorem pmk_eo {a : Expr} {te : TA} {c : Str} {p pos : Pos} {k : Nat} (T : EoT X.prog X.K C fI) (hr : Room k X.A) (gC : X.mg c = some (.ref C)) (hsg : X.mg "super" = none) (hsb : bootBuiltins "super" = some (.type "super")) (htop : (X.prog.main.scope.names.lookup ("super" : Str)).isSome = false) (ha : PA X [a] te) (hg : Gl X c)
    (hdb : (c == ("__debug__" : Str)) = false := by decide) (he : starEach (a :: []) X.env = (false, eval a X.env) :: starEach [] X.env := by rfl) (hpl : (backTo pos (starEach [] X.env)).any (·.1) = false := by rfl) :
    PMk X (.Call (.Name c p) [a] [] pos) (tMko C te) := by
  intro pins s σ H Q I h
  refine wpAny_Call_Name_kw (ld_glob I hg gC ?_ hdb)
  refine PySem.W.callWith_K (h₀ := X.base) I.ok.mod.kin T.kC (thn (ha.run pos pins s σ H _ I h) fun us s1 hh => ?_) he hpl
  obtain ⟨vs, H1, I1, r1, v, ev, q1⟩ := hh
  subst ev
  refine ⟨I1.kIn, ?_⟩
  cases r1 with
  | cons rv rn =>
    rename_i v' us'
    cases rn
    show wpAny _ _ (call (.ref C) [v']) _ _ _
    have hlim := I1.nolimit
    obtain ⟨mb, hb1, hb2⟩ := I1.mod.blt
    have hG : s1.heap.Ns mainGlobals X.mg := I1.mod.glob.keeps I1.bk
    have hB : s1.heap.Ns builtinsNs mb := hb1.keeps I1.bk
    obtain ⟨hp, g, dr, tk, os⟩ := s1
    refine wpAny_call (eo_made T I1.kIn hlim hG hB hsg ((hb2 _ (by decide)).trans hsb) htop (by have := hr.dp; omega) fun h' tk' e d M => ?_)
    show MkP X pins σ Q (.ref e) ⟨h', g, dr, tk', os⟩
    obtain ⟨oe, fv, hoe, hc, hd, hdat, h1⟩ := M.obj
    have hns := M.ns
    obtain ⟨G', g1, g2⟩ := restrict h' fun b => decide (b ≠ e)
    have gk : ∀ b, b ≠ e → G'.get? b = h'.get? b := fun b hb => g1 b (decide_eq_true hb)
    have ge : G'.get? e = none := g2 e (by simp)
    have old : ∀ b o, hp.get? b = some o → G'.get? b = some o := fun b o q => (gk b (Nat.ne_of_lt (Nat.lt_of_lt_of_le (Heap.lt_size q) M.new))).trans (M.keep b o q)
    have ob : ObjOk X.prog X.w (upd H1 d (.xd [(("most" : Str), v)])) G' d (.xd [(("most" : Str), v)]) :=
      ⟨_, hns.at (fun o q => (gk d M.dne).trans q), fun f => relO_most rv f⟩
    have J : Inv X pins σ (upd H1 d (.xd [(("most" : Str), v)])) ⟨G', g, dr, tk', os⟩ := I1.laid (t' := tk') old M.dbig ob
    refine ⟨e, oe, fv, ⟨G', g, dr, tk', os⟩, _, .ref C, some d, rfl, J, fun b o q => ?_, ge, hoe, ⟨hc, hd⟩, hdat, h1, ?_, rfl, I1.bare, raises_own T.exC T.tyC, q1 d (I1.hok.fresh M.dbig)⟩
    · by_cases hb : b = e
      · have q' : G'.get? b = some o := q
        rw [hb, ge] at q'; cases q'
      · exact (gk b hb).symm.trans q
    · rw [upd_ne (Ne.symm M.dne)]
      exact I1.hok.fresh M.new
theorem track_eo {pins : List (Addr × Obj)} {σ : St} {H1 : Hp} {hp h' : Heap} {g : Array GenState} {dr : Drawn} {tk tk' : Nat} {os : OsState} {e d : Addr} {v : V} {v' : Value} (I1 : L2.Inv X pins σ H1 ⟨hp, g, dr, tk, os⟩) (rv : RelV v v') (M : EoMade hp h' e C d v') :
    H1 e = none ∧ H1 d = none ∧ L2.Inv X pins σ (upd (upd H1 d (.xd [(("most" : Str), v)])) e (ErO (.ref C) d e)) ⟨h', g, dr, tk', os⟩ := by
  obtain ⟨oe, fv, hoe, hc, hd, hdat, h1⟩ := M.obj
  have hns := M.ns
  obtain ⟨G', g1, g2⟩ := restrict h' fun b => decide (b ≠ e)
  have gk : ∀ b, b ≠ e → G'.get? b = h'.get? b := fun b hb => g1 b (decide_eq_true hb)
  have ge : G'.get? e = none := g2 e (by simp)
  have old : ∀ b o, hp.get? b = some o → G'.get? b = some o := fun b o q => (gk b (Nat.ne_of_lt (Nat.lt_of_lt_of_le (Heap.lt_size q) M.new))).trans (M.keep b o q)
  have ob : ObjOk X.prog X.w (upd H1 d (.xd [(("most" : Str), v)])) G' d (.xd [(("most" : Str), v)]) :=
    ⟨_, hns.at (fun o q => (gk d M.dne).trans q), fun f => relO_most rv f⟩
  have J : L2.Inv X pins σ (upd H1 d (.xd [(("most" : Str), v)])) ⟨G', g, dr, tk', os⟩ := I1.laid (t' := tk') old M.dbig ob
  refine ⟨I1.hok.fresh M.new, I1.hok.fresh M.dbig, J.laidN (t' := tk') (h' := h') (fun b o q => ?_) ge ?_ (erO_ok hoe hc hd hdat)⟩
  · by_cases hb : b = e
    · have q' : G'.get? b = some o := q
      rw [hb, ge] at q'; cases q'
    · exact (gk b hb).symm.trans q
  · rw [upd_ne (Ne.symm M.dne)]
    exact I1.hok.fresh M.new
theorem pe_eo {a : Expr} {te : TE} {c : Str} {p pos : Pos} {k : Nat} (T : EoT X.prog X.K C fI) (hr : Room k X.A) (gC : X.mg c = some (.ref C)) (hsg : X.mg "super" = none) (hsb : bootBuiltins "super" = some (.type "super")) (htop : (X.prog.main.scope.names.lookup ("super" : Str)).isSome = false) (ha : PE X a te) (hg : Gl X c)
    (hdb : (c == ("__debug__" : Str)) = false := by decide) (he : starEach (a :: []) X.env = (false, eval a X.env) :: starEach [] X.env := by rfl) (hpl : (backTo pos (starEach [] X.env)).any (·.1) = false := by rfl) :
    PE X (.Call (.Name c p) [a] [] pos) (fun σ H Q => te σ H fun v H1 => ∀ e d, H1 e = none → H1 d = none → d ≠ e → Q (.ref e) (upd (upd H1 d (.xd [(("most" : Str), v)])) e (ErO (.ref C) d e))) := by
  refine ⟨fun pins s σ H Q I h => ?_⟩
  refine wpAny_Call_Name_kw (ld_glob I hg gC ?_ hdb)
  refine PySem.W.callWith_K (h₀ := X.base) I.ok.mod.kin T.kC ?_ he hpl
  rw [he]
  show wpAny _ _ (spliced ((false, eval a X.env) :: backTo pos (starEach [] X.env))) _ _ s
  refine Calls.spliced_cons (thn (ha.run pins s σ H _ I h) fun v' s1 ⟨v, H1, I1, rv, q1⟩ => ?_)
  refine Calls.spliced_nil ⟨I1.kIn, ?_⟩
  show wpAny _ _ (call (.ref C) [v']) _ _ _
  have hlim := I1.nolimit
  obtain ⟨mb, hb1, hb2⟩ := I1.mod.blt
  have hG : s1.heap.Ns mainGlobals X.mg := I1.mod.glob.keeps I1.bk
  have hB : s1.heap.Ns builtinsNs mb := hb1.keeps I1.bk
  obtain ⟨hp, g, dr, tk, os⟩ := s1
  refine wpAny_call (eo_made T I1.kIn hlim hG hB hsg ((hb2 _ (by decide)).trans hsb) htop (by have := hr.dp; omega) fun h' tk' e d M => ?_)
  obtain ⟨n1, n2, J⟩ := track_eo (tk' := tk') I1 rv M
  exact ⟨.ref e, _, J, rfl, q1 e d n1 n2 M.dne⟩
theorem pe_eoK {a : Expr} {te : TE} {c : Str} {p pos kp : Pos} {k : Nat} (T : EoT X.prog X.K C fI) (hr : Room k X.A) (gC : X.mg c = some (.ref C)) (hsg : X.mg "super" = none) (hsb : bootBuiltins "super" = some (.type "super")) (htop : (X.prog.main.scope.names.lookup ("super" : Str)).isSome = false) (ha : PE X a te) (hg : Gl X c)
    (hdb : (c == ("__debug__" : Str)) = false := by decide) :
    PE X (.Call (.Name c p) [] [{ arg := some "most", value := a, pos := kp }] pos) (fun σ H Q => te σ H fun v H1 => ∀ e d, H1 e = none → H1 d = none → d ≠ e → Q (.ref e) (upd (upd H1 d (.xd [(("most" : Str), v)])) e (ErO (.ref C) d e))) := by
  refine ⟨fun pins s σ H Q I h => ?_⟩
  refine wpAny_Call_Name_kw (ld_glob I hg gC ?_ hdb)
  refine PySem.W.callWith_KW0 (h₀ := X.base) I.ok.mod.kin T.kC (by rfl) (thn ((pk_cons (kpos := kp) (nm := some "most") ha pk_nil).run pos pins s σ H (fun vs H1 => match vs with
    | [v] => ∀ e d, H1 e = none → H1 d = none → d ≠ e → Q (.ref e) (upd (upd H1 d (.xd [(("most" : Str), v)])) e (ErO (.ref C) d e))
    | _ => False) I h) fun ws s1 ⟨zs, H1, I1, rz, q1⟩ => ⟨I1.kIn, ?_⟩) (by rfl)
  cases rz with
  | nil => exact q1.elim
  | cons rv rn =>
    cases rn with
    | cons _ _ => exact q1.elim
    | nil =>
      show wpAny _ _ (call (.ref C) [] [(("most" : Str), _)]) _ _ _
      have hlim := I1.nolimit
      obtain ⟨mb, hb1, hb2⟩ := I1.mod.blt
      have hG : s1.heap.Ns mainGlobals X.mg := I1.mod.glob.keeps I1.bk
      have hB : s1.heap.Ns builtinsNs mb := hb1.keeps I1.bk
      obtain ⟨hp, g, dr, tk, os⟩ := s1
      refine wpAny_call (eo_madeK T I1.kIn hlim hG hB hsg ((hb2 _ (by decide)).trans hsb) htop (by have := hr.dp; omega) fun h' tk' e d M => ?_)
      obtain ⟨n1, n2, J⟩ := track_eo (tk' := tk') I1 rv M
      exact ⟨.ref e, _, J, rfl, q1 e d n1 n2 M.dne⟩
end
end Mini

set_option Elab.async false
set_option linter.all false
set_option maxRecDepth 100000
set_option maxHeartbeats 2000000
/-! MiW: errors held as values: their field, isinstance. -/
namespace PySem.W
open PySem PySem.Spec PySem.Calls PyProof.Rows
section
variable {prog : Program} {w : World} {A : Around} {E : Value → Shared → Prop} {s : Shared} {K : Frag} {x D : Addr} {ox : Obj} {od : Option Obj}
theorem mi_found {C : Addr} {name : Str} {a g : Value} (hc : (clsIn K C).isSome = true) (ha : findIn K (.ref C) name = some (some a)) (hg : specialIn K a "__get__" = some (some g)) (ht : takesIn K a = some true) : findObj K C od name = some (.bind g a) := by
  obtain ⟨cd, e⟩ := Option.isSome_iff_exists.mp hc
  unfold findObj
  rw [e, Option.bind_some, ha, Option.bind_some]
  simp [hg, ht]
theorem mi_class {Q : Option Value → Shared → Prop} (C : L2.ExcC K D) (X : K.In s.heap) (I : InstAt s.heap x ox D od) (h : Q (some (.ref D)) { s with toks := s.toks + 1 }) : wpAny (model prog w) A (getAttr? (.ref x) "__class__") Q E s := by
  have hf : findObj K D od "__class__" = some (.bind (.builtin "getset_descriptor.__get__") (.builtin "object.__class__")) := mi_found (by obtain ⟨cd, hc, _⟩ := any_some C.hd; rw [hc]; rfl) C.ha C.hn C.ht
  obtain ⟨hp, g, d, t, os⟩ := s
  have q0 := I.type (M := model prog w)
  have q1 := looks_findIn (M := model prog w) X C.hg
  have q2 := looks_findIn (M := model prog w) X C.hk
  have q3 := looks_find (M := model prog w) X I hf
  have sb : Looks (model prog w) hp (isInstance (.ref x) (.type "BaseException")) true := q0.andThen (looks_subIn X C.hs)
  have x0 : (false && onTheHeap (Value.builtin "BaseException.__getattribute__")) = false := rfl
  have x2 : (Value.builtin "BaseException.__getattribute__" == Value.builtin "object.__getattribute__") = false := by decide +kernel
  have x1 : (onTheHeap (Value.ref D) && Value.builtin "BaseException.__getattribute__" == Value.builtin "object.__getattribute__") = false := by rw [x2]; rfl
  unfold getAttr? getAttrBy? getAttrBy
  refine wpAny_bind (wpAny_mkText (wpAny_bind (wpAny_attempt (wpAny_holding (wpAny_bind (q0.at (wpAny_bind (q1.at ?_))))))))
  show wpAny _ _ (if (onTheHeap (Value.ref D) && Value.builtin "BaseException.__getattribute__" == Value.builtin "object.__getattribute__") = true then _ else _) _ _ _
  rw [x1, if_neg Bool.false_ne_true]
  unfold getAttrByItsOwn hookBefore
  refine wpAny_bind ?_
  rw [if_pos (show onTheHeap (Value.ref D) = true from rfl)]
  refine q2.at ?_
  refine wpAny_bind (wpAny_attempt (wpAny_holding ?_))
  unfold callGetattribute
  rw [x0, if_neg Bool.false_ne_true]
  unfold boundAndCalled
  rw [PySem.F.excAttr_ValueError.ga.bind (.ref x)]
  refine wpAny_bind (wpAny_pure ?_)
  show wpAny _ _ (call (.builtin "BaseException.__getattribute__") [.ref x, .str "__class__" t]) _ _ _
  refine wpAny_call (codeAny_call_builtin PySem.F.excAttr_ValueError.ga.plain PySem.F.entry_bexc_ga ?_)
  refine @check_slot (model prog w) _ _ ⟨hp, g, d, t + 1, os⟩ "BaseException.__getattribute__" "BaseException" "__getattribute__" (.ref x) [.str "__class__" t] [] _ (by decide +kernel) (by decide +kernel) sb (PySem.F.args_bexc_ga (.ref x) (.str "__class__" t)) ?_
  unfold Builtin.«object.__getattribute__»
  refine wpAny_bind (wpAny_of_eq (a := ((Value.ref x : Value), [Value.str "__class__" t])) (by first | rfl | (simp only [slotArgs]; rfl)) ?_)
  refine wpAny_bind (wpAny_pure (wpAny_bind (q0.at (wpAny_bind (q3.at ?_)))))
  show wpAny _ _ (holding [Value.builtin "object.__class__"] (call (.builtin "getset_descriptor.__get__") [.builtin "object.__class__", .ref x, .ref D]) >>= ret) _ _ _
  refine wpAny_bind (wpAny_holding (wpAny_call (class_get (s := ⟨hp, g, d, t + 1, os⟩) (ox := ox) (od := od) X I C.hm ?_)))
  refine wpAny_pure ?_
  show wpAny _ _ (handedOut (.ref D)) _ _ _
  rw [handedOut_of (v := .ref D) rfl]
  first
    | exact wpAny_pure (wpAny_pure h)
    | exact wpAny_pure h
    | exact wpAny_pure (wpAny_bind (wpAny_pure (wpAny_pure h)))
theorem mi_kit (C : L2.ExcC K D) : KitX K (.ref x) (.ref D) (fun h => ∃ ox od, InstAt h x ox D od) where
  ty := fun _ _ _ ⟨_, _, I⟩ => I.type
  it := fun _ _ X _ => by
    obtain ⟨cdD, hcD, _⟩ := any_some C.hd
    unfold clsIn at hcD
    split at hcD
    · rename_i c' d' cd' sl' ho
      intro A' Q' E' s' k q
      unfold isType loadHead
      exact wpAny_bind (wpAny_loadPart (k _ _ (X _ _ ho)) (wpAny_pure q))
    · cases hcD
  ne := fun h tp dd its n sl X htp => by
    obtain ⟨cdD, hcD, _⟩ := any_some C.hd
    refine Bool.eq_false_iff.mpr fun q => ?_
    have e : D = tp := Value.ref.inj (beq_iff_eq.mp q)
    subst e
    unfold clsIn at hcD
    split at hcD
    · rename_i c' d' cd' sl' ho
      have z := (X _ _ ho).symm.trans htp
      cases z
    · cases hcD
  ca := fun X ⟨_, _, I⟩ k => mi_class C X I k
end
end PySem.W
namespace Mini
open PySem L2
section
variable {X : Cx}
theorem er_inst {pins : List (Addr × Obj)} {σ : St} {H : Hp} {s : Shared} {a d C : Addr} {fs : List (Str × V)} (I : L2.Inv X pins σ H s) (ha : H a = some (ErO (.ref C) d a)) (hd : H d = some (.xd fs)) : ∃ oe od, PySem.W.InstAt s.heap a oe C (some od) ∧ ∀ n v, fs.lookup n = some v → ∃ u, RelV v u ∧ PySem.W.lookIn n od = some (some u) := by
  obtain ⟨⟨oe, vs, h1, h2, h3, h4⟩, _, _⟩ := I.hok a _ ha
  have hx : ObjOk X.prog X.w H s.heap d (.xd fs) := I.hok d _ hd
  obtain ⟨mA, hns, hr⟩ := hx
  obtain ⟨od, ho, hl⟩ := lookIn_ns hns
  refine ⟨oe, od, ⟨h1, h2, by unfold PySem.W.notCls; rw [h4], by rw [h3]; exact ho⟩, fun n v l => ?_⟩
  obtain ⟨u, hu, ru⟩ := RelO.some_of (v := v) (o := mA n) (by rw [← l]; exact hr n)
  exact ⟨u, ru, by rw [hl, hu]⟩
/-- e.f, e an error -/
theorem pe_erA {e : Expr} {te : TE} {pos : Pos} {n : Str} (he : PE X e te) (hb : attributeBase e n X.env (eval e X.env) = eval e X.env := by rfl) :
    PE X (.Attribute e n pos) (fun σ H Q => te σ H fun x H1 => ∃ a d C fs v, x = .ref a ∧ H1 a = some (ErO (.ref C) d a) ∧ H1 d = some (.xd fs) ∧ XfC X.K C ∧ PySem.W.findIn X.K (.ref C) n = some none ∧ fs.lookup n = some v ∧ Q v H1) := by
  refine ⟨fun pins s σ H Q I h => ?_⟩
  refine attr_of hb (thn (he.run pins s σ H _ I h) fun u s1 hh => ?_)
  obtain ⟨x, H1, I1, rx, a, d, C, fs, v, ex, ha, hd, T, hno, l, q⟩ := hh
  subst ex
  obtain rfl : u = Value.ref a := rx
  obtain ⟨oe, od, J, k⟩ := er_inst I1 ha hd
  obtain ⟨u, ru, hl⟩ := k n v l
  exact HandSPX.exc_get I1.kIn J T.ga T.gg T.exC (PySem.W.findObj_own T.hdC hno rfl hl) (handed_of ru) ⟨v, H1, I1.tok _, ru, q⟩
/-- isinstance(e, c), e an error -/
def rIsEr (K : PySem.W.Frag) : List V → Hp → VK → Prop := fun xs H Q => ∃ (a d C : Addr) (fs : List (Str × V)) (c : V) (cv : Value) (b : Bool), xs = [.ref a, c] ∧ (∀ u, RelV c u → u = cv) ∧ H a = some (ErO (.ref C) d a) ∧ H d = some (.xd fs) ∧ ExcC K C ∧ PySem.W.kitOne K (.ref C) cv = some b ∧ Q (.bl b) H
theorem call_isEr : CallR X (.builtin "isinstance") (rIsEr X.K) := by
  intro pins s σ H xs us Q I r h
  obtain ⟨a, d, C, fs, c, cv, b, rfl, hcv, ha, hd, T, e, q⟩ := h
  cases r with
  | cons rx rr =>
    cases rr with
    | cons rt rr =>
      cases rr
      cases rx
      have ec := hcv _ rt
      subst ec
      obtain ⟨oe, od, J, _⟩ := er_inst I ha hd
      exact PySem.W.kia_one (PySem.W.mi_kit T) I.kIn ⟨oe, some od, J⟩ e (fun z => nomatch z) fun tk => ⟨.bl b, H, I.kept (t' := tk) fun _ _ z => z, rfl, q⟩
end
/-! ### the small interpreter's rules -/
def bEx : List (Str × String) := [("ValueError", "ValueError"), ("OverflowError", "OverflowError")]
/-- what is known of own errors' classes -/
structure IskOk (K : PySem.W.Frag) (isk : Str → Str → Option Bool) : Prop where
  cls : ∀ c d b, isk c d = some b → XfC K (He.ga K c) ∧ ExcC K (He.ga K c) ∧ PySem.W.findIn K (.ref (He.ga K c)) (fo c) = some none
  own : ∀ c d b, isk c d = some b → bEx.lookup d = none → PySem.W.kitOne K (.ref (He.ga K c)) (.ref (He.ga K d)) = some b
  blt : ∀ c d b n, isk c d = some b → bEx.lookup d = some n → PySem.W.kitOne K (.ref (He.ga K c)) (.type n) = some b
section
variable {X : Cx} {W : WX} {g : Cfg} {e a : Expr} {ce ca : CE} {pos p p' kp : Pos} {c : Str} {fI : Addr} {k : Nat}
theorem mke_of {O m : List Addr} {H : Hp} {s : St} {Q : VK} {M : Mem} {x : MV} {v : V} {e d : Addr} {C : Addr} {f : Str} (hC : C = He.ga X.K c) (hf : f = fo c) (S : Sim X.K O m M H) (r : RepV X.K (gr O m H) m v x) (h : PostE X.K O m H W s Q (.ok (.err c x) M)) (he : H e = none) (hd : H d = none) (hne : d ≠ e) :
    Q (.ref e) (upd (upd H d (.xd [(f, v)])) e (ErO (.ref C) d e)) := by
  subst hC hf
  have e1 : Ext m H m (upd H d (.xd [(fo c, v)])) := Ext.alloc S hd
  have S1 := S.alloc (o := .xd [(fo c, v)]) hd
  have he1 : upd H d (.xd [(fo c, v)]) e = none := by rw [upd_ne (Ne.symm hne)]; exact he
  have e2 : Ext m (upd H d (.xd [(fo c, v)])) m (upd (upd H d (.xd [(fo c, v)])) e (ErO (.ref (He.ga X.K c)) d e)) := Ext.alloc S1 he1
  have S2 := S1.alloc (o := ErO (.ref (He.ga X.K c)) d e) he1
  exact h (.ref e) m _ (e1.trans e2) S2 (.err (gr_upd he1 (S1.fresh he1) S1.otr) (e2.sub _ _ (gr_upd hd (S.fresh hd) S.otr)) ((r.ext e1).ext e2))
theorem m_mke (T : ErT X.prog X.K (He.ga X.K c) fI) (hfo : fo c = "told") (hr : Room k X.A) (gC : X.mg c = some (.ref (He.ga X.K c))) (hsg : X.mg "super" = none) (hsb : bootBuiltins "super" = some (.type "super")) (htop : (X.prog.main.scope.names.lookup ("super" : Str)).isSome = false) (he : ME X W g e ce) (hg : Gl X c)
    (hdb : (c == ("__debug__" : Str)) = false := by decide) (hs : starEach (e :: []) X.env = (false, eval e X.env) :: starEach [] X.env := by rfl) (hpl : (backTo pos (starEach [] X.env)).any (·.1) = false := by rfl) : ME X W g (.Call (.Name c p) [e] [] pos) (.mke c ce) :=
  PE_imp (pe_er T hr gC hsg hsb htop he hg hdb hs hpl) fun s H Q ⟨O, m, M, r, S, R, h⟩ => by
    simp only [evE] at h
    exact ⟨O, m, M, r, S, R, h.bindE.imp fun v H1 ⟨x, m1, M1, e1, S1, r1, h1⟩ => fun e d he hd hne => mke_of rfl hfo.symm S1 r1 h1 he hd hne⟩
theorem m_mkeK (T : ErT X.prog X.K (He.ga X.K c) fI) (hfo : fo c = "told") (hr : Room k X.A) (gC : X.mg c = some (.ref (He.ga X.K c))) (hsg : X.mg "super" = none) (hsb : bootBuiltins "super" = some (.type "super")) (htop : (X.prog.main.scope.names.lookup ("super" : Str)).isSome = false) (he : ME X W g e ce) (hg : Gl X c)
    (hdb : (c == ("__debug__" : Str)) = false := by decide) : ME X W g (.Call (.Name c p) [] [{ arg := some "told", value := e, pos := kp }] pos) (.mke c ce) :=
  PE_imp (pe_erK T hr gC hsg hsb htop he hg hdb) fun s H Q ⟨O, m, M, r, S, R, h⟩ => by
    simp only [evE] at h
    exact ⟨O, m, M, r, S, R, h.bindE.imp fun v H1 ⟨x, m1, M1, e1, S1, r1, h1⟩ => fun e d he hd hne => mke_of rfl hfo.symm S1 r1 h1 he hd hne⟩
theorem m_mko (T : EoT X.prog X.K (He.ga X.K c) fI) (hfo : fo c = "most") (hr : Room k X.A) (gC : X.mg c = some (.ref (He.ga X.K c))) (hsg : X.mg "super" = none) (hsb : bootBuiltins "super" = some (.type "super")) (htop : (X.prog.main.scope.names.lookup ("super" : Str)).isSome = false) (he : ME X W g e ce) (hg : Gl X c)
    (hdb : (c == ("__debug__" : Str)) = false := by decide) (hs : starEach (e :: []) X.env = (false, eval e X.env) :: starEach [] X.env := by rfl) (hpl : (backTo pos (starEach [] X.env)).any (·.1) = false := by rfl) : ME X W g (.Call (.Name c p) [e] [] pos) (.mke c ce) :=
  PE_imp (pe_eo T hr gC hsg hsb htop he hg hdb hs hpl) fun s H Q ⟨O, m, M, r, S, R, h⟩ => by
    simp only [evE] at h
    exact ⟨O, m, M, r, S, R, h.bindE.imp fun v H1 ⟨x, m1, M1, e1, S1, r1, h1⟩ => fun e d he hd hne => mke_of rfl hfo.symm S1 r1 h1 he hd hne⟩
theorem m_mkoK (T : EoT X.prog X.K (He.ga X.K c) fI) (hfo : fo c = "most") (hr : Room k X.A) (gC : X.mg c = some (.ref (He.ga X.K c))) (hsg : X.mg "super" = none) (hsb : bootBuiltins "super" = some (.type "super")) (htop : (X.prog.main.scope.names.lookup ("super" : Str)).isSome = false) (he : ME X W g e ce) (hg : Gl X c)
    (hdb : (c == ("__debug__" : Str)) = false := by decide) : ME X W g (.Call (.Name c p) [] [{ arg := some "most", value := e, pos := kp }] pos) (.mke c ce) :=
  PE_imp (pe_eoK T hr gC hsg hsb htop he hg hdb) fun s H Q ⟨O, m, M, r, S, R, h⟩ => by
    simp only [evE] at h
    exact ⟨O, m, M, r, S, R, h.bindE.imp fun v H1 ⟨x, m1, M1, e1, S1, r1, h1⟩ => fun e d he hd hne => mke_of rfl hfo.symm S1 r1 h1 he hd hne⟩
theorem err_of {O m : List Addr} {H : Hp} {v : V} {x : MV} (r : RepV X.K (gr O m H) m v (.err c x)) : ∃ a d u, v = .ref a ∧ H a = some (ErO (.ref (He.ga X.K c)) d a) ∧ H d = some (.xd [(fo c, u)]) ∧ RepV X.K (gr O m H) m u x := by
  cases r with
  | err h1 h2 h3 => exact ⟨_, _, _, rfl, hide_same _ _ h1, hide_same _ _ h2, h3⟩
theorem m_eat {f : Str} (hI : IskOk X.K g.isk) (he : ME X W g e ce) (hb : attributeBase e f X.env (eval e X.env) = eval e X.env := by rfl) : ME X W g (.Attribute e f pos) (.eat ce f) :=
  PE_imp (pe_erA he hb) fun s H Q ⟨O, m, M, r, S, R, h⟩ => by
    simp only [evE] at h
    refine ⟨O, m, M, r, S, R, h.bindE.imp fun v H1 ⟨x, m1, M1, e1, S1, r1, h1⟩ => ?_⟩
    cases x with
    | err c y =>
      dsimp only at h1
      split at h1
      · rename_i hc
        obtain ⟨rfl, hk⟩ := hc
        obtain ⟨b, hk⟩ := Option.isSome_iff_exists.mp hk
        obtain ⟨t1, t2, t3⟩ := hI.cls c c b hk
        obtain ⟨a, d, u, rfl, h2, h3, h4⟩ := err_of r1
        exact ⟨a, d, _, _, u, rfl, h2, h3, t1, t3, by simp [List.lookup], h1 u m1 H1 Ext.refl S1 h4⟩
      · exact h1.elim
    | _ => exact h1.elim
theorem m_iseO {T : Str} (hI : IskOk X.K g.isk) (hT : bEx.lookup T = none) (hg : Gl X "isinstance") (hm : X.mg "isinstance" = none) (hgT : Gl X T) (hmT : X.mg T = some (.ref (He.ga X.K T))) (ha : ME X W g a ca) (hdT : (T == ("__debug__" : Str)) = false := by decide)
    (he : starEach [a, .Name T p'] X.env = [(false, eval a X.env), (false, eval (.Name T p') X.env)] := by rfl) : ME X W g (.Call (.Name "isinstance" p) [a, .Name T p'] [] pos) (.ise ca T) := by
  have hN : PE X (.Name T p') (tC (.ref (He.ga X.K T))) := pe_glob hgT hmT rfl hdT
  refine PE_imp (pe_callB (call_isEr (X := X)) hg hm (by decide +kernel) (pa_cons ha (pa_cons hN pa_nil (by rfl)) (by rw [he]; rfl)) (he := by rw [he]; rfl) (hpl := by rfl)) fun s H Q ⟨O, m, M, r, S, R, h⟩ => ?_
  simp only [evE] at h
  refine ⟨O, m, M, r, S, R, h.bindE.imp fun v H1 ⟨x, m1, M1, e1, S1, r1, h1⟩ => ?_⟩
  cases x with
  | err c y =>
    obtain ⟨z, hz, fin⟩ := h1.opt
    obtain ⟨b, hb, rfl⟩ := map_some hz
    obtain ⟨t1, t2, t3⟩ := hI.cls c T b hb
    obtain ⟨a', d, u, rfl, h2, h3, h4⟩ := err_of r1
    exact ⟨a', d, _, _, _, _, b, rfl, fun u hu => hu, h2, h3, t2, hI.own c T b hb hT, fin.here S1 (.bl b)⟩
  | _ => exact h1.elim
theorem m_iseB {T : Str} {n : String} (hI : IskOk X.K g.isk) (hT : bEx.lookup T = some n) (hg : Gl X "isinstance") (hm : X.mg "isinstance" = none) (hgT : Gl X T) (hmT : X.mg T = none) (hvT : bootBuiltins T = some (.type n)) (ha : ME X W g a ca) (hnT : T ≠ "__name__" := by decide) (hdT : (T == ("__debug__" : Str)) = false := by decide)
    (he : starEach [a, .Name T p'] X.env = [(false, eval a X.env), (false, eval (.Name T p') X.env)] := by rfl) : ME X W g (.Call (.Name "isinstance" p) [a, .Name T p'] [] pos) (.ise ca T) := by
  have hN : PE X (.Name T p') (tC (.ty n)) := pe_bltn hgT hmT hvT rfl hnT hdT
  refine PE_imp (pe_callB (call_isEr (X := X)) hg hm (by decide +kernel) (pa_cons ha (pa_cons hN pa_nil (by rfl)) (by rw [he]; rfl)) (he := by rw [he]; rfl) (hpl := by rfl)) fun s H Q ⟨O, m, M, r, S, R, h⟩ => ?_
  simp only [evE] at h
  refine ⟨O, m, M, r, S, R, h.bindE.imp fun v H1 ⟨x, m1, M1, e1, S1, r1, h1⟩ => ?_⟩
  cases x with
  | err c y =>
    obtain ⟨z, hz, fin⟩ := h1.opt
    obtain ⟨b, hb, rfl⟩ := map_some hz
    obtain ⟨t1, t2, t3⟩ := hI.cls c T b hb
    obtain ⟨a', d, u, rfl, h2, h3, h4⟩ := err_of r1
    exact ⟨a', d, _, _, _, _, b, rfl, fun u hu => hu, h2, h3, t2, hI.blt c T b n hb hT, fin.here S1 (.bl b)⟩
  | _ => exact h1.elim
end
end Mini

set_option Elab.async false
set_option linter.all false
set_option maxRecDepth 100000
set_option maxHeartbeats 2000000
/-! MiR: repr (where it is known that no repr is under way); enumerate of a list. -/
namespace Mini
open PySem L2
theorem fl_reads {K : PySem.W.Frag} {G : Hp} {m : List Addr} {h : Heap} {v : V} {x : MV} {u : Value} {d : PyData} (r : RepV K G m v x) (ru : RelV v u) (e : flD x = some d) : Reads h u d [] := by
  cases r <;> simp only [flD] at e <;> first | (cases e; done) | skip
  · cases e; obtain rfl := ru; exact .none
  · cases e; obtain rfl := ru; exact .bool _
  · cases e; obtain ⟨t, rfl⟩ := ru; exact .int _ t
  · cases e; obtain ⟨t, rfl⟩ := ru; exact .str _ t
theorem kv_reads {K : PySem.W.Frag} {G : Hp} {m : List Addr} {h : Heap} {P : Program} {w : World} : ∀ {ps : List (Key × V)} {kvs : List (Key × MV)} {vs : List (Key × Value)} {es : List DictEntry} {ds : List (PyData × PyData)}, RepK K G m ps kvs → KV ps vs → Pairs (mixKind P w) es vs →
    mapO (fun p : Key × MV => (flD p.2).map fun d => (keyD p.1, d)) kvs = some ds → ReadsAll h (es.map (·.key)) (ds.map (·.1)) [] ∧ ReadsAll h (es.map (·.val)) (ds.map (·.2)) []
  | [], [], _, _, _, _, .nil, .nil, e => by
    cases e
    exact ⟨.nil, .nil⟩
  | (k, v) :: ps, (_, x) :: kvs, _, _, ds, .cons r rs, .cons q qs, .cons h1 h2 hs, e => by
    rcases mapO_get e with ⟨z, _⟩ | ⟨p, xr, y, yr, e1, e2, e3, e4⟩
    · cases z
    · cases e1
      subst e2
      obtain ⟨d, f1, f2⟩ := map_some e3
      subst f2
      obtain ⟨i1, i2⟩ := kv_reads rs qs hs e4
      obtain ⟨q1, q2⟩ := q
      have r1 : Reads h _ d [] := fl_reads r (show RelV v _ from h2 ▸ q2) f1
      refine ⟨.cons (as := []) ?_ i1, .cons (as := []) r1 i2⟩
      have hk := h1
      rw [← q1] at hk
      rcases keyIs_shape (show keyIs k _ = true from hk) with ⟨i, t, rfl, ek⟩ | ⟨x, t, rfl, ek⟩
      · dsimp only; rw [ek]; exact .int i t
      · dsimp only; rw [ek]; exact .str x t
theorem hasDict_all {f : MV → Option PyData} (hf : ∀ x d, f x = some d → d.hasDict = false) : ∀ (xs : List MV) (ds : List PyData), mapO f xs = some ds → PyData.hasDictAll ds = false
  | xs, ds, h => by
    induction xs generalizing ds with
    | nil => cases h; simp only [PyData.hasDictAll]
    | cons x xs ih =>
      rcases mapO_get h with ⟨z, _⟩ | ⟨p, xr, y, yr, e1, e2, e3, e4⟩
      · cases z
      · cases e1
        subst e2
        simp only [PyData.hasDictAll, hf _ _ e3, ih _ e4, Bool.or_false]
theorem hasDict_toD {M : Mem} : ∀ (n : Nat) (x : MV) (d : PyData), toD n M x = some d → d.hasDict = false
  | 0, _, _, h => by cases h
  | n + 1, x, d, h => by
    have ih := hasDict_toD (M := M) n
    unfold toD at h
    cases x with
    | non => cases h; simp only [PyData.hasDict]
    | bl b => cases h; simp only [PyData.hasDict]
    | int b => cases h; simp only [PyData.hasDict]
    | str b => cases h; simp only [PyData.hasDict]
    | tup xs =>
      obtain ⟨ds, h1, rfl⟩ := map_some h
      simp only [PyData.hasDict]
      exact hasDict_all ih xs ds h1
    | lst xs =>
      obtain ⟨ds, h1, rfl⟩ := map_some h
      simp only [PyData.hasDict]
      exact hasDict_all ih xs ds h1
    | ref k =>
      dsimp only at h
      split at h
      · obtain ⟨ds, h1, rfl⟩ := map_some h
        simp only [PyData.hasDict]
        exact hasDict_all ih _ ds h1
      · cases h
    | _ => cases h
section
variable {X : Cx} {W : WX} {g : Cfg} {e a : Expr} {ce ca : CE} {pos p p' : Pos}
def reprL (M : Mem) : List MV → Option MV
  | [x] => reprM M x
  | _ => none
theorem call_reprM (hg : X.A.guards = some []) (hu : X.A.units + 100 < cLine) : CallR X (.builtin "repr") (rVL X.K reprL) := by
  intro pins s σ H xs us Q I r h
  obtain ⟨O, m, M, ys, z, S, rl, e, fin⟩ := h
  cases ys with
  | nil => cases e
  | cons x ys =>
    cases ys with
    | cons _ _ => cases e
    | nil =>
      obtain ⟨v, rfl, rv⟩ := rl.one
      obtain ⟨u, rfl, ru⟩ := vals1 r
      simp only [reprL, reprM] at e
      cases q : rpD M x with
      | none => rw [q] at e; cases e
      | some d =>
        rw [q] at e
        obtain ⟨⟨h1, h2, h3⟩, ez⟩ := ite_some e
        subst ez
        have done : ∀ tk (h' : Heap) (t : Nat), (∀ b o, s.heap.get? b = some o → h'.get? b = some o) → EP X pins σ Q (.str d.shown tk) { s with heap := h', toks := t } := fun tk h' t k => ⟨.str _, H, I.kept (t' := t) k, ⟨tk, rfl⟩, fin.here S (.str _)⟩
        have byRef : ∀ (a : Addr) (as : List Addr), u = .ref a → Reads s.heap u d as → (d.hasDict = true → sysModules ∉ as) → wpAny (model X.prog X.w) X.A (call (.builtin "repr") [u]) (EP X pins σ Q) X.xe s := fun a as eu hr hs => by
          subst eu
          exact PySem.repr_of_reads' hr h1 hs hg (by omega) (fun _ _ z => z) (fun h' tk t k => done tk h' t k) h2
        have same : ∀ tk t, EP X pins σ Q (.str d.shown tk) { s with toks := t } := fun tk t => done tk s.heap t fun _ _ z => z
        by_cases hd : ∃ kvs, x = .dck kvs
        · obtain ⟨kvs, rfl⟩ := hd
          obtain ⟨ds, q1, q2⟩ := map_some q
          subst q2
          cases rv with
          | @dck a ps _ k1 k2 =>
            cases ru
            have ok : ObjOk X.prog X.w H s.heap a (.dK ps) := I.hok a _ (hide_same _ _ k1)
            obtain ⟨_, hsys, vs, hkv, o, es, ep, ho, hex, hdat, _, hp, _⟩ := ok
            obtain ⟨i1, i2⟩ := kv_reads (h := s.heap) k2 hkv hp q1
            refine byRef a _ rfl (.dict (as := []) (bs := []) ho hex.1 hdat i1 i2) fun _ z => ?_
            simp only [List.append_nil, List.mem_singleton] at z
            rw [z] at hsys
            simp at hsys
        · have q' : toD 64 M x = some d := by
            unfold rpD at q
            cases x with
            | dck kvs => exact absurd ⟨kvs, rfl⟩ hd
            | _ => exact q
          have D := toD_rep S 64 v x d rv q'
          have hnd : d.hasDict = false := hasDict_toD 64 x d q'
          obtain ⟨as, rd⟩ := Dp.reads I d v u D ru
          cases D with
          | non =>
            obtain rfl := ru
            exact PySem.P.repr_of_none (same _ _)
          | bl b =>
            obtain rfl := ru
            exact PySem.P.repr_of_bool (same _ _)
          | int i =>
            obtain ⟨t, rfl⟩ := ru
            exact PySem.P.repr_of_int (of_decide_eq_true h1) (same _ _)
          | str x =>
            obtain ⟨t, rfl⟩ := ru
            exact PySem.P.repr_of_str (same _ _) h2
          | lst _ _ =>
            obtain rfl := ru
            exact byRef _ as rfl rd fun z => by rw [hnd] at z; cases z
          | tup _ _ =>
            obtain rfl := ru
            exact byRef _ as rfl rd fun z => by rw [hnd] at z; cases z
theorem m_rpr (hgd : X.A.guards = some []) (hu : X.A.units + 100 < cLine) (hg : Gl X "repr") (hm : X.mg "repr" = none) (ha : ME X W g a ca) (hs : starEach [a] X.env = (false, eval a X.env) :: starEach [] X.env := by rfl) (hpl : (backTo pos (starEach [] X.env)).any (·.1) = false := by rfl) : ME X W g (.Call (.Name "repr" p) [a] [] pos) (.rpr ca) :=
  PE_imp (pe_callB (call_reprM hgd hu) hg hm (by decide +kernel) (pa_cons ha pa_nil hs) (he := hs) (hpl := hpl)) fun s H Q ⟨O, m, M, r, S, R, h⟩ => by
    simp only [evE] at h
    refine ⟨O, m, M, r, S, R, h.bindE.imp fun v H1 ⟨x, m1, M1, e1, S1, r1, h1⟩ => ?_⟩
    obtain ⟨z, hz, fin⟩ := h1.opt
    exact ⟨O, m1, M1, [x], z, S1, .cons r1 .nil, hz, fin⟩
theorem enuL_len : ∀ (xs : List MV) (n : Int), (enuL n xs).length = xs.length
  | [], _ => rfl
  | _ :: xs, n => congrArg (· + 1) (enuL_len xs (n + 1))
theorem enuL_get : ∀ (xs : List MV) (n : Int) (i : Nat) (x : MV), (enuL n xs)[i]? = some x → ∃ y, xs[i]? = some y ∧ x = .tup [.int (n + i), y]
  | [], _, _, _, h => by simp [enuL] at h
  | y :: xs, n, 0, x, h => by
    obtain rfl := Option.some.inj h
    exact ⟨y, rfl, by simp⟩
  | y :: xs, n, i + 1, x, h => by
    obtain ⟨z, h1, h2⟩ := enuL_get xs (n + 1) i x h
    refine ⟨z, h1, ?_⟩
    rw [h2]
    congr 3
    have : (n + 1 + (i : Int)) = n + ((i + 1 : Nat) : Int) := by omega
    rw [this]
theorem i_enu {elts : List Expr} {kk : Nat} {tpos : Pos} (hg : Gl X "enumerate") (hm : X.mg "enumerate" = none) (ha : ME X W g a ca) (hs : starEach [a] X.env = [(false, eval a X.env)] := by rfl) : MI X W g (.Tuple elts kk tpos) (.Call (.Name "enumerate" p) [a] [] pos) (.enu ca) :=
  PI_imp (pi_enum hg hm (a_cons ha a_nil (by rw [hs]; rfl)) hs) fun s H R ⟨O, m, M, r, S, RR, h⟩ => by
    refine ⟨O, m, M, r, S, RR, ?_⟩
    simp only [evI] at h
    simp only [evL]
    cases q : evE g r ca M with
    | stuck => rw [q] at h; exact h.elim
    | exn c x M' => rw [q] at h; exact h
    | ok x M' =>
      rw [q] at h
      simp only [Res.bind_ok] at h ⊢
      intro vs m1 H1 e1 S1 r1
      obtain ⟨v, rfl, rv⟩ := r1.one
      cases x with
      | lst xs =>
        cases rv with
        | @lst b ws _ k1 k2 =>
          have k0 : ∀ {H : Hp}, (∀ a o, a ∉ m1 → H1 a = some o → H a = some o) → SqL X.K H b ws := fun k => SqL.of (k _ _ (gr_out _ _ k1) (hide_same _ _ k1))
          refine ⟨b, ws, rfl, SqL.of (hide_same _ _ k1), h _ m1 H1 e1 S1 ⟨fun H i k hi => ?_, fun H k => ?_, fun H i v H' x O' m' M' ex hG S' hx y => ?_⟩⟩
          · rw [enuL_len] at hi
            exact ⟨ws, ws[i]'(by rw [k2.len]; exact hi), k0 k, List.getElem?_eq_getElem _⟩
          · rw [enuL_len]
            exact ⟨ws, k0 k, by rw [k2.len]; exact Nat.le_refl _⟩
          · obtain ⟨T, w, rfl, hT, rfl, hw⟩ := y
            obtain ⟨y0, j1, rfl⟩ := enuL_get xs 0 i x hx
            obtain ⟨w', j2, j3⟩ := k2.get j1
            have z := hw ws (k0 ex.keep)
            rw [j2] at z
            cases z
            have e2 : Ext m' H m' (upd H T (.tup [.int (i : Nat), w])) := Ext.alloc S' hT
            refine ⟨e2, S'.alloc hT, .tup (gr_upd hT (S'.fresh hT) S'.otr) (.cons ?_ (.cons ((j3.mono hG ex.pre).ext e2) .nil))⟩
            rw [Int.zero_add]
            exact .int _
      | _ => exact h.elim
end
theorem hu100 {k : Nat} {A : Around} (h : Room k A) : A.units + 100 < cLine := by
  have := h.un
  omega
end Mini

set_option Elab.async false
set_option linter.all false
set_option maxRecDepth 100000
set_option maxHeartbeats 2000000
/-! MiY: raise; try with several clauses of the form except C as e: return .. -/
namespace Mini
open PySem L2
section
variable {X : Cx} {W : WX} {g : Cfg} {e : Expr} {ce : CE} {pos p pos2 : Pos} {na : Bool} {c : Str} {fI : Addr} {k : Nat}
/-- raise C(e) -/
theorem s_rse (hc : X.calm = true) (T : ErT X.prog X.K (He.ga X.K c) fI) (hfo : fo c = "told") (hr : Room k X.A) (tk : Takes X W) (gC : X.mg c = some (.ref (He.ga X.K c))) (hsg : X.mg "super" = none) (hsb : bootBuiltins "super" = some (.type "super")) (htop : (X.prog.main.scope.names.lookup ("super" : Str)).isSome = false)
    (he : ME X W g e ce) (hg : Gl X c) (hst : starEach (e :: []) X.env = (false, eval e X.env) :: starEach [] X.env := by rfl) (hpl : (backTo pos (starEach [] X.env)).any (·.1) = false := by rfl) (hdb : (c == ("__debug__" : Str)) = false := by decide) :
    MS X W g na (.Raise (some (.Call (.Name c p) [e] [] pos)) none pos2) (.rse c ce) := PS_imp (ps_raise hc tk (pmk_er T hr gC hsg hsb htop (pa_cons he pa_nil hst) hg hdb hst hpl)) fun D s H ⟨O, m, M, r, S, R, h⟩ => by
  simp only [evS] at h
  refine ⟨O, m, M, r, S, R, h.bindE.imp fun v H1 ⟨x, m1, M1, e1, S1, r1, h1⟩ => ⟨v, rfl, fun d hd => ?_⟩⟩
  have ex : Ext m1 H1 m1 (upd H1 d (.xd [(("told" : Str), v)])) := Ext.alloc S1 hd
  exact h1 s d v m1 _ (fun _ => rfl) ex (S1.alloc hd) (r1.ext ex) (by rw [hfo]; exact upd_same)
end
/-! ### try -/
def wManyA (K : PySem.W.Frag) (Wout : WX) (D : Ends) : List (Value × Nat × (Addr → Value → Option Addr → TS)) → WX
  | [] => Wout
  | (c, i, ts) :: r => fun cls d σ H => ∃ b, PySem.W.exmOne K cls c = some b ∧ (b = true → ∀ a, H a = none → ts a cls d { nx := fun σ' H' => D.nx (σ'.set i none) H', rt := D.rt, bk := fun σ' H' => D.bk (σ'.set i none) H', ct := fun σ' H' => D.ct (σ'.set i none) H' } (σ.set i (some (.ref a))) H) ∧ (b = false → wManyA K Wout D r cls d σ H)
inductive HdsAs (X : Cx) : List ExceptHandler → List (Value × Nat × (Addr → Value → Option Addr → TS)) → Prop
  | nil : HdsAs X [] []
  | cons {x n : Str} {c : Value} {i : Nat} {ts : Addr → Value → Option Addr → TS} {b₀ : Stmt} {suite : List Stmt} {np pos' : Pos} {hds : List ExceptHandler} {l : List (Value × Nat × (Addr → Value → Option Addr → TS))} (hc : Names X x c) (hi : X.N[i]? = some n) (hln : X.env.kindOf n = some .local)
      (hsu : ∀ (a : Addr) (oe : Obj) (cls : Value) (d : Option Addr) (pn : List (Addr × Obj)), Zc cls d oe → (∃ vs, oe.data = .fields vs) → PSs (X.suite a ((a, oe) :: pn)) (b₀ :: suite) (ts a cls d)) (r : HdsAs X hds l) :
      HdsAs X (.ExceptHandler (some (.Name x np)) (some n) (b₀ :: suite) pos' :: hds) ((c, i, ts) :: l)
section
open PySem.Spec PyProof.Rows
variable {X : Cx} {body : List Stmt} {h₀ : ExceptHandler} {hds : List ExceptHandler} {l : List (Value × Nat × (Addr → Value → Option Addr → TS))} {pos : Pos} {tb : WX → TS} {Wout : WX}
theorem ps_try_manyA (hs : X.stack = X.env :: X.outer) (hf : X.env.frame = some X.env.locals) (hN : X.N.Nodup) (tk : Takes X Wout)
    (hb : ∀ (W : WX) (pn : List (Addr × Obj)) (xe : Value → Shared → Prop), Takes (X.tr pn xe) W → PassesOwn (model X.prog X.w) X.A X.env xe → PSs (X.tr pn xe) body (tb W))
    (hh : HdsAs X (h₀ :: hds) l) : PS X (.Try body (h₀ :: hds) [] [] pos) (fun D σ H => tb (wManyA X.K Wout D l) D σ H) := by
  refine ⟨fun pins s σ H D I h => ?_⟩
  have ok := I.ok
  have hfr : X.A.frames = some (X.env :: X.outer) := by rw [ok.frames, hs]
  refine wpAny_Try_except ?_
  refine wpAny_mono ((hb (wManyA X.K Wout D l) (X.pn ++ pins) (fun e s₁ => wpAny (model X.prog X.w) X.A (noteFrame e X.env) (fun _ s₂ => wpAny (model X.prog X.w) X.A (setFlight e none) (fun _ s₃ =>
    wpAny (model X.prog X.w) X.A (handleBy e X.env (h₀ :: hds)) (SP X pins D) X.xe s₃) X.xe s₂) X.xe s₁) (fun u s' xx => ?_) PassesOwn.looking).run [] s σ H D (I.toTry _) h) (fun f s1 hsp => ?_) (fun e s1 he => he)
  · obtain ⟨a, B, sI, pins', σ', H', cls, d, rfl, J', nb, up, sky, na, os, ag, w⟩ := xx
    have J : Inv X pins σ' H' sI := J'.ofTry ok
    have sky' : Sky B (X.env :: X.outer) a (Zc cls d) X.env.locals s'.heap := by rw [← hs]; exact sky
    show wpAny (model X.prog X.w) X.A (noteFrame (.ref a) X.env) _ _ _
    refine Sky.land Zc.steady hfr hf sky' fun h3 fl3 up3 => ?_
    have J3 : Inv X pins σ' H' { s' with heap := h3 } := J.landed nb fl3.1 (up.trans up3) os ag
    obtain ⟨oe3, vs3, he3, hz3, hd3⟩ := fl3.there
    have nfr : a ∉ frs (X.env :: X.outer) := fun hm => by
      obtain ⟨_, o', e', hnf⟩ := fl3.2.2.1.mem hm
      rw [he3] at e'; cases e'
      exact hnf _ hd3
    have nL : a ≠ X.env.locals := fun z => nfr (List.mem_filterMap.mpr ⟨X.env, List.mem_cons_self, by rw [hf, z]⟩)
    have nF : a ∉ X.fs := fun hm => by
      obtain ⟨e, he, q⟩ := List.mem_filterMap.mp hm
      exact nfr (List.mem_filterMap.mpr ⟨e, List.mem_cons_of_mem _ he, q⟩)
    have S3 := J3.suite he3 hd3 na nL nF
    have go : ∀ {hds' : List ExceptHandler} {l' : List (Value × Nat × (Addr → Value → Option Addr → TS))}, HdsAs X hds' l' → wManyA X.K Wout D l' cls d σ' H' →
        wpAny (model X.prog X.w) X.A (handleBy (.ref a) X.env hds') (SP X pins D) X.xe { s' with heap := h3 } := by
      intro hds' l' hk
      induction hk with
      | nil =>
        intro w
        refine wpAny_handleBy_nil ?_
        obtain ⟨k1, k2, k3, oe, vs, T, oT, ts', he, hz, hd, h1, hr⟩ := id fl3
        unfold PySem.passOn
        refine wpAny_bind (wpAny_field he hd h1 ?_)
        rw [if_neg (show ¬ ((Value.ref T == Value.none) = true) from by simp)]
        have fin : wpAny (model X.prog X.w) X.A (setFlight (.ref a) X.env.frame) (fun _ s4 => wpAny (model X.prog X.w) X.A (throw (.ref a) : Sem Flow) (SP X pins D) X.xe s4) X.xe { s' with heap := h3 } := by
          rw [hf]
          refine HandSPX.setFlight_upZ fl3 fun h4 hh4 up4 => wpAny_throw (tk _ _ ?_)
          exact ⟨a, B, sI, pins, σ', H', cls, d, rfl, J, nb, (up.trans up3).trans up4, .inr (.inr (by rw [hs]; exact hh4)), na, os, ag, w⟩
        first
          | exact wpAny_bind (wpAny_pure (wpAny_bind fin))
          | exact wpAny_bind fin
      | @cons x n c i ts b₀ suite np pos' hds2 l2 hc hi hln hsu r ih =>
        intro w
        obtain ⟨b, hb1, hyes, hno⟩ := w
        refine wpAny_handleBy_cons (codeAny_handlers_test ?_) (by intro q; cases q)
        have LT : PySem.W.Looks (model X.prog X.w) h3 (typeOf (.ref a)) cls := fun A Q E s k q => wpAny_typeOf_ref (k _ _ he3) (by rw [hz3.1]; exact q)
        have LM := PySem.W.exm_one (M := model X.prog X.w) (J3.kIn) LT hb1
        have test : ∀ {Q : Value → Shared → Prop} {E : Value → Shared → Prop}, Q c { s' with heap := h3 } → wpAny (model X.prog X.w) (X.A.mark (some (.ref a))) (eval (.Name x np) X.env) Q E { s' with heap := h3 } := fun {Q E} q => by
          obtain ⟨hg, hdbg, hm | ⟨hm, hv, hnn⟩⟩ := hc
          · exact ld_glob (X := X.suite a ((a, oe3) :: (X.pn ++ pins))) S3 hg hm q hdbg
          · exact ld_blt (X := X.suite a ((a, oe3) :: (X.pn ++ pins))) S3 hg hm hv q hnn hdbg
        refine test (LM.here ?_)
        cases b with
        | true =>
          have hloc : Loc X.env.scope n := .inl hln
          refine codeAny_handlers_suite_as ?_
          refine HandSPX.lands_againZ fl3 fun h4 fl4 up4 => ?_
          have J4 : Inv X pins σ' H' { s' with heap := h4 } := J.landed nb fl4.1 ((up.trans up3).trans up4) os ag
          obtain ⟨oe4, vs4, he4, hz4, hd4⟩ := fl4.there
          have S4 := J4.suite he4 hd4 na nL nF
          refine store_ok (X := X.suite a ((a, oe4) :: (X.pn ++ pins))) (v := .ref a) S4 hN hi hloc rfl (fun s5 S5 => ?_) (.inr hln)
          refine wpAny_mono ((hsu a oe4 cls d (X.pn ++ pins) hz4 ⟨_, hd4⟩).run [] s5 _ H' _ S5 (hyes rfl a na)) (fun f s6 hsp => ?_) (fun _ _ z => False.elim z)
          have end_ : ∀ {σ6 : L2.St} {H6 : Hp} {Q : Shared → Prop}, Inv (X.suite a ((a, oe4) :: (X.pn ++ pins))) [] σ6 H6 s6 → (∀ s7, Inv X pins (σ6.set i none) H6 s7 → Q s7) →
              wpAny (model X.prog X.w) X.A (do bindName X.env n .none; unbindBehindTheSuite X.env n pos') (fun _ s7 => Q s7) X.xe s6 := fun {σ6 H6 Q} S6 hq => gone_ok (S6.unsuite ok) hN hi hln hq
          cases f with
          | next =>
            obtain ⟨σ6, H6, S6, q6⟩ := hsp
            exact end_ S6 fun s7 J7 => ⟨_, _, J7, q6⟩
          | brk =>
            obtain ⟨σ6, H6, S6, q6⟩ := hsp
            exact end_ S6 fun s7 J7 => ⟨_, _, J7, q6⟩
          | cont =>
            obtain ⟨σ6, H6, S6, q6⟩ := hsp
            exact end_ S6 fun s7 J7 => ⟨_, _, J7, q6⟩
          | ret u =>
            obtain ⟨v6, σ6, H6, S6, r6, q6⟩ := hsp
            exact end_ S6 fun s7 J7 => ⟨_, _, _, J7, r6, q6⟩
        | false =>
          show wpAny _ X.A (handleBy (.ref a) X.env hds2) _ _ _
          exact ih (hno rfl)
    exact go hh w
  · cases f with
    | next =>
      obtain ⟨σ', H', J', q⟩ := hsp
      exact wpAny_execs_nil ⟨σ', H', J'.ofTry ok, q⟩
    | brk =>
      obtain ⟨σ', H', J', q⟩ := hsp
      exact ⟨σ', H', J'.ofTry ok, q⟩
    | cont =>
      obtain ⟨σ', H', J', q⟩ := hsp
      exact ⟨σ', H', J'.ofTry ok, q⟩
    | ret u =>
      obtain ⟨v, σ', H', J', r, q⟩ := hsp
      exact ⟨v, σ', H', J'.ofTry ok, r, q⟩
end
/-! ### suites -/
/-- a part of what a suite returns: c0 the clause's class, i its name's slot -/
def tAt (K : PySem.W.Frag) (c0 : Str) (i : Nat) (a : Addr) (cls : Value) (d : Option Addr) (t : Atm) : TE := fun σ H Q => ∃ O m M x dd v y, Sim K O m M H ∧ RepV K (gr O m H) m v x ∧ σ[i]? = some (some (.ref a)) ∧ cls = .ref (He.ga K c0) ∧ d = some dd ∧ H dd = some (.xd [(fo c0, v)]) ∧ t.val x = some y ∧ ∀ u, RepV K (gr O m H) m u y → Q u H
def tAts (K : PySem.W.Frag) (c0 : Str) (i : Nat) (a : Addr) (cls : Value) (d : Option Addr) (ts : List Atm) : TA := fun σ H Q => ∃ O m M x dd v ys, Sim K O m M H ∧ RepV K (gr O m H) m v x ∧ σ[i]? = some (some (.ref a)) ∧ cls = .ref (He.ga K c0) ∧ d = some dd ∧ H dd = some (.xd [(fo c0, v)]) ∧ mapO (Atm.val x) ts = some ys ∧ ∀ us, RepL K (gr O m H) m us ys → Q us H
def tHx (K : PySem.W.Frag) (c0 : Str) (i : Nat) (a : Addr) (cls : Value) (d : Option Addr) (t : Hx) : TS := fun D σ H => ∃ O m M x dd v y, Sim K O m M H ∧ RepV K (gr O m H) m v x ∧ σ[i]? = some (some (.ref a)) ∧ cls = .ref (He.ga K c0) ∧ d = some dd ∧ H dd = some (.xd [(fo c0, v)]) ∧ t.val x = some y ∧ Fin K O m M H y D.rt
section
variable {X : Cx} {c0 n : Str} {i : Nat} {a : Addr} {oe : Obj} {cls : Value} {d : Option Addr} {pn : List (Addr × Obj)} {pos p : Pos} {t : Atm} {ts : List Atm} {e : Expr} {es : List Expr}
theorem h_pay (T : XfC X.K (He.ga X.K c0)) (hno : PySem.W.findIn X.K (.ref (He.ga X.K c0)) (fo c0) = some none) (hz : Zc cls d oe) (hf : ∃ vs, oe.data = .fields vs) (he : PE (X.suite a ((a, oe) :: pn)) (.Name n p) (tVar i)) :
    PE (X.suite a ((a, oe) :: pn)) (.Attribute (.Name n p) (fo c0) pos) (tAt X.K c0 i a cls d .pay) := PE_imp (pe_xf T hno hz hf he) fun s H Q ⟨O, m, M, x, dd, v, y, S, R, h1, h2, h3, h4, h5, h⟩ => by
  refine ⟨_, h1, rfl, h2, dd, _, v, h3, h4, by simp [List.lookup], h v ?_⟩
  obtain rfl : x = y := Option.some.inj h5
  exact R
theorem h_str {z : Str} {j} : PE (X.suite a ((a, oe) :: pn)) (.Constant (.str z) j pos) (tAt X.K c0 i a cls d (.con (.str z))) := PE_imp pe_str fun s H Q ⟨O, m, M, x, dd, v, y, S, R, h1, h2, h3, h4, h5, h⟩ => by
  obtain rfl : MV.str z = y := Option.some.inj h5
  exact h _ (.str z)
theorem hs_nil : PA (X.suite a ((a, oe) :: pn)) [] (tAts X.K c0 i a cls d []) := PA_imp pa_nil fun s H Q ⟨O, m, M, x, dd, v, y, S, R, h1, h2, h3, h4, h5, h⟩ => by
  obtain rfl : [] = y := Option.some.inj h5
  exact h _ .nil
theorem hs_cons (he : PE (X.suite a ((a, oe) :: pn)) e (tAt X.K c0 i a cls d t)) (hes : PA (X.suite a ((a, oe) :: pn)) es (tAts X.K c0 i a cls d ts)) (hst : starEach (e :: es) (X.suite a ((a, oe) :: pn)).env = (false, eval e (X.suite a ((a, oe) :: pn)).env) :: starEach es (X.suite a ((a, oe) :: pn)).env := by rfl) :
    PA (X.suite a ((a, oe) :: pn)) (e :: es) (tAts X.K c0 i a cls d (t :: ts)) := PA_imp (pa_cons he hes hst) fun s H Q ⟨O, m, M, x, dd, v, y, S, R, h1, h2, h3, h4, h5, h⟩ => by
  unfold mapO at h5
  cases q1 : t.val x with
  | none => rw [q1] at h5; cases h5
  | some y1 =>
    cases q2 : mapO (Atm.val x) ts with
    | none => rw [q1, q2] at h5; cases h5
    | some ys =>
      rw [q1, q2] at h5
      obtain rfl := Option.some.inj h5
      exact ⟨O, m, M, x, dd, v, y1, S, R, h1, h2, h3, h4, q1, fun u ru => ⟨O, m, M, x, dd, v, ys, S, R, h1, h2, h3, h4, q2, fun us rus => h _ (.cons ru rus)⟩⟩
theorem mapO_len {α β : Type} {f : α → Option β} : ∀ {xs : List α} {ys : List β}, mapO f xs = some ys → ys.length = xs.length
  | [], ys, h => by
    obtain rfl := Option.some.inj h
    rfl
  | x :: xs, ys, h => by
    unfold mapO at h
    cases q1 : f x with
    | none => rw [q1] at h; cases h
    | some y1 =>
      cases q2 : mapO f xs with
      | none => rw [q1, q2] at h; cases h
      | some ys' =>
        rw [q1, q2] at h
        obtain rfl := Option.some.inj h
        simp [mapO_len q2]
theorem hx_lst (hes : PA (X.suite a ((a, oe) :: pn)) es (tAts X.K c0 i a cls d ts)) (hl : ts.length ≤ 1000 := by decide) : PSs (X.suite a ((a, oe) :: pn)) [.Return (some (.List es p)) pos] (tHx X.K c0 i a cls d (.lst ts)) :=
  PSs_imp (pss_one (ps_ret (pe_lst hes))) fun D s H ⟨O, m, M, x, dd, v, y, S, R, h1, h2, h3, h4, h5, h⟩ => by
    simp only [Hx.val] at h5
    cases q : mapO (Atm.val x) ts with
    | none => rw [q] at h5; cases h5
    | some ys =>
      rw [q] at h5
      obtain rfl := Option.some.inj h5
      refine ⟨O, m, M, x, dd, v, ys, S, R, h1, h2, h3, h4, q, fun us rus => ⟨?_, fun pp hp => Fin.lst h S hp rus⟩⟩
      rw [rus.len, mapO_len q]
      exact Nat.le_of_lt (small1000 hl)
theorem hx_tup {k} (hes : PA (X.suite a ((a, oe) :: pn)) es (tAts X.K c0 i a cls d ts)) (hl : ts.length ≤ 1000 := by decide) : PSs (X.suite a ((a, oe) :: pn)) [.Return (some (.Tuple es k p)) pos] (tHx X.K c0 i a cls d (.tup ts)) :=
  PSs_imp (pss_one (ps_ret (pe_tup hes))) fun D s H ⟨O, m, M, x, dd, v, y, S, R, h1, h2, h3, h4, h5, h⟩ => by
    simp only [Hx.val] at h5
    cases q : mapO (Atm.val x) ts with
    | none => rw [q] at h5; cases h5
    | some ys =>
      rw [q] at h5
      obtain rfl := Option.some.inj h5
      refine ⟨O, m, M, x, dd, v, ys, S, R, h1, h2, h3, h4, q, fun us rus => ⟨?_, fun pp hp => Fin.tup h S hp rus⟩⟩
      rw [rus.len, mapO_len q]
      exact Nat.le_of_lt (small1000 hl)
theorem hx_one (he : PE (X.suite a ((a, oe) :: pn)) e (tAt X.K c0 i a cls d t)) : PSs (X.suite a ((a, oe) :: pn)) [.Return (some e) pos] (tHx X.K c0 i a cls d (.one t)) :=
  PSs_imp (pss_one (ps_ret he)) fun D s H ⟨O, m, M, x, dd, v, y, S, R, h1, h2, h3, h4, h5, h⟩ => ⟨O, m, M, x, dd, v, y, S, R, h1, h2, h3, h4, h5, fun u ru => h u H Ext.refl S ru⟩
end
/-! the same without the suite's own context -/
structure HA (X : Cx) (c0 : Str) (i : Nat) (e : Expr) (t : Atm) : Prop where
  run : ∀ (a : Addr) (oe : Obj) (cls : Value) (d : Option Addr) (pn : List (Addr × Obj)), Zc cls d oe → (∃ vs, oe.data = .fields vs) → PE (X.suite a ((a, oe) :: pn)) e (tAt X.K c0 i a cls d t)
structure HAs (X : Cx) (c0 : Str) (i : Nat) (es : List Expr) (ts : List Atm) : Prop where
  run : ∀ (a : Addr) (oe : Obj) (cls : Value) (d : Option Addr) (pn : List (Addr × Obj)), Zc cls d oe → (∃ vs, oe.data = .fields vs) → PA (X.suite a ((a, oe) :: pn)) es (tAts X.K c0 i a cls d ts)
structure HS (X : Cx) (c0 : Str) (i : Nat) (ss : List Stmt) (t : Hx) : Prop where
  run : ∀ (a : Addr) (oe : Obj) (cls : Value) (d : Option Addr) (pn : List (Addr × Obj)), Zc cls d oe → (∃ vs, oe.data = .fields vs) → PSs (X.suite a ((a, oe) :: pn)) ss (tHx X.K c0 i a cls d t)
section
variable {X : Cx} {c0 n f : Str} {i : Nat} {pos p : Pos} {t : Atm} {ts : List Atm} {e : Expr} {es : List Expr}
theorem ha_pay (T : XfC X.K (He.ga X.K c0)) (hno : PySem.W.findIn X.K (.ref (He.ga X.K c0)) f = some none) (hfo : fo c0 = f) (hN : X.N[i]? = some n := by rfl) (hv : Vis X.env.scope n := by first | exact Or.inl rfl | exact Or.inr (Or.inl rfl) | exact Or.inr (Or.inr rfl)) (hd : (n == ("__debug__" : Str)) = false := by decide)
    (hcd : (n == ("__classdict__" : Str)) = false := by decide) (hb : attributeBase (.Name n p) f X.env (eval (.Name n p) X.env) = eval (.Name n p) X.env := by rfl) : HA X c0 i (.Attribute (.Name n p) f pos) .pay := by
  subst hfo
  exact ⟨fun a oe cls d pn hz hf => PE_imp (pe_xf T hno hz hf (pe_var hN hv hd hcd) hb) fun s H Q ⟨O, m, M, x, dd, v, y, S, R, h1, h2, h3, h4, h5, h⟩ => by
    refine ⟨_, h1, rfl, h2, dd, _, v, h3, h4, by simp [List.lookup], h v ?_⟩
    obtain rfl : x = y := Option.some.inj h5
    exact R⟩
theorem ha_str {z : Str} {j} : HA X c0 i (.Constant (.str z) j pos) (.con (.str z)) := ⟨fun a oe cls d pn hz hf => h_str⟩
theorem has_nil : HAs X c0 i [] [] := ⟨fun a oe cls d pn hz hf => hs_nil⟩
theorem has_cons (he : HA X c0 i e t) (hes : HAs X c0 i es ts) (hst : starEach (e :: es) X.env = (false, eval e X.env) :: starEach es X.env := by rfl) : HAs X c0 i (e :: es) (t :: ts) := ⟨fun a oe cls d pn hz hf => hs_cons (he.run a oe cls d pn hz hf) (hes.run a oe cls d pn hz hf) hst⟩
theorem hst_lst (hes : HAs X c0 i es ts) (hl : ts.length ≤ 1000 := by decide) : HS X c0 i [.Return (some (.List es p)) pos] (.lst ts) := ⟨fun a oe cls d pn hz hf => hx_lst (hes.run a oe cls d pn hz hf) hl⟩
theorem hst_tup {k} (hes : HAs X c0 i es ts) (hl : ts.length ≤ 1000 := by decide) : HS X c0 i [.Return (some (.Tuple es k p)) pos] (.tup ts) := ⟨fun a oe cls d pn hz hf => hx_tup (hes.run a oe cls d pn hz hf) hl⟩
theorem hst_one (he : HA X c0 i e t) : HS X c0 i [.Return (some e) pos] (.one t) := ⟨fun a oe cls d pn hz hf => hx_one (he.run a oe cls d pn hz hf)⟩
end
/-! ### clauses -/
/-- what g.sub says is what the text's classes say -/
def SubOk (K : PySem.W.Frag) (sub : Str → Str → Option Bool) : Prop := ∀ c d b, sub c d = some b → PySem.W.exmOne K (.ref (He.ga K c)) (.ref (He.ga K d)) = some b
def MH (X : Cx) (W : WX) (g : Cfg) (hds : List ExceptHandler) (ch : CH) : Prop := ∃ l, HdsAs X hds l ∧ ∀ O m M H s na D c x d v, Sim X.K O m M H → RepV X.K (gr O m H) m v x → H d = some (.xd [(fo c, v)]) → PostS X.K O m H W na s D (evH g ch s.length c x M) → wManyA X.K W D l (.ref (He.ga X.K c)) (some d) s H
section
variable {X : Cx} {W : WX} {g : Cfg} {hds : List ExceptHandler} {h₀ : ExceptHandler} {ch : CH} {c0 n : Str} {i : Nat} {b₀ : Stmt} {suite body : List Stmt} {np pos pos' : Pos} {b : Hx} {na : Bool} {cb : CB}
theorem mh_nil : MH X W g [] .nil := ⟨[], .nil, fun O m M H s na D c x d v S R hd h => h s d v m H (fun _ => rfl) Ext.refl S R hd⟩
theorem mh_cons (hS : SubOk X.K g.sub) (h0 : ∀ c, g.sub c c0 = some true → c = c0) (hc : Gl X c0) (hm : X.mg c0 = some (.ref (He.ga X.K c0))) (hi : X.N[i]? = some n) (hln : X.env.kindOf n = some .local)
    (hsu : HS X c0 i (b₀ :: suite) b) (r : MH X W g hds ch) (hdb : (c0 == ("__debug__" : Str)) = false := by decide) :
    MH X W g (.ExceptHandler (some (.Name c0 np)) (some n) (b₀ :: suite) pos' :: hds) (.cons c0 i b ch) := by
  obtain ⟨l, hl, hw⟩ := r
  refine ⟨_, .cons (c := .ref (He.ga X.K c0)) (ts := fun a cls d => tHx X.K c0 i a cls d b) ⟨hc, hdb, .inl hm⟩ hi hln hsu.run hl, fun O m M H s na D c x d v S R hd h => ?_⟩
  simp only [evH] at h
  cases q : g.sub c c0 with
  | none => rw [q] at h; exact h.elim
  | some k =>
    rw [q] at h
    refine ⟨k, hS _ _ _ q, fun hk a ha => ?_, fun hk => ?_⟩
    · subst hk
      obtain rfl := h0 _ q
      dsimp only at h
      split at h
      · rename_i hlt
        cases q2 : b.val x with
        | none => rw [q2] at h; exact h.elim
        | some y =>
          rw [q2] at h
          exact ⟨O, m, M, x, d, v, y, S, R, by rw [List.getElem?_set]; simp [hlt], rfl, rfl, hd, q2, fun u H' e' S' r' => h u m H' e' S' r'⟩
      · exact h.elim
    · subst hk
      exact hw O m M H s na D c x d v S R hd h
theorem s_try (hs : X.stack = X.env :: X.outer) (hf : X.env.frame = some X.env.locals) (hN : X.N.Nodup) (tk : Takes X W)
    (hb : ∀ (W : WX) (pn : List (Addr × Obj)) (xe : Value → Shared → Prop), Takes (X.tr pn xe) W → PassesOwn (model X.prog X.w) X.A X.env xe → MB (X.tr pn xe) W g true body cb)
    (hh : MH X W g (h₀ :: hds) ch) : MS X W g na (.Try body (h₀ :: hds) [] [] pos) (.tryA cb ch) := by
  obtain ⟨l, hl, hw⟩ := hh
  refine PS_imp (ps_try_manyA (tb := fun W => tBl X.K W g true cb) hs hf hN tk hb hl) fun D s H ⟨O, m, M, r, S, R, h⟩ => ?_
  simp only [evS] at h
  refine ⟨O, m, M, r, S, R, ?_⟩
  cases q : evB g cb r M with
  | stuck => rw [q] at h; exact h.elim
  | ok w M' =>
    rw [q] at h
    cases w with
    | next r' => exact fun s' m' H' hs' e' S' R' => h s' m' H' (fun _ => hs' rfl) e' S' R'
    | brk r' => exact fun s' m' H' hs' e' S' R' => h s' m' H' (fun _ => hs' rfl) e' S' R'
    | cnt r' => exact fun s' m' H' hs' e' S' R' => h s' m' H' (fun _ => hs' rfl) e' S' R'
    | ret x => exact h
  | exn c x M' =>
    rw [q] at h
    intro s' d v m' H' hs' e' S' r' hd
    obtain rfl := hs' rfl
    have h1 : PostS X.K O m' H' W na s' D (evH g ch s'.length c x M') := by
      rw [R.1]
      exact PostS.later h e' fun _ => rfl
    exact hw O m' M' H' s' na D c x d v S' r' hd h1
end
end Mini

set_option Elab.async false
set_option linter.all false
set_option maxRecDepth 100000
set_option maxHeartbeats 2000000
/-! MiU: dicts with tuples as keys; lists turned; a def held by a variable; except without a name. -/
namespace Mini
open PySem L2 PySem.Spec PyProof.Rows
/-! ### methods of dicts with two arguments -/
def tD2 (r : V → List V → Hp → VK → Prop) (td ty tx : TE) : TE := fun σ H Q => td σ H fun x H1 => ∃ a, x = .ref a ∧ IsD H1 a ∧ ty σ H1 fun y H2 => tx σ H2 fun z H3 => r x [y, z] H3 Q
section
variable {X : Cx} {o e f : Expr} {td ty tx : TE} {apos cpos : Pos} {name : Str} {id : String} {r : V → List V → Hp → VK → Prop}
theorem pe_d2 (slot : Slot "dict" name id) (hty : typeOf (.builtin id) = pure (.type "method_descriptor")) (hm : MtR X id r) (ho : PE X o td) (he : PE X e ty) (hf : PE X f tx) (m : M2 X o name apos e f cpos) : PE X (.Call (.Attribute o name apos) [e, f] [] cpos) (tD2 r td ty tx) := by
  refine ⟨fun pins s σ H Q I h => ?_⟩
  refine wpAny_Call_method m.base m.few m.line PySem.F.plainAttrs_dict slot hty (thn (ho.run pins s σ H _ I h) fun u s1 ⟨x, H1, I1, rx, a, ex, d, q1⟩ => ?_)
  subst ex
  obtain rfl : u = Value.ref a := rx
  obtain ⟨t1, t2, _⟩ := isD_at I1 d
  refine ⟨t1, t2, ?_⟩
  rw [m.trees]
  refine Calls.callWith_builtin rfl (Calls.evalArgs_plain (Calls.spliced_cons (thn (he.run pins s1 σ H1 _ I1 q1) fun iv s2 ⟨y, H2, I2, ry, q2⟩ =>
    Calls.spliced_cons (thn (hf.run pins s2 σ H2 _ I2 q2) fun fv s3 ⟨z, H3, I3, rz, q3⟩ => Calls.spliced_nil ?_))))
  exact hm pins s3 σ H3 (.ref a) [y, z] (.ref a) [iv, fv] Q I3 rfl (.cons ry (.cons rz .nil)) q3
end
def rSetdT : V → List V → Hp → VK → Prop := fun x xs H Q => ∃ (a : Addr) (kvs : List (List L2.Key × V)) (k : List L2.Key) (b : Addr) (d : V), x = .ref a ∧ xs = [.ref b, d] ∧ H a = some (.dT kvs) ∧ H b = some (.tup (k.map kV)) ∧
  (∀ v, valV kvs k = some v → Q v H) ∧ (valV kvs k = none → kvs.length < sizeLine ∧ Q d (upd H a (.dT (putK kvs k d))))
section
variable {X : Cx}
theorem mt_setdT (hu : X.A.units + 1 < cLine) : MtR X "dict.setdefault" rSetdT := by
  intro pins s σ H x xs v us Q I rx rxs h
  obtain ⟨a, kvs, k, b, d, rfl, rfl, ha, hb, q1, q2⟩ := h
  cases rx
  obtain ⟨u1, u2, rfl, r1, r2⟩ := vals2 rxs
  cases r1
  obtain ⟨z, hd, xs', rel, dd⟩ := dt_of I.hok ha
  have hz : xs'.length ≤ sizeLine := by rw [← Paired.length rel]; exact z
  refine call_setdefault_heap (knd := tupleKind (mixKind X.prog X.w)) (k := k) (hsz := hz) (tupleKind_room_in1 hu) (key_of I.hok hb) hd dd (fun p hp => ?_) fun hn h' dd' hs => ?_
  · have r := rel.val k
    rw [hp] at r
    cases ev : valV kvs k with
    | none =>
      rw [ev] at r
      exact (show False from r).elim
    | some v0 =>
      rw [ev] at r
      exact ⟨v0, H, I.tok _, r, q1 v0 ev⟩
  · have r := rel.val k
    rw [hn] at r
    cases ev : valV kvs k with
    | some v0 =>
      rw [ev] at r
      exact (show False from r).elim
    | none =>
      have hl := (q2 ev).1
      have hl2 : (putK kvs k d).length ≤ sizeLine := by have := length_putK kvs k d; omega
      obtain ⟨q, es, ep, hq, h2, h3, h4, _, h5⟩ := dd'
      refine ⟨d, upd H a (.dT (putK kvs k d)), d_write (ob := .dT (putK kvs k d)) I (by rw [ha]; exact True.intro) hs ⟨q, hq⟩ ⟨hl2, hd, _, (rel.put k hb r2).keeps fun c ys ec => ?_, q, es, ep, hq, h2, h3, h4, h5⟩, r2, (q2 ev).2⟩
      rw [upd_ne (ne_of ec ha (fun z => nomatch z))]
      exact ec
end
/-! ### a display of one pair, the key a tuple -/
def tDisp1 (tk tv : TE) : TE := fun σ H Q => ∀ p, H p = none → tk σ (upd H p (.dT [])) fun x H1 => tv σ H1 fun y H2 => ∃ (q : List L2.Key) (b : Addr), x = .ref b ∧ H2 b = some (.tup (q.map kV)) ∧ H2 p = some (.dT []) ∧ Q (.ref p) (upd H2 p (.dT [(q, y)]))
theorem pe_disp1 {X : Cx} {pos : Pos} {k v : Expr} {tk tv : TE} (hu : X.A.units + 1 < cLine) (hk : PE X k tk) (hv : PE X v tv) : PE X (.Dict [some k] [v] pos) (tDisp1 tk tv) := by
  refine ⟨fun pins s σ H Q I q => ?_⟩
  have hn := I.hok.fresh (Nat.le_refl s.heap.objs.size)
  have I1 := I.laid (a := s.heap.objs.size) (o := .dT []) (h' := s.heap.push { cls := .type "dict", data := .dict #[] }) (t' := s.toks) (fun _ _ q => Heap.get?_push_of_some _ q) (Nat.le_refl _) (dt_empty s.heap I.big)
  have hz := zip_pairTrees [some k] [v] X.env pos rfl rfl
  rw [arm_eval_Dict, hz, dictDisplay_pairs _ (by intro z; cases z) (by show 1 < 17; decide)]
  refine wpAny_bind (wpAny_standAt (wpAny_bind (wpAny_subDictH (knd := tupleKind (mixKind X.prog X.w)) (show X.A.units < cLine by omega) (by show 1 ≤ 15; decide) ?_)))
  refine pairTrees_cons_walk (thn (hk.run pins _ σ _ _ I1 (q _ hn)) fun kv s1 ⟨x, H1, I2, rx, q1⟩ => thn (hv.run pins s1 σ _ _ I2 q1) fun vv s2 ⟨y, H2, I3, ry, qq, b, ex, hb, hp, q2⟩ => pairTrees_nil_walk ?_)
  subst ex
  obtain rfl : kv = Value.ref b := rx
  obtain ⟨z, hd, xs0, rel, dd⟩ := dt_of I3.hok hp
  cases rel
  refine ⟨[(qq, b, vv)], ⟨rfl, rfl, key_of I3.hok hb, trivial⟩, dd, fun h' tk' dd' hs => wpAny_pure ⟨.ref s.heap.objs.size, upd H2 s.heap.objs.size (.dT [(qq, y)]), ?_, rfl, q2⟩⟩
  obtain ⟨o, es, ep, hq, h2, h3, h4, h5, h6⟩ := dd'
  refine d_write (ob := .dT [(qq, y)]) I3 (by rw [hp]; exact True.intro) hs ⟨o, hq⟩ ⟨Nat.le_of_lt (small1000 (by decide : 1 ≤ 1000)), hd, [(qq, b, vv)], .cons ⟨rfl, ?_, ry⟩ .nil, o, es, ep, hq, h2, h3, h4, h6⟩
  rw [upd_ne (ne_of hb hp (fun z => nomatch z))]
  exact hb
/-! ### the small interpreter's rules -/
theorem RepL.reverse {K : PySem.W.Frag} {G : Hp} {m : List Addr} : ∀ {vs : List V} {xs : List MV}, RepL K G m vs xs → RepL K G m vs.reverse xs.reverse
  | [], [], _ => .nil
  | _ :: _, _ :: _, .cons h h' => by
    rw [List.reverse_cons, List.reverse_cons]
    exact (RepL.reverse h').append (.cons h .nil)
theorem keys_rep {K : PySem.W.Frag} {G : Hp} {m : List Addr} : ∀ {vs : List V} {xs : List MV} {q : List Key}, RepL K G m vs xs → keysOf xs = some q → vs = q.map kV
  | [], [], q, _, e => by
    cases e
    rfl
  | v :: vs, x :: xs, q, .cons h h', e => by
    unfold keysOf mapO at e
    cases e1 : keyOf x with
    | none => rw [e1] at e; cases e
    | some k =>
      rw [e1] at e
      cases e2 : mapO keyOf xs with
      | none => rw [e2] at e; cases e
      | some ks =>
        rw [e2] at e
        cases e
        rw [List.map_cons, key_rep h e1, keys_rep (xs := xs) h' e2]
theorem keyT_rep {K : PySem.W.Frag} {O m : List Addr} {H : Hp} {v : V} {x : MV} {q : List Key} (r : RepV K (gr O m H) m v x) (e : keyT x = some q) : ∃ b, v = .ref b ∧ H b = some (.tup (q.map kV)) := by
  cases x with
  | tup xs =>
    obtain ⟨b, vs, rfl, h1, h2⟩ := tup_at r
    refine ⟨b, rfl, ?_⟩
    rw [h1, keys_rep h2 e]
  | _ => cases e
theorem dct_of {K : PySem.W.Frag} {O m : List Addr} {M : Mem} {H : Hp} {v : V} {x : MV} {kvs : List (List Key × MV)} (S : Sim K O m M H) (r : RepV K (gr O m H) m v x) (e : dctV M x = some kvs) : ∃ n a ps, x = .ref n ∧ v = .ref a ∧ M[n]? = some (.dct kvs) ∧ m[n]? = some a ∧ H a = some (.dT ps) ∧ RepT K (gr O m H) m ps kvs := by
  cases x with
  | ref n =>
    unfold dctV at e
    simp only at e
    cases q : M[n]? with
    | none => rw [q] at e; cases e
    | some c =>
      rw [q] at e
      cases c with
      | dct ks =>
        cases e
        cases r with
        | ref h1 =>
          obtain ⟨a, h2, ps, h3, h4⟩ := S.cel n _ q
          rw [h1] at h2
          cases h2
          exact ⟨n, _, ps, rfl, rfl, q, h1, h3, h4⟩
      | _ => cases e
  | _ => cases e
section
variable {X : Cx} {W : WX} {g : Cfg} {a b c e f o : Expr} {es rest : List Expr} {ca cb cc ce cf co : CE} {cs : CL} {pos p apos p1 p2 p3 : Pos} {k : Nat}
theorem m_rev {j} (ha : ME X W g a ca) : ME X W g (.Subscript a (.Slice none none (some (.UnaryOp .USub (.Constant (.int 1) j p1) p2)) p3) pos) (.rev ca) := PE_imp (pe_revL ha) fun s H Q ⟨O, m, M, r, S, R, h⟩ => by
  simp only [evE] at h
  refine ⟨O, m, M, r, S, R, h.bindE.imp fun v H1 ⟨x, m1, M1, e1, S1, r1, h1⟩ => ?_⟩
  obtain ⟨z, ez, fin⟩ := h1.opt
  obtain ⟨xs, ex, rfl⟩ := map_some ez
  obtain ⟨b, vs, rfl, hb, rl⟩ := asL_of S1 r1 ex
  exact ⟨b, vs, rfl, SqL.of hb, fun p hp => fin.lst S1 hp rl.reverse⟩
theorem m_dix (hu : X.A.units + 1 < cLine) (ha : ME X W g a ca) (hb : ME X W g b cb) (hs : NoSl b) : ME X W g (.Subscript a b pos) (.dix ca cb) := PE_imp (pe_dget hu ha hb hs) fun s H Q ⟨O, m, M, r, S, R, h⟩ => by
  simp only [evE] at h
  refine ⟨O, m, M, r, S, R, h.bindE.imp fun v H1 ⟨x, m1, M1, e1, S1, r1, h1⟩ => ?_⟩
  refine ⟨O, m1, M1, r, S1, R.ext e1, h1.bindE.imp fun w H2 ⟨y, m2, M2, e2, S2, r2, h2⟩ => ?_⟩
  obtain ⟨z, ez, fin⟩ := h2.opt
  obtain ⟨kvs, q1, ez⟩ := bind_some ez
  obtain ⟨q, q2, q3⟩ := bind_some ez
  obtain ⟨n, a', ps, rfl, rfl, hn, hm, ha', rt⟩ := dct_of S2 (r1.ext e2) q1
  obtain ⟨b', rfl, hb'⟩ := keyT_rep r2 q2
  rcases rt.look (k := q) with ⟨_, l2⟩ | ⟨v', x', l1, l2, l3⟩
  · rw [l2] at q3; cases q3
  · rw [l2] at q3
    cases q3
    refine ⟨a', v', rfl, ?_, fin.here S2 l3⟩
    rw [← l1]
    exact DGet.t ha' hb'
theorem rec_dct {M : Mem} {x : MV} (h : (dctV M x).isSome = true) : ∃ kvs, dctV M x = some kvs := Option.isSome_iff_exists.mp h
theorem m_popd (hu : X.A.units + 1 < cLine) (ho : ME X W g o co) (he : ME X W g e ce) (hf : ME X W g f cf) (m : M2 X o "pop" apos e f pos) : ME X W g (.Call (.Attribute o "pop" apos) [e, f] [] pos) (.bmt .popd co (.cons ce (.cons cf .nil))) :=
  PE_imp (pe_d2 PySem.F.slot_dict_pop PySem.F.type_dict_pop (L2.DX.mt_popT hu) ho he hf m) fun s H Q ⟨O, m, M, r, S, R, h⟩ => by
    simp only [evE] at h
    refine ⟨O, m, M, r, S, R, h.bindE.imp fun v H1 ⟨x, m1, M1, e1, S1, r1, h1⟩ => ?_⟩
    dsimp only at h1
    split at h1
    · rename_i hr
      obtain ⟨kvs, hk⟩ := rec_dct hr
      obtain ⟨n, a', ps, rfl, rfl, hn, hm, ha', rt⟩ := dct_of S1 r1 hk
      simp only [evL] at h1
      rw [Res.assoc] at h1
      refine ⟨a', rfl, .inr ⟨ps, .inl ha'⟩, O, m1, M1, r, S1, R.ext e1, h1.bindE.imp fun w H2 ⟨y, m2, M2, e2, S2, r2, h2⟩ => ?_⟩
      dsimp only at h2
      rw [Res.assoc, Res.assoc] at h2
      refine ⟨O, m2, M2, r, S2, (R.ext e1).ext e2, h2.bindE.imp fun u H3 ⟨z, m3, M3, e3, S3, r3, h3⟩ => ?_⟩
      simp only [Res.bind_ok] at h3
      have r1' := (r1.ext e2).ext e3
      cases qc : M3[n]? with
      | none => simp only [bmtV, qc] at h3; exact h3.elim
      | some c =>
        cases c with
        | lst _ => simp only [bmtV, qc] at h3; exact h3.elim
        | ins _ _ => simp only [bmtV, qc] at h3; exact h3.elim
        | dct kvs3 =>
          cases q : keyT y with
          | none => simp only [bmtV, qc, q] at h3; exact h3.elim
          | some k =>
            simp only [bmtV, qc, q] at h3
            obtain ⟨n', a3, ps3, en, ea, hn3, hm3, ha3, rt3⟩ := dct_of S3 r1' (show dctV M3 (.ref n) = some kvs3 by simp only [dctV, qc])
            cases en
            cases ea
            obtain ⟨b', rfl, hb'⟩ := keyT_rep (r2.ext e3) q
            refine ⟨a', ps3, k, b', u, rfl, rfl, ha3, hb', fun v' hv => ?_, fun hv => ?_⟩
            · rcases rt3.look (k := k) with ⟨l1, l2⟩ | ⟨v2, x2, l1, l2, l3⟩
              · rw [l1] at hv; cases hv
              · rw [l1] at hv
                cases hv
                rw [l2] at h3
                refine h3 _ m3 _ (Ext.write hm3) (S3.write hm3 ⟨_, upd_same, ?_⟩) ?_
                · rw [gr_write (List.mem_of_getElem? hm3)]
                  exact rt3.drop k
                · rw [gr_write (List.mem_of_getElem? hm3)]
                  exact l3
            · rcases rt3.look (k := k) with ⟨l1, l2⟩ | ⟨v2, x2, l1, l2, l3⟩
              · rw [l2] at h3
                exact h3 u m3 H3 Ext.refl S3 r3
              · rw [l1] at hv; cases hv
    · exact h1.elim
theorem m_setd (hu : X.A.units + 1 < cLine) (ho : ME X W g o co) (he : ME X W g e ce) (hf : ME X W g f cf) (m : M2 X o "setdefault" apos e f pos) : ME X W g (.Call (.Attribute o "setdefault" apos) [e, f] [] pos) (.bmt .setd co (.cons ce (.cons cf .nil))) :=
  PE_imp (pe_d2 PySem.F.slot_dict_setdefault PySem.F.type_dict_setdefault (mt_setdT hu) ho he hf m) fun s H Q ⟨O, m, M, r, S, R, h⟩ => by
    simp only [evE] at h
    refine ⟨O, m, M, r, S, R, h.bindE.imp fun v H1 ⟨x, m1, M1, e1, S1, r1, h1⟩ => ?_⟩
    dsimp only at h1
    split at h1
    · rename_i hr
      obtain ⟨kvs, hk⟩ := rec_dct hr
      obtain ⟨n, a', ps, rfl, rfl, hn, hm, ha', rt⟩ := dct_of S1 r1 hk
      simp only [evL] at h1
      rw [Res.assoc] at h1
      refine ⟨a', rfl, .inr ⟨ps, .inl ha'⟩, O, m1, M1, r, S1, R.ext e1, h1.bindE.imp fun w H2 ⟨y, m2, M2, e2, S2, r2, h2⟩ => ?_⟩
      dsimp only at h2
      rw [Res.assoc, Res.assoc] at h2
      refine ⟨O, m2, M2, r, S2, (R.ext e1).ext e2, h2.bindE.imp fun u H3 ⟨z, m3, M3, e3, S3, r3, h3⟩ => ?_⟩
      simp only [Res.bind_ok] at h3
      have r1' := (r1.ext e2).ext e3
      cases qc : M3[n]? with
      | none => simp only [bmtV, qc] at h3; exact h3.elim
      | some c =>
        cases c with
        | lst _ => simp only [bmtV, qc] at h3; exact h3.elim
        | ins _ _ => simp only [bmtV, qc] at h3; exact h3.elim
        | dct kvs3 =>
          cases q : keyT y with
          | none => simp only [bmtV, qc, q] at h3; exact h3.elim
          | some k =>
            simp only [bmtV, qc, q] at h3
            obtain ⟨n', a3, ps3, en, ea, hn3, hm3, ha3, rt3⟩ := dct_of S3 r1' (show dctV M3 (.ref n) = some kvs3 by simp only [dctV, qc])
            cases en
            cases ea
            obtain ⟨b', rfl, hb'⟩ := keyT_rep (r2.ext e3) q
            rcases rt3.look (k := k) with ⟨l1, l2⟩ | ⟨v2, x2, l1, l2, l3⟩
            · rw [l2] at h3
              dsimp only at h3
              split at h3
              · rename_i ym eq
                obtain ⟨hz, eq⟩ := ite_some eq
                cases eq
                refine ⟨a', ps3, k, b', u, rfl, rfl, ha3, hb', fun v' hv => ?_, fun hv => ⟨by rw [rt3.len]; exact hz, ?_⟩⟩
                · rw [l1] at hv; cases hv
                · refine h3 u m3 _ (Ext.write hm3) (S3.write hm3 ⟨_, upd_same, ?_⟩) ?_
                  · rw [gr_write (List.mem_of_getElem? hm3)]
                    exact rt3.put r3 l1 l2
                  · rw [gr_write (List.mem_of_getElem? hm3)]
                    exact r3
              · exact h3.elim
            · rw [l2] at h3
              dsimp only at h3
              refine ⟨a', ps3, k, b', u, rfl, rfl, ha3, hb', fun v' hv => ?_, fun hv => ?_⟩
              · rw [l1] at hv
                cases hv
                exact h3 v2 m3 H3 Ext.refl S3 l3
              · rw [l1] at hv; cases hv
    · exact h1.elim
theorem m_dd1 (hu : X.A.units + 1 < cLine) (ha : ME X W g a ca) (hb : ME X W g b cb) : ME X W g (.Dict [some a] [b] pos) (.dd1 ca cb) := PE_imp (pe_disp1 hu ha hb) fun s H Q ⟨O, m, M, r, S, R, h⟩ p hp => by
  simp only [evE] at h
  have S0 : Sim X.K O (m ++ [p]) (M ++ [.dct []]) (upd H p (.dT [])) := S.cell hp ⟨[], upd_same, .nil⟩
  have e0 : Ext m H (m ++ [p]) (upd H p (.dT [])) := Ext.cell S hp
  have hmp : (m ++ [p])[M.length]? = some p := by rw [← S.len]; simp
  refine ⟨O, m ++ [p], _, r, S0, R.ext e0, (h.later e0).bindE.imp fun v H1 ⟨x, m1, M1, e1, S1, r1, h1⟩ => ?_⟩
  refine ⟨O, m1, M1, r, S1, (R.ext e0).ext e1, h1.bindE.imp fun w H2 ⟨y, m2, M2, e2, S2, r2, h2⟩ => ?_⟩
  dsimp only at h2
  have hmp2 := pre_get e2.pre (pre_get e1.pre hmp)
  split at h2
  · rename_i q eq1 eq2
    obtain ⟨b', rfl, hb'⟩ := keyT_rep (r1.ext e2) eq1
    obtain ⟨p', h3, ps, h4, h5⟩ := S2.cel _ _ eq2
    rw [hmp2] at h3
    cases h3
    cases h5
    refine ⟨q, b', rfl, hb', h4, h2 (.ref p) m2 _ (Ext.write hmp2) (S2.write hmp2 ⟨_, upd_same, ?_⟩) (.ref hmp2)⟩
    rw [gr_write (List.mem_of_getElem? hmp2)]
    exact .cons r2 .nil
  · exact h2.elim
/-- a call of the def f that a variable holds -/
theorem m_cav {fa : Addr} {fd : FuncData} {ps : List Str} {f : Str} {x : Str} (i : Nat) (F : FnOk X.prog X.w X.K X.mg X.base (L2.CX X.prog X.w) k fa fd ps (spF X.K g.call (f, none))) (hr : Room k X.A) (tk : Takes X W) (hfa : fa = He.ga X.K f) (hk : PySem.W.keepIn X.K (.ref fa) = true) (hb : Binds X.K fd ps [])
    (ha : MA X W g (e :: es) cs) (hN : X.N[i]? = some x := by rfl) (hv : Vis X.env.scope x := by first | exact Or.inl rfl | exact Or.inr (Or.inl rfl) | exact Or.inr (Or.inr rfl)) (hdb : (x == ("__debug__" : Str)) = false := by decide) (hcd : (x == ("__classdict__" : Str)) = false := by decide) (he : starEach (e :: es) X.env = (false, eval e X.env) :: starEach es X.env := by rfl) (hpl : (backTo pos (starEach es X.env)).any (·.1) = false := by rfl) :
    ME X W g (.Call (.Name x p) (e :: es) [] pos) (.cav f (.var i) cs) := by
  refine ⟨fun pins s σ H Q I h => ?_⟩
  obtain ⟨O, m, M, r, S, R, h⟩ := h
  simp only [evE] at h
  cases q : r[i]? with
  | none => rw [q] at h; exact h.elim
  | some ox =>
    cases ox with
    | none => rw [q] at h; exact h.elim
    | some z =>
      rw [q] at h
      simp only [Res.bind_ok] at h
      cases z with
      | glo y =>
        dsimp only at h
        split at h
        · rename_i hy
          subst hy
          obtain ⟨v, hv1, hv2⟩ := R.2 i _ q
          cases hv2
          subst hfa
          refine wpAny_Call_Name_kw (thn ((pe_var (pos := p) hN hv hdb hcd).run pins s σ H (fun v H1 => v = .ref (He.ga X.K y) ∧ H1 = H) I ⟨.ref (He.ga X.K y), hv1, rfl, rfl⟩) fun u s1 ⟨v, H1, I1, r1, q1⟩ => ?_)
          obtain ⟨rfl, rfl⟩ := q1
          cases r1
          refine PySem.W.callWith_K (h₀ := X.base) I.ok.mod.kin hk (thn (ha.run pos pins s1 σ _ _ I1 ⟨O, m, M, r, S, R, h.bindL⟩) fun us s2 ⟨vs, H2, I2, rr, xs, m1, M1, e1, S1, r1, h1⟩ => ⟨I2.kIn, ?_⟩) he hpl
          exact run_fnSD (E := fun σ => WE W σ) F hr hb .nil (passAt tk σ) I2 rr ⟨O, m1, M1, xs, S1, by rw [List.append_nil]; exact r1, h1.wish⟩
        · exact h.elim
      | _ => exact h.elim
end
/-- a def's name as a value -/
theorem m_fun {X : Cx} {W : WX} {g : Cfg} {x : Str} {pos : Pos} (hg : Gl X x) (hm : X.mg x = some (.ref (He.ga X.K x))) (hd : (x == ("__debug__" : Str)) = false := by decide) : ME X W g (.Name x pos) (.con (.glo x)) := by
  refine ⟨fun pins s σ H Q I h => ?_⟩
  obtain ⟨O, m, M, r, S, R, h⟩ := h
  simp only [evE] at h
  exact ld_glob I hg hm ⟨.ref (He.ga X.K x), H, I, rfl, h _ m H Ext.refl S (.glo x)⟩ hd
/-! ### except without a name -/
def MH0 (X : Cx) (W : WX) (g : Cfg) (hds : List ExceptHandler) (ch : CH) : Prop := ∃ l, HdsOk X hds l ∧ ∀ O m M H s na D c x d v, Sim X.K O m M H → RepV X.K (gr O m H) m v x → H d = some (.xd [(fo c, v)]) → PostS X.K O m H W na s D (evH g ch s.length c x M) → wMany X.K W D l (.ref (He.ga X.K c)) (some d) s H
section
variable {X : Cx} {W : WX} {g : Cfg} {hds : List ExceptHandler} {h₀ : ExceptHandler} {ch : CH} {c0 n : Str} {i : Nat} {b₀ : Stmt} {suite body : List Stmt} {np pos pos' p : Pos} {b : Hx} {na : Bool} {cb : CB}
theorem mh0_nil : MH0 X W g [] .nil := ⟨[], .nil, fun O m M H s na D c x d v S R hd h => h s d v m H (fun _ => rfl) Ext.refl S R hd⟩
theorem mh0_bl {j} {z : Bool} (hS : SubOk X.K g.sub) (hc : Gl X c0) (hm : X.mg c0 = some (.ref (He.ga X.K c0)))
    (r : MH0 X W g hds ch) (hdb : (c0 == ("__debug__" : Str)) = false := by decide) :
    MH0 X W g (.ExceptHandler (some (.Name c0 np)) none [.Return (some (.Constant (.bool z) j p)) pos] pos' :: hds) (.con0 c0 (.one (.con (.bl z))) ch) := by
  obtain ⟨l, hl, hw⟩ := r
  refine ⟨_, .cons (c := .ref (He.ga X.K c0)) (ts := fun a cls d => fun D σ H => D.rt (.bl z) H) ⟨hc, hdb, .inl hm⟩ (fun a oe cls d pn hz hf => PSs_imp (pss_one (ps_ret pe_bl)) fun D s H h => h) hl, fun O m M H s na D c x d v S R hd h => ?_⟩
  simp only [evH] at h
  cases q : g.sub c c0 with
  | none => rw [q] at h; exact h.elim
  | some k =>
    rw [q] at h
    refine ⟨k, hS _ _ _ q, fun hk a ha => ?_, fun hk => ?_⟩
    · subst hk
      exact h (.bl z) m H Ext.refl S (.bl z)
    · subst hk
      exact hw O m M H s na D c x d v S R hd h
theorem s_try0 (hs : X.stack = X.env :: X.outer) (hf : X.env.frame = some X.env.locals) (tk : Takes X W)
    (hb : ∀ (W : WX) (pn : List (Addr × Obj)) (xe : Value → Shared → Prop), Takes (X.tr pn xe) W → PassesOwn (model X.prog X.w) X.A X.env xe → MB (X.tr pn xe) W g true body cb)
    (hh : MH0 X W g (h₀ :: hds) ch) : MS X W g na (.Try body (h₀ :: hds) [] [] pos) (.tryA cb ch) := by
  obtain ⟨l, hl, hw⟩ := hh
  refine PS_imp (ps_try_many (tb := fun W => tBl X.K W g true cb) hs hf tk hb hl) fun D s H ⟨O, m, M, r, S, R, h⟩ => ?_
  simp only [evS] at h
  refine ⟨O, m, M, r, S, R, ?_⟩
  cases q : evB g cb r M with
  | stuck => rw [q] at h; exact h.elim
  | ok w M' =>
    rw [q] at h
    cases w with
    | next r' => exact fun s' m' H' hs' e' S' R' => h s' m' H' (fun _ => hs' rfl) e' S' R'
    | brk r' => exact fun s' m' H' hs' e' S' R' => h s' m' H' (fun _ => hs' rfl) e' S' R'
    | cnt r' => exact fun s' m' H' hs' e' S' R' => h s' m' H' (fun _ => hs' rfl) e' S' R'
    | ret x => exact h
  | exn c x M' =>
    rw [q] at h
    intro s' d v m' H' hs' e' S' r' hd
    obtain rfl := hs' rfl
    have h1 : PostS X.K O m' H' W na s' D (evH g ch s'.length c x M') := by
      rw [R.1]
      exact PostS.later h e' fun _ => rfl
    exact hw O m' M' H' s' na D c x d v S' r' hd h1
end
end Mini

set_option Elab.async false
set_option linter.all false
set_option maxRecDepth 100000
set_option maxHeartbeats 1000000
/-! MiK: a def of the text keeps what the small interpreter says of it. -/
namespace Mini
open PySem L2
section
variable {P : Program} {w : World} {K : PySem.W.Frag} {mg : Str → Option Value} {base : Heap}
theorem postE_out {O m : List Addr} {H : Hp} {E : XK} {s : St} {Q : VK} {R : Res Flw} (h : PostE K O m H (fun c d _ H => E c d H) [] Q (outF R)) : PostS K O m H (fun c d _ H => E c d H) false s { nx := fun _ H' => Q .non H', rt := Q } R := by
  cases R with
  | stuck => exact h
  | exn c x M' => exact fun s' d v m' H' _ e' S' r' q => h d v m' H' e' S' r' q
  | ok fl M' =>
    cases fl with
    | next r' => exact fun s' m' H' _ e' S' _ => h .non m' H' e' S' .non
    | ret x => exact fun v m' H' e' S' r' => h v m' H' e' S' r'
    | brk r' => exact (h : False).elim
    | cnt r' => exact (h : False).elim
theorem rep_start {G : Hp} {m : List Addr} {N : List Str} {vs : List V} {xs : List MV} {d : FD} (r : RepL K G m vs xs) (h1 : xs.length = d.np) (h2 : d.ns = N.length) : EnvR K G m (L2.start N vs) (start d xs) := by
  have hl := r.len
  refine ⟨?_, fun i x q => ?_⟩
  · simp only [L2.start, start, List.length_append, List.length_map, List.length_replicate, h2, ← h1, hl]
  · unfold start at q
    unfold L2.start
    by_cases c : i < xs.length
    · rw [List.getElem?_append_left (by rw [List.length_map]; exact c), List.getElem?_map] at q
      cases e : xs[i]? with
      | none => rw [e] at q; cases q
      | some y =>
        rw [e] at q
        obtain rfl : y = x := Option.some.inj (Option.some.inj q)
        obtain ⟨v, e2, r2⟩ := r.get e
        refine ⟨v, ?_, r2⟩
        rw [List.getElem?_append_left (by rw [List.length_map, hl]; exact c), List.getElem?_map, e2]
        rfl
    · rw [List.getElem?_append_right (by rw [List.length_map]; omega), List.getElem?_replicate] at q
      split at q
      · cases q
      · cases q
theorem spF_len {t : Env} {n : Nat} {key : FK} {d : FD} {ps : List Str} (ht : t.tab key = some d) (h1 : d.np = ps.length) : ∀ vs H Q E, spF K (evF t n) key vs H Q E → vs.length = ps.length := by
  intro vs H Q E ⟨O, m, M, xs, S, r, h⟩
  cases n with
  | zero => rw [evF_zero] at h; exact (h : False).elim
  | succ n =>
    simp only [evF_succ, ht] at h
    split at h
    · rename_i q
      rw [r.len, q, h1]
    · exact (h : False).elim
/-- no room: nothing is promised -/
theorem fn_zero {t : Env} {k : Nat} {f : Addr} {fd : FuncData} {ps : List Str} {key : FK} : FnOk P w K mg base (L2.CX P w) k f fd ps (spF K (evF t 0) key) where
  len := fun vs H Q E ⟨O, m, M, xs, S, r, h⟩ => by
    rw [evF_zero] at h
    exact (h : False).elim
  run := fun A outer s H args us vs Q E hr h0 hb hv ⟨O, m, M, xs, S, r, h⟩ => by
    rw [evF_zero] at h
    exact (h : False).elim
theorem fn_ok {x qual : Str} {params : Arguments} {body : List Stmt} {scope : Scope} {f : Addr} {fd : FuncData} {N ps : List Str} {k n : Nat} {t : Env} {key : FK} {d : FD} {dvs : List V} {kws : List (Str × V)} (F : FunD K x qual params body scope dvs kws f fd) (S : FnScope N ps scope) (ht : t.tab key = some d) (h1 : d.np = ps.length) (h2 : d.ns = N.length)
    (hbody : ∀ (cdv : Value) (A : Around) (outer : List PySem.Env) (s : Shared) (H : Hp) (E : XK), Room k (A.deeper (PyProof.Rows.envOfC qual scope s.heap.objs.size f cdv)) → Takes (cxOf (L2.CX P w) P w K mg base N qual scope f cdv A outer s H E) (fun c d _ H => E c d H) → PassesOwn (model P w) (cxOf (L2.CX P w) P w K mg base N qual scope f cdv A outer s H E).A (cxOf (L2.CX P w) P w K mg base N qual scope f cdv A outer s H E).env (cxOf (L2.CX P w) P w K mg base N qual scope f cdv A outer s H E).xe → MB (cxOf (L2.CX P w) P w K mg base N qual scope f cdv A outer s H E) (fun c d _ H => E c d H) (t.cfg n) false body d.body) :
    FnOk P w K mg base (L2.CX P w) (k + 1) f fd ps (spF K (evF t (n + 1)) key) := by
  refine F.ok S (spF_len ht h1) fun cdv A outer s H vs Q E hr ⟨O, m, M, xs, S0, r, h⟩ => ⟨_, hbody cdv A outer s H E hr (takes_of rfl rfl rfl rfl) (passes_of rfl), ?_⟩
  simp only [evF_succ, ht] at h
  split at h
  · rename_i q
    exact ⟨O, m, M, start d xs, S0, rep_start r q h2, postE_out (fin_of S0 h)⟩
  · exact (h : False).elim
end
end Mini

set_option Elab.async false
set_option linter.all false
set_option maxRecDepth 100000
set_option maxHeartbeats 1000000
/-! MiL: what the head tells. -/
namespace Mini
open PySem L2
/-! ### own errors -/
abbrev ErW : Type := Option (Str × Str × Arguments × FuncBody × Scope × Addr × Addr)
def erI (K : PySem.W.Frag) (c : Str) : Addr := He.ma K (He.ga K c) "__init__"
def erW (K : PySem.W.Frag) (c : Str) : ErW := match K.lookup (erI K c) with
  | some ⟨_, _, .func fd, _⟩ => some (fd.name, fd.qualname, fd.params, fd.body, fd.scope, fd.globals, fd.builtins)
  | _ => none
/-- an own error's class: its name, its __init__'s qualified name, where its text stands -/
structure ErD where
  c : Str
  q : Str
  p : List Pos
def ErD.pos (d : ErD) (i : Nat) : Pos := d.p.getD i ⟨0, 0, 0, 0⟩
def ErD.val (d : ErD) : ErW := some ("__init__", d.q, erArgs (d.pos 0) (d.pos 1), .stmts (erBody (d.pos 2) (d.pos 3) (d.pos 4) (d.pos 5) (d.pos 6) (d.pos 7) (d.pos 8) (d.pos 9) (d.pos 10) (d.pos 11)), erScope, mainGlobals, builtinsNs)
def clsB (C : Addr) : Option Obj → Bool
  | some ⟨.type t, _, .cls cd, sl⟩ => decide (t = "type") && (cd.hasDict && (!cd.hasDel && ((match cd.mro with
    | .ref D :: bm => decide (D = C) && HandSPX.refsVE bm
    | _ => false) && (match sl.toList with
    | [_, _, _, _, some (.builtin n), _] => decide (n = "ValueError.__new__")
    | _ => false))))
  | _ => false
theorem clsB_ok {K : PySem.W.Frag} {C : Addr} (h : clsB C (K.lookup C) = true) : ∃ nm q N bs bm sn sub ab col dd k0 k1 k2 k3 k5, K.lookup C = some (excClassObj nm q C N bs bm true sn sub ab col dd k0 k1 k2 k3 k5 "ValueError.__new__") ∧ HandSPX.refsVE bm = true := by
  cases e : K.lookup C with
  | none => rw [e] at h; cases h
  | some o =>
    obtain ⟨oc, od, dt, sl⟩ := o
    rw [e] at h
    cases oc with
    | type t =>
      cases dt with
      | cls cd =>
        obtain ⟨n1, n2, n3, n4, n5, n6, n7, n8, n9, n10, n11⟩ := cd
        simp only [clsB, Bool.and_eq_true, decide_eq_true_eq, Bool.not_eq_true'] at h
        obtain ⟨h1, h2, h3, h4, h5⟩ := h
        subst h1 h2 h3
        split at h4
        · rename_i D bm
          obtain ⟨h6, h7⟩ := Bool.and_eq_true_iff.mp h4
          obtain rfl := of_decide_eq_true h6
          split at h5
          · rename_i k0 k1 k2 k3 n k5 q
            obtain rfl := of_decide_eq_true h5
            obtain ⟨l⟩ := sl
            have q2 : l = [k0, k1, k2, k3, some (.builtin "ValueError.__new__"), k5] := q
            subst q2
            exact ⟨_, _, _, _, bm, _, _, _, _, _, k0, k1, k2, k3, k5, rfl, h7⟩
          · cases h5
        · cases h4
      | _ => cases h
    | _ => cases dt <;> cases h
def fnB (file : Str) (K : PySem.W.Frag) (C : Addr) : Option Obj → Bool
  | some ⟨_, _, .func fd, _⟩ => (match fd.defaults with
    | .none => true
    | _ => false) && ((match fd.closure with
    | [(x, cc)] => decide (x = ("__class__" : Str)) && (match K.lookup cc with
      | some ⟨_, _, .cell (some (.ref D)), _⟩ => decide (D = C)
      | _ => false)
    | _ => false) && (match fd.code with
    | .ref cda => PySem.W.codeIn K (.ref cda) fd.qualname && (match K.lookup cda with
      | some ⟨_, _, .fields vs, _⟩ => (match (vs[2]? : Option Value) with
        | some (.str f _) => file == f
        | _ => false)
      | _ => false)
    | _ => false))
  | _ => false
def ErD.ok (file : Str) (K : PySem.W.Frag) (d : ErD) : Bool :=
  let C := He.ga K d.c
  let f := erI K d.c
  clsB C (K.lookup C) && (decide (PySem.W.findIn K (.ref C) "__setattr__" = some (some (.builtin "object.__setattr__"))) && (decide (PySem.W.findIn K (.ref C) "__getattribute__" = some (some (.builtin "BaseException.__getattribute__"))) && (decide (PySem.W.findIn K (.ref C) "__getattr__" = some none) &&
  (decide (PySem.W.findIn K (.ref C) "told" = some none) && (decide (PySem.W.findIn K (.ref C) "__init__" = some (some (.ref f))) && (decide (PySem.W.typeIn K (.ref f) = some (.type "function")) && (PySem.W.keepIn K (.ref C) && (decide (PySem.W.subIn K (.ref C) (.type "BaseException") = some true) &&
  (decide (PySem.W.typeIn K (.ref C) = some (.type "type")) && (PySem.W.hasDictIn K C && (decide (PySem.W.ks_superIn K C C "__init__" = some (some (.builtin "ValueError.__init__"))) && (decide (PySem.W.subIn K (.ref C) (.type "ValueError") = some true) && (decide (PySem.W.mroIn K C (.ref C) = some true) &&
  (decide (PySem.W.nsIn K cStatics "thirdparty.any" = some none) && (((d.pos 4).endLine == (d.pos 6).line) && fnB file K C (K.lookup f))))))))))))))))
theorem ErD.er {P : Program} {K : PySem.W.Frag} {d : ErD} (h : d.ok (P.main.file : Str) K = true) (e : erW K d.c = d.val) : ErT P K (He.ga K d.c) (erI K d.c) := by
  simp only [ErD.ok, Bool.and_eq_true, decide_eq_true_eq] at h
  obtain ⟨h1, h2, h3, h4, h5, h6, h7, h8, h9, h10, h11, h12, h13, h14, h15, h16, h17⟩ := h
  refine ⟨clsB_ok h1, h2, h3, h4, h5, h6, h7, h8, h9, h10, h11, h12, h13, h14, h15, ?_⟩
  unfold erW at e
  cases q : K.lookup (erI K d.c) with
  | none => rw [q] at h17; cases h17
  | some o =>
    obtain ⟨oc, od, dt, osl⟩ := o
    rw [q] at e h17
    cases dt with
    | func fd =>
      obtain ⟨n1, n2, n3, n4, n5, n6, n7, n8, n9, n10, n11, n12, n13, n14, n15⟩ := fd
      simp only [ErD.val, Option.some.injEq, Prod.mk.injEq] at e
      obtain ⟨e1, e2, e3, e4, e5, e6, e7⟩ := e
      subst e1 e2 e3 e4 e5 e6 e7
      simp only [fnB, Bool.and_eq_true] at h17
      obtain ⟨g1, g2, g3⟩ := h17
      split at g1
      · split at g2
        · rename_i x cc
          obtain ⟨g4, g5⟩ := Bool.and_eq_true_iff.mp g2
          obtain rfl := of_decide_eq_true g4
          split at g5
          · rename_i cl cld D csl lc
            obtain rfl := of_decide_eq_true g5
            split at g3
            · rename_i cda
              obtain ⟨g6, g7⟩ := Bool.and_eq_true_iff.mp g3
              split at g7
              · rename_i ccl cdd vs ccs lcd
                split at g7
                · rename_i f tf e11
                  exact ⟨oc, od, n9, n10, n11, n12, cda, n14, osl, cc, d.q, d.pos 0, d.pos 1, d.pos 2, d.pos 3, d.pos 4, d.pos 5, d.pos 6, d.pos 7, d.pos 8, d.pos 9, d.pos 10, d.pos 11, ccl, cdd, vs, ccs, f, tf, cl, cld, csl, rfl, g6, lcd, e11, g7, h16, lc⟩
                · cases g7
              · cases g7
            · cases g3
          · cases g5
        · cases g2
      · cases g1
    | _ => cases h17
/-! errors over OverflowError -/
def ErD.valO (d : ErD) : ErW := some ("__init__", d.q, eoArgs (d.pos 0) (d.pos 1), .stmts (eoBody (d.pos 2) (d.pos 3) (d.pos 4) (d.pos 5) (d.pos 6) (d.pos 7) (d.pos 8) (d.pos 9) (d.pos 10) (d.pos 11)), eoScope, mainGlobals, builtinsNs)
def clsBO (C : Addr) : Option Obj → Bool
  | some ⟨.type t, _, .cls cd, sl⟩ => decide (t = "type") && (cd.hasDict && (!cd.hasDel && ((match cd.mro with
    | .ref D :: bm => decide (D = C) && HandSPX.refsOE bm
    | _ => false) && (match sl.toList with
    | [_, _, _, _, some (.builtin n), _] => decide (n = "OverflowError.__new__")
    | _ => false))))
  | _ => false
theorem clsBO_ok {K : PySem.W.Frag} {C : Addr} (h : clsBO C (K.lookup C) = true) : ∃ nm q N bs bm sn sub ab col dd k0 k1 k2 k3 k5, K.lookup C = some (excClassObj nm q C N bs bm true sn sub ab col dd k0 k1 k2 k3 k5 "OverflowError.__new__") ∧ HandSPX.refsOE bm = true := by
  cases e : K.lookup C with
  | none => rw [e] at h; cases h
  | some o =>
    obtain ⟨oc, od, dt, sl⟩ := o
    rw [e] at h
    cases oc with
    | type t =>
      cases dt with
      | cls cd =>
        obtain ⟨n1, n2, n3, n4, n5, n6, n7, n8, n9, n10, n11⟩ := cd
        simp only [clsBO, Bool.and_eq_true, decide_eq_true_eq, Bool.not_eq_true'] at h
        obtain ⟨h1, h2, h3, h4, h5⟩ := h
        subst h1 h2 h3
        split at h4
        · rename_i D bm
          obtain ⟨h6, h7⟩ := Bool.and_eq_true_iff.mp h4
          obtain rfl := of_decide_eq_true h6
          split at h5
          · rename_i k0 k1 k2 k3 n k5 q
            obtain rfl := of_decide_eq_true h5
            obtain ⟨l⟩ := sl
            have q2 : l = [k0, k1, k2, k3, some (.builtin "OverflowError.__new__"), k5] := q
            subst q2
            exact ⟨_, _, _, _, bm, _, _, _, _, _, k0, k1, k2, k3, k5, rfl, h7⟩
          · cases h5
        · cases h4
      | _ => cases h
    | _ => cases dt <;> cases h
def ErD.okO (file : Str) (K : PySem.W.Frag) (d : ErD) : Bool :=
  let C := He.ga K d.c
  let f := erI K d.c
  clsBO C (K.lookup C) && (decide (PySem.W.findIn K (.ref C) "__setattr__" = some (some (.builtin "object.__setattr__"))) && (decide (PySem.W.findIn K (.ref C) "__getattribute__" = some (some (.builtin "BaseException.__getattribute__"))) && (decide (PySem.W.findIn K (.ref C) "__getattr__" = some none) &&
  (decide (PySem.W.findIn K (.ref C) "most" = some none) && (decide (PySem.W.findIn K (.ref C) "__init__" = some (some (.ref f))) && (decide (PySem.W.typeIn K (.ref f) = some (.type "function")) && (PySem.W.keepIn K (.ref C) && (decide (PySem.W.subIn K (.ref C) (.type "BaseException") = some true) &&
  (decide (PySem.W.typeIn K (.ref C) = some (.type "type")) && (PySem.W.hasDictIn K C && (decide (PySem.W.ks_superIn K C C "__init__" = some (some (.builtin "OverflowError.__init__"))) && (decide (PySem.W.subIn K (.ref C) (.type "OverflowError") = some true) && (decide (PySem.W.mroIn K C (.ref C) = some true) &&
  (decide (PySem.W.nsIn K cStatics "thirdparty.any" = some none) && (((d.pos 4).endLine == (d.pos 6).line) && fnB file K C (K.lookup f))))))))))))))))
theorem ErD.eo {P : Program} {K : PySem.W.Frag} {d : ErD} (h : d.okO (P.main.file : Str) K = true) (e : erW K d.c = d.valO) : EoT P K (He.ga K d.c) (erI K d.c) := by
  simp only [ErD.okO, Bool.and_eq_true, decide_eq_true_eq] at h
  obtain ⟨h1, h2, h3, h4, h5, h6, h7, h8, h9, h10, h11, h12, h13, h14, h15, h16, h17⟩ := h
  refine ⟨clsBO_ok h1, h2, h3, h4, h5, h6, h7, h8, h9, h10, h11, h12, h13, h14, h15, ?_⟩
  unfold erW at e
  cases q : K.lookup (erI K d.c) with
  | none => rw [q] at h17; cases h17
  | some o =>
    obtain ⟨oc, od, dt, osl⟩ := o
    rw [q] at e h17
    cases dt with
    | func fd =>
      obtain ⟨n1, n2, n3, n4, n5, n6, n7, n8, n9, n10, n11, n12, n13, n14, n15⟩ := fd
      simp only [ErD.valO, Option.some.injEq, Prod.mk.injEq] at e
      obtain ⟨e1, e2, e3, e4, e5, e6, e7⟩ := e
      subst e1 e2 e3 e4 e5 e6 e7
      simp only [fnB, Bool.and_eq_true] at h17
      obtain ⟨g1, g2, g3⟩ := h17
      split at g1
      · split at g2
        · rename_i x cc
          obtain ⟨g4, g5⟩ := Bool.and_eq_true_iff.mp g2
          obtain rfl := of_decide_eq_true g4
          split at g5
          · rename_i cl cld D csl lc
            obtain rfl := of_decide_eq_true g5
            split at g3
            · rename_i cda
              obtain ⟨g6, g7⟩ := Bool.and_eq_true_iff.mp g3
              split at g7
              · rename_i ccl cdd vs ccs lcd
                split at g7
                · rename_i f tf e11
                  exact ⟨oc, od, n9, n10, n11, n12, cda, n14, osl, cc, d.q, d.pos 0, d.pos 1, d.pos 2, d.pos 3, d.pos 4, d.pos 5, d.pos 6, d.pos 7, d.pos 8, d.pos 9, d.pos 10, d.pos 11, ccl, cdd, vs, ccs, f, tf, cl, cld, csl, rfl, g6, lcd, e11, g7, h16, lc⟩
                · cases g7
              · cases g7
            · cases g3
          · cases g5
        · cases g2
      · cases g1
    | _ => cases h17
/-! ### the Hook -/
def asM (g : Addr → Option Obj) : Nat → List Addr
  | 0 => [mainGlobals, cStatics]
  | n + 1 => He.growD g (asM g n)
abbrev AlM : Type := He.AlT × Bool × List ErW × List ErW
def obsM (fa : List He.Fa) (fn : List He.DefD) (ts : List He.Tab) (er eo : List ErD) (file : Str) (ex : PySem.W.Frag → Bool) (K : PySem.W.Frag) : AlM := (He.obsT fa fn ts K, ((er.all fun d => d.ok file K) && (eo.all fun d => d.okO file K)) && ex K, er.map fun d => erW K d.c, eo.map fun d => erW K d.c)
def valM (fn : List He.DefD) (ts : List He.Tab) (er eo : List ErD) (w : World) : AlM := (He.valT fn ts w, true, er.map ErD.val, eo.map ErD.valO)
def SaysM (fa : List He.Fa) (fn : List He.DefD) (ts : List He.Tab) (er eo : List ErD) (file : Str) (ex : PySem.W.Frag → Bool) (w : World) (K : PySem.W.Frag) : Prop := obsM fa fn ts er eo file ex K = valM fn ts er eo w
def obsMG (n : Nat) (fa : List He.Fa) (fn : List He.DefD) (ts : List He.Tab) (er eo : List ErD) (file : Str) (ex : PySem.W.Frag → Bool) (g : Addr → Option Obj) : AlM := obsM fa fn ts er eo file ex (He.frG g (asM g n))
def hookM (n : Nat) (fa : List He.Fa) (fn : List He.DefD) (ts : List He.Tab) (er eo : List ErD) (file : Str) (ex : PySem.W.Frag → Bool) : PySem.W.Hook where
  α := AlM
  obs := fun s => obsMG n fa fn ts er eo file ex s.heap.get?
  val := fun w => valM fn ts er eo w
  says := fun w h => ∃ K : PySem.W.Frag, K.In h ∧ SaysM fa fn ts er eo file ex w K
  of := fun _ _ e => ⟨_, He.frG_in, e⟩
  keeps := fun _ _ _ ⟨K, hK, c⟩ k => ⟨K, PySem.W.Frag.In.keeps hK k, c⟩
theorem obsMG_eq {n : Nat} {fa : List He.Fa} {fn : List He.DefD} {ts : List He.Tab} {er eo : List ErD} {file : Str} {ex : PySem.W.Frag → Bool} {g : Addr → Option Obj} {s : Shared} (h : ∀ a, g a = s.heap.get? a) : obsMG n fa fn ts er eo file ex g = (hookM n fa fn ts er eo file ex).obs s := by
  have e : g = s.heap.get? := funext h
  rw [e] <;> rfl
section
variable {fa : List He.Fa} {fn : List He.DefD} {ts : List He.Tab} {er eo : List ErD} {file : Str} {ex : PySem.W.Frag → Bool} {w : World} {K : PySem.W.Frag}
theorem SaysM.t (c : SaysM fa fn ts er eo file ex w K) : He.SaysT fa fn ts w K := congrArg (fun z : AlM => z.1) c
theorem SaysM.d (c : SaysM fa fn ts er eo file ex w K) : He.SaysD fa fn K := c.t.d
theorem SaysM.b (c : SaysM fa fn ts er eo file ex w K) : (((er.all fun d => d.ok file K) && (eo.all fun d => d.okO file K)) && ex K) = true := congrArg (fun z : AlM => z.2.1) c
theorem SaysM.more (c : SaysM fa fn ts er eo file ex w K) : ex K = true := (Bool.and_eq_true_iff.mp c.b).2
theorem SaysM.errs {P : Program} (c : SaysM fa fn ts er eo (P.main.file : Str) ex w K) {d : ErD} (h : d ∈ er) : ErT P K (He.ga K d.c) (erI K d.c) := by
  have e : er.map (fun d => erW K d.c) = er.map ErD.val := congrArg (fun z : AlM => z.2.2.1) c
  obtain ⟨i, hi⟩ := List.getElem?_of_mem h
  have e2 : (er.map fun d => erW K d.c)[i]? = (er.map ErD.val)[i]? := by rw [e]
  rw [List.getElem?_map, List.getElem?_map, hi] at e2
  exact ErD.er (List.all_eq_true.mp (Bool.and_eq_true_iff.mp (Bool.and_eq_true_iff.mp c.b).1).1 d h) (Option.some.inj e2)
theorem SaysM.eovs {P : Program} (c : SaysM fa fn ts er eo (P.main.file : Str) ex w K) {d : ErD} (h : d ∈ eo) : EoT P K (He.ga K d.c) (erI K d.c) := by
  have e : eo.map (fun d => erW K d.c) = eo.map ErD.valO := congrArg (fun z : AlM => z.2.2.2) c
  obtain ⟨i, hi⟩ := List.getElem?_of_mem h
  have e2 : (eo.map fun d => erW K d.c)[i]? = (eo.map ErD.valO)[i]? := by rw [e]
  rw [List.getElem?_map, List.getElem?_map, hi] at e2
  exact ErD.eo (List.all_eq_true.mp (Bool.and_eq_true_iff.mp (Bool.and_eq_true_iff.mp c.b).1).2 d h) (Option.some.inj e2)
end
theorem EoT.xf {P : Program} {K : PySem.W.Frag} {C f : Addr} (T : EoT P K C f) : XfC K C := ⟨T.ga, T.gg, T.exC, T.hdC⟩
theorem ErT.xf {P : Program} {K : PySem.W.Frag} {C f : Addr} (T : ErT P K C f) : XfC K C := ⟨T.ga, T.gg, T.exC, T.hdC⟩
end Mini

set_option Elab.async false
set_option linter.all false
set_option maxRecDepth 100000
set_option maxHeartbeats 1000000
/-! MiM: what a law's text gives to the walk; the end. -/
namespace Mini
open PySem L2
def fdOf (K : PySem.W.Frag) (key : FK) : FuncData := match K.lookup (He.fAd K key) with
  | some ⟨_, _, .func fd, _⟩ => fd
  | _ => PySem.W.fnOf "" "" { posonlyargs := [], args := [], vararg := none, kwonlyargs := [], kw_defaults := [], kwarg := none, defaults := [] } [] { kind := .function, names := [], isGenerator := false, isCoroutine := false } .none .none .none .none none .none .none
theorem fdOf_eq {K : PySem.W.Frag} {key : FK} {x qual : Str} {params : Arguments} {body : List Stmt} {scope : Scope} {dvs : List V} {kws : List (Str × V)} {fd : FuncData} (F : FunD K x qual params body scope dvs kws (He.fAd K key) fd) : fd = fdOf K key := by
  obtain ⟨oc, od, dV, kV, doc, pm, an, cdv, ct, osl, h1, lk, _⟩ := F.ex
  unfold fdOf
  rw [lk]
/-- the lists that a law's text is told by -/
structure Tell where
  fn : List He.DefD
  glos : List Str
  frees : List Str
  clss : List Str
  mths : List (Str × Str)
  mks : List Str
  strT : List (Str × Str)
  intT : List (Str × Int)
  dcts : List (Str × List (Str × Str))
  noat : List (Str × Str)
  ers : List ErD
  file : Str
  eos : List ErD := []
  hnd : List Str := ers.map ErD.c
  anc : List Str := []
  isT : List Str := []
def Tell.fa (t : Tell) : List He.Fa := t.glos.map He.Fa.glo ++ (t.frees.map He.Fa.free ++ (t.clss.map He.Fa.cls ++ (t.mths.map (fun p => He.Fa.meth p.1 p.2) ++ (t.mks.map He.Fa.mkr ++ (t.strT.map (fun p => He.Fa.str p.1 p.2) ++ (t.intT.map (fun p => He.Fa.int p.1 p.2) ++ (t.noat.map (fun p => He.Fa.noat p.1 p.2) ++ t.dcts.map fun p => He.Fa.glo p.1)))))))
def Tell.ts (t : Tell) : List He.Tab := t.dcts.map fun p => (fun K => He.ga K p.1, p.2.map (·.1))
def erPairs (ers : List ErD) (hnd : List Str) : List (Str × Str × Bool) := ers.flatMap fun d => hnd.map fun e => (d.c, e, decide (d.c = e))
/-- what isinstance asks of a class -/
def tgB (K : PySem.W.Frag) (T : Str) : Bool := match bEx.lookup T with
  | some n => PySem.W.kitMeta n
  | none => (PySem.W.clsIn K (He.ga K T)).isSome && PySem.W.typeIn K (.ref (He.ga K T)) == some (.type "type")
/-- an own error's mro: its own classes, then the built-in base's -/
def mroB (K : PySem.W.Frag) (anc : List Str) (tail : List Value) (d : ErD) : Bool := decide ((PySem.W.clsIn K (He.ga K d.c)).map (·.mro) = some (.ref (He.ga K d.c) :: (anc.map fun p => Value.ref (He.ga K p)) ++ tail)) && decide (PySem.W.findIn K (.ref (He.ga K d.c)) "__class__" = some (some (.builtin "object.__class__")))
def isNames (ers eos : List ErD) (anc : List Str) : List Str := ers.map ErD.c ++ (eos.map ErD.c ++ anc)
def issB (K : PySem.W.Frag) (ers eos : List ErD) (anc isT : List Str) : Bool := isT.isEmpty || ((ers.all fun d => decide (fo d.c = "told") && mroB K anc HandSPX.veTail d) && ((eos.all fun d => decide (fo d.c = "most") && mroB K [] HandSPX.oeTail d) && (isT.all (tgB K) &&
  (decide ((isNames ers eos anc).map (He.ga K)).Nodup && (decide (isNames ers eos anc).Nodup && ((isT.all fun T => (bEx.lookup T).isSome || decide (T ∈ isNames ers eos anc)) && (((isNames ers eos anc).all fun T => (bEx.lookup T).isNone) &&
  (decide (PySem.W.specialIn K (.builtin "object.__class__") "__get__" = some (some (.builtin "getset_descriptor.__get__"))) && decide (PySem.W.takesIn K (.builtin "object.__class__") = some true)))))))))
def Tell.ex (t : Tell) (K : PySem.W.Frag) : Bool := ((erPairs t.ers t.hnd).all fun p => decide (PySem.W.exmOne K (.ref (He.ga K p.1)) (.ref (He.ga K p.2.1)) = some p.2.2)) && ((t.dcts.all fun p => He.valsB K (He.ga K p.1) (p.2.map fun q => (q.1, He.Dv.str q.2))) && issB K t.ers t.eos t.anc t.isT)
def Tell.isk (t : Tell) (c d : Str) : Option Bool := if d ∈ t.isT then (if c ∈ t.ers.map ErD.c then some (decide (d = c) || (decide (d ∈ t.anc) || decide (d = "ValueError"))) else if c ∈ t.eos.map ErD.c then some (decide (d = c) || decide (d = "OverflowError")) else none) else none
/-- the interpreter's side of it -/
def Tell.glob (t : Tell) (x : Str) : Option MV := match t.strT.lookup x with
  | some z => some (.str z)
  | none => (match t.intT.lookup x with
    | some i => some (.int i)
    | none => (t.dcts.lookup x).map fun _ => .glo x)
def Tell.kd (t : Tell) (x : Str) : Option (List (Str × MV)) := (t.dcts.lookup x).map fun l => l.map fun q => (q.1, MV.str q.2)
def Tell.sub (t : Tell) (c d : Str) : Option Bool := ((erPairs t.ers t.hnd).find? fun p => decide (p.1 = c ∧ p.2.1 = d)).map (·.2.2)
def Tell.cl (t : Tell) (c f : Str) : Bool := decide (c ∈ t.clss) && decide ((c, f) ∈ t.noat)
def Tell.env (t : Tell) (tab : FK → Option FD) (fuel : Nat) : Env := ⟨tab, t.glob, t.kd, t.sub, t.cl, fuel, t.isk⟩
/-- what holds of it -/
structure Txt (t : Tell) (P : Program) (w : World) (K : PySem.W.Frag) (mg : Str → Option Value) : Prop where
  f : ∀ (i : Nat) (d : He.DefD), t.fn[i]? = some d → FunD K d.name d.qual d.params d.body d.scope (d.dvs K) (d.kws K) (He.fAd K d.at_) (fdOf K d.at_)
  glo : ∀ (i : Nat) {x : Str}, t.glos[i]? = some x → mg x = some (.ref (He.ga K x))
  free : ∀ (i : Nat) {x : Str}, t.frees[i]? = some x → mg x = none
  cls : ∀ (i : Nat) {x : Str}, t.clss[i]? = some x → Cls K (He.ga K x)
  mth : ∀ (i : Nat) {p : Str × Str}, t.mths[i]? = some p → Meth K (He.ga K p.1) p.2 (He.ma K (He.ga K p.1) p.2)
  mkr : ∀ (i : Nat) {x : Str}, t.mks[i]? = some x → Mk K (He.ga K x) (He.ma K (He.ga K x) "__init__")
  er : ∀ (i : Nat) {d : ErD}, t.ers[i]? = some d → ErT P K (He.ga K d.c) (erI K d.c)
  eo : ∀ (i : Nat) {d : ErD}, t.eos[i]? = some d → EoT P K (He.ga K d.c) (erI K d.c)
  hG : GlOk K mg t.glob
  hC : ClOk K t.cl
  hK : KdOk K w t.kd
  hS : SubOk K t.sub
  hI : IskOk K t.isk
theorem look_mem {β : Type} {x : Str} {y : β} : ∀ {l : List (Str × β)}, l.lookup x = some y → (x, y) ∈ l
  | [], h => by cases h
  | (a, b) :: r, h => by
    rw [List.lookup_cons] at h
    cases q : (x == a) with
    | true =>
      rw [q] at h
      obtain rfl := Option.some.inj h
      rw [eq_of_beq q]
      exact List.mem_cons_self
    | false =>
      rw [q] at h
      exact List.mem_cons_of_mem _ (look_mem h)
section
variable {t : Tell} {P : Program} {w : World} {K : PySem.W.Frag} {h : Heap} {mg : Str → Option Value}
theorem fa_mem {l : List Str} {g : Str → He.Fa} {L : List He.Fa} (c : ∀ f ∈ L, f.ok K = true) (s : ∀ f ∈ l.map g, f ∈ L) {i : Nat} {x : Str} (e : l[i]? = some x) : (g x).ok K = true := c _ (s _ (List.mem_map_of_mem (List.mem_of_getElem? e)))
theorem sub_ok (e : t.ex K = true) : SubOk K t.sub := by
  intro c d b q
  unfold Tell.sub at q
  cases z : (erPairs t.ers t.hnd).find? fun p => decide (p.1 = c ∧ p.2.1 = d) with
  | none => rw [z] at q; cases q
  | some p =>
    rw [z] at q
    obtain rfl := Option.some.inj q
    have h1 := List.find?_some z
    obtain ⟨rfl, rfl⟩ := of_decide_eq_true h1
    have h2 := List.all_eq_true.mp (Bool.and_eq_true_iff.mp e).1 p (List.mem_of_find?_eq_some z)
    exact of_decide_eq_true h2
theorem sub_self {c d : Str} (q : t.sub c d = some true) : c = d := by
  unfold Tell.sub at q
  cases z : (erPairs t.ers t.hnd).find? fun p => decide (p.1 = c ∧ p.2.1 = d) with
  | none => rw [z] at q; cases q
  | some p =>
    rw [z] at q
    have q2 : p.2.2 = true := Option.some.inj q
    have h1 := List.find?_some z
    obtain ⟨rfl, rfl⟩ := of_decide_eq_true h1
    have h2 := List.mem_of_find?_eq_some z
    obtain ⟨d1, _, h3⟩ := List.mem_flatMap.mp h2
    obtain ⟨d2, _, rfl⟩ := List.mem_map.mp h3
    exact of_decide_eq_true q2
theorem ga_inj {K : PySem.W.Frag} {l : List Str} (h : (l.map (He.ga K)).Nodup) : ∀ {c d : Str}, c ∈ l → d ∈ l → He.ga K c = He.ga K d → c = d := by
  induction l with
  | nil => intro c d hc; cases hc
  | cons a l ih =>
    intro c d hc hd e
    rw [List.map_cons, List.nodup_cons] at h
    rcases List.mem_cons.mp hc with hc | hc
    · subst hc
      rcases List.mem_cons.mp hd with hd | hd
      · exact hd.symm
      · have z := List.mem_map_of_mem (f := He.ga K) hd
        rw [← e] at z
        exact absurd z h.1
    · rcases List.mem_cons.mp hd with hd | hd
      · have z := List.mem_map_of_mem (f := He.ga K) hc
        rw [e, hd] at z
        exact absurd z h.1
      · exact ih h.2 hc hd e
theorem kit_one {K : PySem.W.Frag} {C : Addr} {l : List Value} {cv : Value} {b : Bool} (hm : (PySem.W.clsIn K C).map (·.mro) = some (.ref C :: l)) (ht : ∀ D, cv = .ref D → ((PySem.W.clsIn K D).isSome && PySem.W.typeIn K (.ref D) == some (.type "type")) = true) (ht2 : ∀ n, cv = .type n → PySem.W.kitMeta n = true) (hc : (∃ D, cv = .ref D) ∨ ∃ n, cv = .type n)
    (hb : (Value.ref C :: l).contains cv = b) : PySem.W.kitOne K (.ref C) cv = some b := by
  obtain ⟨cd, h1, h2⟩ := map_some hm
  unfold PySem.W.kitOne
  split
  · rename_i q
    have e : Value.ref C = cv := beq_iff_eq.mp q
    rw [← hb, ← e]
    simp
  · have hs : PySem.W.subIn K (.ref C) cv = some b := by
      show PySem.W.mroIn K C cv = some b
      unfold PySem.W.mroIn
      rw [h1, Option.bind_some, h2]
      rw [← hb]
      rfl
    unfold PySem.W.kitCls
    rcases hc with ⟨D, rfl⟩ | ⟨n, rfl⟩
    · dsimp only
      rw [if_pos (ht D rfl)]
      exact hs
    · dsimp only
      rw [if_pos (ht2 n rfl)]
      exact hs
theorem mem_types {l : List Str} {K : PySem.W.Frag} {n : String} : Value.type n ∉ l.map fun p => Value.ref (He.ga K p) := fun z => by
  obtain ⟨_, _, e⟩ := List.mem_map.mp z
  cases e
theorem isk_ok (e : t.ex K = true) (er : ∀ d ∈ t.ers, ErT P K (He.ga K d.c) (erI K d.c)) (eo : ∀ d ∈ t.eos, EoT P K (He.ga K d.c) (erI K d.c)) : IskOk K t.isk := by
  have e1 := (Bool.and_eq_true_iff.mp (Bool.and_eq_true_iff.mp e).2).2
  unfold issB at e1
  by_cases hT : t.isT.isEmpty = true
  · have hn : ∀ c d b, t.isk c d = some b → False := fun c d b q => by
      unfold Tell.isk at q
      rw [List.isEmpty_iff.mp hT] at q
      cases q
    exact ⟨fun c d b q => (hn c d b q).elim, fun c d b q => (hn c d b q).elim, fun c d b n q => (hn c d b q).elim⟩
  · rw [Bool.or_eq_true_iff] at e1
    have e1 := e1.resolve_left hT
    simp only [Bool.and_eq_true, decide_eq_true_eq] at e1
    obtain ⟨z1, z2, z3, z4, z5, z6, z7, z8, z9⟩ := e1
    have inN : ∀ d, d ∈ t.isT → bEx.lookup d = none → d ∈ isNames t.ers t.eos t.anc := fun d hd hb => by
      have q := List.all_eq_true.mp z6 d hd
      rw [hb] at q
      simpa using q
    have tg : ∀ d, d ∈ t.isT → tgB K d = true := fun d hd => List.all_eq_true.mp z3 d hd
    have nb : ∀ d, d ∈ isNames t.ers t.eos t.anc → bEx.lookup d = none := fun d hd => by
      have q := List.all_eq_true.mp z7 d hd
      simpa using q
    have key : ∀ c d b, t.isk c d = some b → d ∈ t.isT ∧ ((∃ x ∈ t.ers, x.c = c ∧ b = (decide (d = c) || (decide (d ∈ t.anc) || decide (d = "ValueError")))) ∨ (∃ x ∈ t.eos, x.c = c ∧ b = (decide (d = c) || decide (d = "OverflowError")))) := by
      intro c d b q
      unfold Tell.isk at q
      split at q
      · rename_i hd
        refine ⟨hd, ?_⟩
        split at q
        · rename_i hc
          obtain ⟨x, h1, h2⟩ := List.mem_map.mp hc
          exact .inl ⟨x, h1, h2, (Option.some.inj q).symm⟩
        · split at q
          · rename_i hc
            obtain ⟨x, h1, h2⟩ := List.mem_map.mp hc
            exact .inr ⟨x, h1, h2, (Option.some.inj q).symm⟩
          · cases q
      · cases q
    have M1 : ∀ x ∈ t.ers, fo x.c = "told" ∧ (PySem.W.clsIn K (He.ga K x.c)).map (·.mro) = some (.ref (He.ga K x.c) :: ((t.anc.map fun p => Value.ref (He.ga K p)) ++ HandSPX.veTail)) ∧ PySem.W.findIn K (.ref (He.ga K x.c)) "__class__" = some (some (.builtin "object.__class__")) := fun x hx => by
      have q := List.all_eq_true.mp z1 x hx
      simp only [mroB, Bool.and_eq_true, decide_eq_true_eq] at q
      exact ⟨q.1, q.2.1, q.2.2⟩
    have M2 : ∀ x ∈ t.eos, fo x.c = "most" ∧ (PySem.W.clsIn K (He.ga K x.c)).map (·.mro) = some (.ref (He.ga K x.c) :: HandSPX.oeTail) ∧ PySem.W.findIn K (.ref (He.ga K x.c)) "__class__" = some (some (.builtin "object.__class__")) := fun x hx => by
      have q := List.all_eq_true.mp z2 x hx
      simp only [mroB, Bool.and_eq_true, decide_eq_true_eq] at q
      exact ⟨q.1, q.2.1, q.2.2⟩
    have N1 : ∀ x ∈ t.ers, x.c ∈ isNames t.ers t.eos t.anc := fun x hx => List.mem_append_left _ (List.mem_map_of_mem hx)
    have N2 : ∀ x ∈ t.eos, x.c ∈ isNames t.ers t.eos t.anc := fun x hx => List.mem_append_right _ (List.mem_append_left _ (List.mem_map_of_mem hx))
    have N3 : ∀ d ∈ t.anc, d ∈ isNames t.ers t.eos t.anc := fun d hd => List.mem_append_right _ (List.mem_append_right _ hd)
    have obj : ∀ {C : Addr} {l : List Value}, (PySem.W.clsIn K C).map (·.mro) = some (.ref C :: l) → l.contains (.type "object") = true → PySem.W.mroIn K C (.type "object") = some true := fun {C l} h ho => by
      obtain ⟨cd, h1, h2⟩ := map_some h
      unfold PySem.W.mroIn
      rw [h1, Option.bind_some, h2]
      show some ((Value.ref C :: l).contains (.type "object")) = some true
      rw [List.contains_cons, ho, Bool.or_true]
    have o1 : ∀ l : List Value, (l ++ HandSPX.veTail).contains (.type "object") = true := fun l => by
      rw [List.contains_iff_mem]
      exact List.mem_append_right _ (by simp)
    refine ⟨fun c d b q => ?_, fun c d b q hb => ?_, fun c d b n q hb => ?_⟩
    · obtain ⟨_, ⟨x, hx, rfl, _⟩ | ⟨x, hx, rfl, _⟩⟩ := key c d b q
      · have T := er x hx
        obtain ⟨f1, f2, f3⟩ := M1 x hx
        exact ⟨T.xf, ⟨T.ga, T.gg, T.exC, T.hdC, f3, z8, z9, obj f2 (o1 _)⟩, by rw [f1]; exact T.noN⟩
      · have T := eo x hx
        obtain ⟨f1, f2, f3⟩ := M2 x hx
        exact ⟨T.xf, ⟨T.ga, T.gg, T.exC, T.hdC, f3, z8, z9, obj f2 (by decide +kernel)⟩, by rw [f1]; exact T.noN⟩
    · obtain ⟨hd, h⟩ := key c d b q
      have hdn := inN d hd hb
      have ht := tg d hd
      unfold tgB at ht
      rw [hb] at ht
      have ve : d ≠ "ValueError" := fun z => by rw [z] at hb; revert hb; decide +kernel
      have oe : d ≠ "OverflowError" := fun z => by rw [z] at hb; revert hb; decide +kernel
      rcases h with ⟨x, hx, rfl, rfl⟩ | ⟨x, hx, rfl, rfl⟩
      · refine kit_one (M1 x hx).2.1 (fun D eD => by cases eD; exact ht) (fun n eD => nomatch eD) (.inl ⟨_, rfl⟩) ?_
        rw [Bool.eq_iff_iff, List.contains_iff_mem]
        simp only [List.mem_cons, List.mem_append, List.mem_map, Bool.or_eq_true, decide_eq_true_eq, ve, or_false]
        constructor
        · rintro (z | ⟨p, hp, z⟩ | z)
          · exact .inl (ga_inj z4 hdn (N1 x hx) (Value.ref.inj z))
          · exact .inr (ga_inj z4 hdn (N3 p hp) (Value.ref.inj z).symm ▸ hp)
          · simp at z
        · rintro (rfl | z)
          · exact .inl rfl
          · exact .inr (.inl ⟨d, z, rfl⟩)
      · refine kit_one (M2 x hx).2.1 (fun D eD => by cases eD; exact ht) (fun n eD => nomatch eD) (.inl ⟨_, rfl⟩) ?_
        rw [Bool.eq_iff_iff, List.contains_iff_mem]
        simp only [List.mem_cons, Bool.or_eq_true, decide_eq_true_eq, oe, or_false]
        constructor
        · rintro (z | z)
          · exact ga_inj z4 hdn (N2 x hx) (Value.ref.inj z)
          · simp at z
        · rintro rfl
          exact .inl rfl
    · obtain ⟨hd, h⟩ := key c d b q
      have ht := tg d hd
      unfold tgB at ht
      rw [hb] at ht
      have hdx : (d = "ValueError" ∧ n = "ValueError") ∨ (d = "OverflowError" ∧ n = "OverflowError") := by
        have z := look_mem hb
        simp only [bEx, List.mem_cons, Prod.mk.injEq, List.not_mem_nil, or_false] at z
        exact z
      have hne : ∀ x, x ∈ isNames t.ers t.eos t.anc → d ≠ x := fun x hx z => by
        rw [z, nb x hx] at hb
        cases hb
      have nve : ("ValueError" : Str) ≠ "OverflowError" := by decide +kernel
      rcases h with ⟨x, hx, rfl, rfl⟩ | ⟨x, hx, rfl, rfl⟩
      · refine kit_one (M1 x hx).2.1 (fun D eD => nomatch eD) (fun n eD => by cases eD; exact ht) (.inr ⟨_, rfl⟩) ?_
        rw [Bool.eq_iff_iff, List.contains_iff_mem]
        simp only [List.mem_cons, List.mem_append, mem_types, false_or, Bool.or_eq_true, decide_eq_true_eq, hne _ (N1 x hx), show d ∉ t.anc from fun z => hne d (N3 d z) rfl, reduceCtorEq]
        rcases hdx with ⟨rfl, rfl⟩ | ⟨rfl, rfl⟩
        · simp
        · simp [Ne.symm nve]
      · refine kit_one (M2 x hx).2.1 (fun D eD => nomatch eD) (fun n eD => by cases eD; exact ht) (.inr ⟨_, rfl⟩) ?_
        rw [Bool.eq_iff_iff, List.contains_iff_mem]
        simp only [List.mem_cons, false_or, Bool.or_eq_true, decide_eq_true_eq, hne _ (N2 x hx), reduceCtorEq]
        rcases hdx with ⟨rfl, rfl⟩ | ⟨rfl, rfl⟩
        · simp [nve]
        · simp
theorem txt_of (X : K.In h) (G : h.Ns mainGlobals mg) (c : SaysM t.fa t.fn t.ts t.ers t.eos (P.main.file : Str) t.ex w K) : Txt t P w K mg := by
  have fs : ∀ f ∈ t.fa, f.ok K = true := fun f hf => c.d.facts hf
  have e := c.more
  refine ⟨fun i d hd => ?_, fun i x hx => ?_, fun i x hx => ?_, fun i x hx => ?_, fun i p hp => ?_, fun i x hx => ?_, fun i d hd => ?_, fun i d hd => ?_, ?_, ?_, ?_, sub_ok e, isk_ok (P := P) e (fun d hd => c.errs hd) fun d hd => c.eovs hd⟩
  · obtain ⟨fd, F⟩ := c.d.def_ i hd
    have q := fdOf_eq F
    subst q
    exact F
  · exact He.glo_ok X G (fs _ (by unfold Tell.fa; simp only [List.mem_append, List.mem_map]; exact .inl ⟨x, List.mem_of_getElem? hx, rfl⟩))
  · exact He.free_ok X G (fs _ (by unfold Tell.fa; simp only [List.mem_append, List.mem_map]; exact .inr (.inl ⟨x, List.mem_of_getElem? hx, rfl⟩)))
  · exact He.cls_ok (fs _ (by unfold Tell.fa; simp only [List.mem_append, List.mem_map]; exact .inr (.inr (.inl ⟨x, List.mem_of_getElem? hx, rfl⟩))))
  · exact He.meth_ok (fs _ (by unfold Tell.fa; simp only [List.mem_append, List.mem_map]; exact .inr (.inr (.inr (.inl ⟨p, List.mem_of_getElem? hp, rfl⟩)))))
  · exact He.mkr_ok (fs _ (by unfold Tell.fa; simp only [List.mem_append, List.mem_map]; exact .inr (.inr (.inr (.inr (.inl ⟨x, List.mem_of_getElem? hx, rfl⟩))))))
  · exact c.errs (List.mem_of_getElem? hd)
  · exact c.eovs (List.mem_of_getElem? hd)
  · intro x z hz
    unfold Tell.glob at hz
    cases q1 : t.strT.lookup x with
    | some y =>
      rw [q1] at hz
      obtain rfl := Option.some.inj hz
      obtain ⟨tk, e1⟩ := He.str_ok X G (fs _ (by unfold Tell.fa; simp only [List.mem_append, List.mem_map]; exact .inr (.inr (.inr (.inr (.inr (.inl ⟨(x, y), look_mem q1, rfl⟩)))))))
      exact ⟨.str y, _, e1, ⟨tk, rfl⟩, fun G m => .str y⟩
    | none =>
      rw [q1] at hz
      dsimp only at hz
      cases q2 : t.intT.lookup x with
      | some y =>
        rw [q2] at hz
        obtain rfl := Option.some.inj hz
        obtain ⟨tk, e1⟩ := He.int_ok X G (fs _ (by unfold Tell.fa; simp only [List.mem_append, List.mem_map]; exact .inr (.inr (.inr (.inr (.inr (.inr (.inl ⟨(x, y), look_mem q2, rfl⟩))))))))
        exact ⟨.int y, _, e1, ⟨tk, rfl⟩, fun G m => .int y⟩
      | none =>
        rw [q2] at hz
        dsimp only at hz
        cases q3 : t.dcts.lookup x with
        | none => rw [q3] at hz; cases hz
        | some l =>
          rw [q3] at hz
          obtain rfl := Option.some.inj hz
          exact ⟨.ref (He.ga K x), _, He.glo_ok X G (fs _ (by unfold Tell.fa; simp only [List.mem_append, List.mem_map]; exact .inr (.inr (.inr (.inr (.inr (.inr (.inr (.inr ⟨(x, l), look_mem q3, rfl⟩))))))))), rfl, fun G m => .glo x⟩
  · intro c0 f0 q
    unfold Tell.cl at q
    obtain ⟨q1, q2⟩ := Bool.and_eq_true_iff.mp q
    exact ⟨He.cls_ok (fs _ (by unfold Tell.fa; simp only [List.mem_append, List.mem_map]; exact .inr (.inr (.inl ⟨c0, of_decide_eq_true q1, rfl⟩)))), He.noat_ok (fs _ (by unfold Tell.fa; simp only [List.mem_append, List.mem_map]; exact .inr (.inr (.inr (.inr (.inr (.inr (.inr (.inl ⟨(c0, f0), of_decide_eq_true q2, rfl⟩)))))))))⟩
  · intro d kvs k x q1 q2
    unfold Tell.kd at q1
    cases q3 : t.dcts.lookup d with
    | none => rw [q3] at q1; cases q1
    | some l =>
      rw [q3] at q1
      obtain rfl := Option.some.inj q1
      obtain ⟨i, hi⟩ := List.getElem?_of_mem (look_mem q3)
      have hts : t.ts[i]? = some (fun K => He.ga K d, l.map (·.1)) := by unfold Tell.ts; rw [List.getElem?_map, hi]; rfl
      obtain ⟨es, n, kd⟩ := c.t.tab i hts
      obtain ⟨⟨k1, z⟩, hm, hz⟩ := List.mem_map.mp (look_mem q2)
      obtain ⟨rfl, rfl⟩ := Prod.mk.inj hz
      have hv := List.all_eq_true.mp (Bool.and_eq_true_iff.mp (Bool.and_eq_true_iff.mp e).2).1 _ (look_mem q3)
      obtain ⟨u, hu1, hu2⟩ := He.valsB_ok hv (List.mem_map_of_mem (f := fun q : Str × Str => (q.1, He.Dv.str q.2)) hm)
      exact ⟨.str z, ⟨es, n, u, kd.1, kd.2, hu1, hu2⟩, fun G m => .str z⟩
end
end Mini

set_option Elab.async false
set_option linter.all false
set_option maxRecDepth 100000
set_option maxHeartbeats 1000000
/-! MiN: all defs of a law's text together; the end of a law. -/
namespace Mini
open PySem L2
abbrev OkF (P : Program) (w : World) (K : PySem.W.Frag) (mg : Str → Option Value) (base : Heap) (t : Env) (n : Nat) (q : FK × List Str) : Prop := FnOk P w K mg base (L2.CX P w) (2 * n) (He.fAd K q.1) (fdOf K q.1) q.2 (spF K (evF t n) q.1)
def AllOk (P : Program) (w : World) (K : PySem.W.Frag) (mg : Str → Option Value) (base : Heap) (t : Env) (n : Nat) (ks : List (FK × List Str)) : Prop := ∀ (i : Nat) {q : FK × List Str}, ks[i]? = some q → OkF P w K mg base t n q
section
variable {P : Program} {w : World} {K : PySem.W.Frag} {mg : Str → Option Value} {base : Heap} {t : Env} {n : Nat} {q : FK × List Str} {ks : List (FK × List Str)}
theorem ok_nil : AllOk P w K mg base t n [] := fun i q h => by simp at h
theorem ok_cons (h : OkF P w K mg base t n q) (hs : AllOk P w K mg base t n ks) : AllOk P w K mg base t n (q :: ks) := fun i p e => by
  cases i with
  | zero =>
    obtain rfl : q = p := Option.some.inj e
    exact h
  | succ i => exact hs i (by simpa using e)
theorem ok_zero : AllOk P w K mg base t 0 ks := fun _ _ _ => fn_zero
theorem takesN {X : Cx} : Takes X Wno := takes0
/-- the law's promise, from what the small interpreter says of it -/
theorem law_sp {K : PySem.W.Frag} {t : Env} {D : Nat} {H : Hp} {a : Addr} {ns : List Int} (h : ∃ M, evF t D ("law", none) [.scr ns] [] = .ok (.bl true) M) (hS : SqL K H a (ns.map V.int)) : spF K (evF t D) ("law", none) [.ref a] H (fun v _ => v = .bl true) fun _ _ _ => False := by
  obtain ⟨M, e⟩ := h
  have hg : gr [] [] H = H := by
    funext b
    exact hide_of (by simp)
  refine ⟨[], [], [], [.scr ns], ⟨rfl, List.nodup_nil, fun _ z => by simp at z, fun i c z => by simp at z, fun _ z => by simp at z⟩, .cons (.scr (by rw [hg]; exact hS)) .nil, ?_⟩
  rw [e]
  intro v m' H' _ _ r
  cases r
  rfl
end
theorem walk_ofM {l : PySem.W.OpenLaw} {n k : Nat} {q : Program} {loose : List Str} {XP : (Str → Option Value) → Heap → Prop} {YP : World → Heap → Prop} {d : DefRec} {x : Str}
    (hn : l.most = some n) (hn2 : n ≤ sizeLine) (hdf : d.params.defaults = []) (hr : Room k callerA)
    (F : ∀ (w : World) (mg : Str → Option Value) (fa : Addr) (h : Heap), YP w h → h.Ns mainGlobals mg → mg d.name = some (.ref fa) →
      ∃ (K : PySem.W.Frag) (fd : FuncData) (sp : Sp), K.In h ∧ (∀ (s : Shared) (u : Value), BindsTo s fd ⟨[u], []⟩ [(x, u)]) ∧
        (∀ (H : Hp) (a : Addr) (ns : List Int), ns.length ≤ n → SqL K H a (ns.map V.int) → sp [.ref a] H (fun v _ => v = .bl true) fun _ _ _ => False) ∧
        ∀ base : Heap, FnOk l.prog w K mg base (L2.CX l.prog w) k fa fd [x] sp) :
    PySem.W.WalkO q loose XP YP l.row.toRowW d [] (fun f vs => PySem.call f vs) := by
  refine Att.attach_call hn hdf fun w s₀ s₁ mg mb fa o pm cd doc a vs ns G Y ho hd hcd hmg hobj hints hlen hg => ?_
  obtain ⟨K, fd, sp, KX, hb, hsp, hF⟩ := F w mg fa _ Y G.T.g hmg
  exact law_call KX G.T.g G.T.b G.T.builtins G.T.nolimit hg hobj hints (Nat.le_trans hlen hn2) hr (fun base _ _ => hF base) hb (fun H hO hS => hsp H a ns hlen hS) fun H e s' h => by
    obtain ⟨_, _, _, _, _, _, _, _, _, _, _, _, z⟩ := h
    exact z.elim
end Mini

set_option Elab.async false
set_option linter.all false
set_option maxRecDepth 100000
set_option maxHeartbeats 1000000
/-! MiO: the end of a law whose own def asks for repr: there no repr is under way. -/
namespace Mini
open PySem L2
/-- a def run at the law's own call -/
theorem run_top {P : Program} {w : World} {K : PySem.W.Frag} {mg : Str → Option Value} {base : Heap} {x qual : Str} {params : Arguments} {body : List Stmt} {scope : Scope} {f : Addr} {fd : FuncData} {N ps : List Str} {k n : Nat} {t : Env} {key : FK} {d : FD} {dvs : List V} {kws : List (Str × V)} (F : FunD K x qual params body scope dvs kws f fd) (S : FnScope N ps scope) (ht : t.tab key = some d) (h1 : d.np = ps.length) (h2 : d.ns = N.length)
    (hbody : ∀ (cdv : Value) (A : Around) (outer : List PySem.Env) (s : Shared) (H : Hp) (E : XK), A.guards = some [] → Room k (A.deeper (PyProof.Rows.envOfC qual scope s.heap.objs.size f cdv)) → Takes (cxOf (L2.CX P w) P w K mg base N qual scope f cdv A outer s H E) (fun c d _ H => E c d H) → PassesOwn (model P w) (cxOf (L2.CX P w) P w K mg base N qual scope f cdv A outer s H E).A (cxOf (L2.CX P w) P w K mg base N qual scope f cdv A outer s H E).env (cxOf (L2.CX P w) P w K mg base N qual scope f cdv A outer s H E).xe → MB (cxOf (L2.CX P w) P w K mg base N qual scope f cdv A outer s H E) (fun c d _ H => E c d H) (t.cfg n) false body d.body)
    (A : Around) (outer : List PySem.Env) (s : Shared) (H : Hp) (us : List Value) (vs : List V) (Q : VK) (E : XK) (hg : A.guards = some []) (hr : Room (k + 1) A) (e0 : Env0 P w K mg base A outer s H) (hb : BindsTo s fd ⟨us, []⟩ (ps.zip us)) (rv : Vals vs us) (hsp : spF K (evF t (n + 1)) key vs H Q E) :
    codeAny (model P w) A (.call (.ref f) ⟨us, []⟩) (CR (L2.CX P w) outer P w H s Q E) s := by
  obtain ⟨oc, od, dV, kV, doc, pm, an, cdv, ct, osl, rfl, lk, hcd, _, _⟩ := F.ex
  have hl := spF_len ht h1 vs H Q E hsp
  obtain ⟨O, m, M, xs, S0, r, h⟩ := hsp
  refine LamX.run_ofS lk hcd S hr e0 hb rv hl fun hr' => ⟨_, hbody cdv A outer s H E hg hr' (takes_of rfl rfl rfl rfl) (passes_of rfl), ?_⟩
  simp only [evF_succ, ht] at h
  split at h
  · rename_i q
    exact ⟨O, m, M, start d xs, S0, rep_start r q h2, postE_out (fin_of S0 h)⟩
  · exact (h : False).elim
open PyProof.Rows (IntsAre AllBare) in
/-- what the law's call has to begin with: the script alone is told of -/
theorem top_call {P : Program} {w : World} {K : PySem.W.Frag} {mg mb : Str → Option Value} {fa a : Addr} {s₁ : Shared} {vs : List Value} {ns : List Int}
    (kin : K.In s₁.heap) (gl : s₁.heap.Ns mainGlobals mg) (bl : s₁.heap.Ns builtinsNs mb) (bb : ∀ x : Str, x ≠ "__name__" → mb x = bootBuiltins x) (nl : s₁.heap.NoLimit) (gn : s₁.gens = #[])
    (sc : s₁.heap.get? a = some { cls := .type "list", data := .seq vs.toArray }) (ia : IntsAre vs ns) (le : ns.length ≤ sizeLine)
    (run : ∀ (base : Heap) (H : Hp), K.In base → base.Ns mainGlobals mg → Env0 P w K mg base callerA [] s₁ H → SqL K H a (ns.map V.int) → codeAny (model P w) callerA (.call (.ref fa) ⟨[.ref a], []⟩) (CR (L2.CX P w) [] P w H s₁ (fun v _ => v = .bl true) fun _ _ _ => False) s₁) :
    codeAny (model P w) callerA (.call (.ref fa) ⟨[.ref a], []⟩) (fun r s' => r = .ok (.ret (.bool true)) ∧ OldK s₁.heap s'.heap ∧ s'.os = s₁.os ∧ AllBare s'.gens) s₁ := by
  have vi := vals_ints ia
  have go : ∀ H : Hp, (∀ b, H b = none ∨ b = a ∧ ∃ o xs, H b = some (.frz o (.lst xs))) → SqL K H a (ns.map V.int) → HOk P w H s₁.heap → (H a ≠ none → K.lookup a = none) → codeAny (model P w) callerA (.call (.ref fa) ⟨[.ref a], []⟩) (fun r s' => r = .ok (.ret (.bool true)) ∧ OldK s₁.heap s'.heap ∧ s'.os = s₁.os ∧ AllBare s'.gens) s₁ := by
    intro H hO hS hok hK
    have off : ∀ {b : Addr} {o : Obj}, s₁.heap.get? b = some o → (∀ n, o.data ≠ .seq vs.toArray n) → H b = none := fun {b o} e nd => by
      rcases hO b with z | ⟨z, _⟩
      · exact z
      · rw [z, sc] at e
        cases e
        exact (nd _ rfl).elim
    have nsB : ∀ {b : Addr} {m : Str → Option Value}, s₁.heap.Ns b m → (hidT s₁.heap H).Ns b m := fun {b m} ⟨o, es, ep, e, d, r⟩ => ⟨o, es, ep, hidT_get e (off e fun n z => by rw [d] at z; cases z), d, r⟩
    have kB : K.In (hidT s₁.heap H) := fun b o e => hidT_get (kin b o e) (by
      rcases hO b with z | ⟨z, _⟩
      · exact z
      · cases q : H b with
        | none => rfl
        | some u =>
          rw [z] at e q
          rw [hK (by rw [q]; simp)] at e
          cases e)
    have md : Mod K mg (hidT s₁.heap H) := ⟨kB, nsB gl, ⟨mb, nsB bl, bb⟩, let ⟨mc, l1, l2⟩ := nl; ⟨mc, nsB l1, l2⟩⟩
    have nof : ∀ b, b ∈ ([] : List Addr) → False := fun b z => by simp at z
    refine codeAny_mono (run _ H kB (nsB gl) ⟨rfl, md, fun b o e => of_hidT e, Nat.le_of_eq (hidT_size _ _), trivial, fun b hb => (nof b hb).elim, hok, .of_eq gn⟩ hS) fun r s' h => ?_
    cases r with
    | error e =>
      obtain ⟨_, _, _, _, _, _, _, _, _, _, _, _, z⟩ := h
      exact z.elim
    | ok fl =>
      cases fl with
      | ret u =>
        obtain ⟨v, H', os, bare, un, hok', rr, q⟩ := h
        obtain rfl : v = .bl true := q
        obtain rfl : u = Value.bool true := rr
        refine ⟨rfl, OldK.of_keep fun b o e => ?_, os, bare⟩
        cases q : H b with
        | none => exact un.keep b o e q (fun z => nof b z) (by simp)
        | some u =>
          rcases hO b with z | ⟨_, ob, xs, z⟩
          · rw [q] at z; cases z
          · obtain ⟨f1, _⟩ := hok b _ z
            obtain ⟨f2, _⟩ := hok' b _ (un.frzs b ob _ z)
            rw [e] at f1
            cases f1
            exact f2
      | next => exact False.elim h
      | brk => exact False.elim h
      | cont => exact False.elim h
  cases hk : K.lookup a with
  | some o =>
    have e := kin a o hk
    rw [sc] at e
    cases e
    exact go (fun _ => none) (fun _ => .inl rfl) (.inr ⟨_, vs.toArray, _, hk, rfl, rfl, rfl, by rw [List.size_toArray, ia.length]; exact le, by simpa using vi⟩) (fun b u z => nomatch (show (none : Option HO) = some u from z)) fun z => absurd rfl z
  | none =>
    refine go (fun b => if b = a then some (.frz { cls := .type "list", data := .seq vs.toArray } (.lst (ns.map V.int))) else none) (fun b => ?_) (.inl (.inr ⟨{ cls := .type "list", data := .seq vs.toArray }, if_pos rfl⟩)) (fun b u z => ?_) fun _ => hk
    · by_cases hb : b = a
      · exact .inr ⟨hb, _, _, if_pos hb⟩
      · exact .inl (if_neg hb)
    · by_cases hb : b = a
      · have z1 := (if_pos hb).symm.trans z
        cases z1
        subst hb
        exact ⟨sc, by rw [List.length_map]; exact le, vs, _, vi, sc⟩
      · have z1 := (if_neg hb).symm.trans z
        cases z1
theorem walk_ofG {l : PySem.W.OpenLaw} {n : Nat} {q : Program} {loose : List Str} {XP : (Str → Option Value) → Heap → Prop} {YP : World → Heap → Prop} {d : DefRec} (hn : l.most = some n) (hn2 : n ≤ sizeLine) (hdf : d.params.defaults = [])
    (F : ∀ (w : World) (mg : Str → Option Value) (fa : Addr) (h : Heap), YP w h → h.Ns mainGlobals mg → mg d.name = some (.ref fa) →
      ∃ (K : PySem.W.Frag), K.In h ∧ ∀ (base : Heap) (H : Hp) (s : Shared) (a : Addr) (ns : List Int), ns.length ≤ n → Env0 l.prog w K mg base callerA [] s H → SqL K H a (ns.map V.int) → codeAny (model l.prog w) callerA (.call (.ref fa) ⟨[.ref a], []⟩) (CR (L2.CX l.prog w) [] l.prog w H s (fun v _ => v = .bl true) fun _ _ _ => False) s) :
    PySem.W.WalkO q loose XP YP l.row.toRowW d [] (fun f vs => PySem.call f vs) := by
  refine Att.attach_call hn hdf fun w s₀ s₁ mg mb fa o pm cd doc a vs ns G Y ho hd hcd hmg hobj hints hlen hg => ?_
  obtain ⟨K, KX, hF⟩ := F w mg fa _ Y G.T.g hmg
  exact top_call KX G.T.g G.T.b G.T.builtins G.T.nolimit hg hobj hints (Nat.le_trans hlen hn2) fun base H _ _ e0 hS => hF base H s₁ a ns hlen e0 hS
end Mini

set_option Elab.async false
set_option linter.all false
set_option maxRecDepth 100000
set_option maxHeartbeats 1000000
/-! MiP: tools for the plain part: what evF computes. -/
namespace Mini
open PySem L2
theorem evF_of {t : Env} {n : Nat} {f : FK} {xs : List MV} {M : Mem} {d : FD} (h : t.tab f = some d) (hl : xs.length = d.np) : evF t (n + 1) f xs M = fin d.keep M (outF (evB (t.cfg n) d.body (start d xs) M)) := by
  simp only [evF_succ, h, hl, if_true]
theorem fin_same {k : Bool} {M : Mem} {v : MV} : fin k M (.ok v M) = .ok v M := by
  unfold fin
  simp
theorem fin_len {k : Bool} {M M1 : Mem} {v : MV} (h : M1.length = M.length) : fin k M (.ok v M1) = .ok v M1 := by
  unfold fin
  simp [h]
theorem fin_keep {M M1 : Mem} {v : MV} : fin true M (.ok v M1) = .ok v M1 := by
  unfold fin
  simp
theorem fin_lenX {k : Bool} {M M1 : Mem} {c : Str} {v : MV} (h : M1.length = M.length) : fin k M (.exn c v M1) = .exn c v M1 := by
  unfold fin
  simp [h]
theorem fin_frz {M M1 : Mem} {v u : MV} (h1 : M1.length ≠ M.length) (h : M1.take M.length = M) (h2 : frz M1 M.length 64 v = some u) : fin false M (.ok v M1) = .ok u M := by
  unfold fin
  simp [h1, h, h2]
theorem fin_frzX {M M1 : Mem} {c : Str} {v u : MV} (h1 : M1.length ≠ M.length) (h : M1.take M.length = M) (h2 : frz M1 M.length 64 v = some u) : fin false M (.exn c v M1) = .exn c u M := by
  unfold fin
  simp [h1, h, h2]
theorem fin_dirty {k : Bool} {M M1 : Mem} {v : MV} (h : M1.take M.length ≠ M) : fin k M (.ok v M1) = .ok v M1 := by
  unfold fin
  simp [h]
theorem fin_dirtyX {k : Bool} {M M1 : Mem} {c : Str} {v : MV} (h : M1.take M.length ≠ M) : fin k M (.exn c v M1) = .exn c v M1 := by
  unfold fin
  simp [h]
@[simp] theorem outF_ret {x : MV} {M : Mem} : outF (.ok (.ret x) M) = .ok x M := rfl
@[simp] theorem outF_next {r : Rho} {M : Mem} : outF (.ok (.next r) M) = .ok .non M := rfl
@[simp] theorem outF_exn {c : Str} {x : MV} {M : Mem} : outF (.exn c x M) = .exn c x M := rfl
/-- a list cell changed -/
theorem set_len {M : Mem} {p : Nat} {c : Cell} : (M.set p c).length = M.length := List.length_set
theorem get_set {M : Mem} {p : Nat} {c c' : Cell} (h : M[p]? = some c') : (M.set p c)[p]? = some c := by
  obtain ⟨hl, _⟩ := List.getElem?_eq_some_iff.mp h
  simp [hl]
end Mini
namespace Mini
open PySem L2
/-! ### what a result is asked -/
@[irreducible] def Is {α : Type} (R : Res α) (Q : α → Mem → Prop) (E : Str → MV → Mem → Prop) : Prop := match R with
  | .ok a M => Q a M
  | .exn c x M => E c x M
  | .stuck => False
def Op {α : Type} (o : Option α) (Q : α → Prop) : Prop := ∃ a, o = some a ∧ Q a
theorem is_ok {α : Type} {R : Res α} {a : α} {M : Mem} {Q : α → Mem → Prop} {E : Str → MV → Mem → Prop} (e : R = .ok a M) (h : Q a M) : Is R Q E := by subst e; unfold Is; exact h
theorem is_exn {α : Type} {R : Res α} {c : Str} {x : MV} {M : Mem} {Q : α → Mem → Prop} {E : Str → MV → Mem → Prop} (e : R = .exn c x M) (h : E c x M) : Is R Q E := by subst e; unfold Is; exact h
theorem ok_is {α : Type} {a : α} {M : Mem} {Q : α → Mem → Prop} {E : Str → MV → Mem → Prop} (h : Is (.ok a M) Q E) : Q a M := by unfold Is at h; exact h
theorem exn_is {α : Type} {c : Str} {x : MV} {M : Mem} {Q : α → Mem → Prop} {E : Str → MV → Mem → Prop} (h : Is (.exn c x M : Res α) Q E) : E c x M := by unfold Is at h; exact h
theorem stuck_is {α : Type} {Q : α → Mem → Prop} {E : Str → MV → Mem → Prop} {A : Prop} (h : Is (.stuck : Res α) Q E) : A := by unfold Is at h; exact False.elim h
theorem Is.mono {α : Type} {R : Res α} {Q Q' : α → Mem → Prop} {E E' : Str → MV → Mem → Prop} (h : Is R Q E) (hq : ∀ a M, Q a M → Q' a M) (he : ∀ c x M, E c x M → E' c x M) : Is R Q' E' := by
  cases R with
  | ok a M => exact is_ok rfl (hq _ _ (ok_is h))
  | exn c x M => exact is_exn rfl (he _ _ _ (exn_is h))
  | stuck => exact stuck_is h
theorem Is.imp {α : Type} {R : Res α} {Q Q' : α → Mem → Prop} {E : Str → MV → Mem → Prop} (h : Is R Q E) (hq : ∀ a M, Q a M → Q' a M) : Is R Q' E := h.mono hq fun _ _ _ z => z
theorem Is.ex {α : Type} {R : Res α} {Q : α → Mem → Prop} (h : Is R Q fun _ _ _ => False) : ∃ a M, R = .ok a M ∧ Q a M := by
  cases R with
  | ok a M => exact ⟨a, M, rfl, ok_is h⟩
  | exn c x M => exact (exn_is h).elim
  | stuck => exact stuck_is h
theorem is_bind {α β : Type} {R : Res α} {f : α → Mem → Res β} {Q : β → Mem → Prop} {E : Str → MV → Mem → Prop} (h : Is R (fun a M => Is (f a M) Q E) E) : Is (R.bind f) Q E := by
  cases R with
  | ok a M => exact ok_is h
  | exn c x M => exact is_exn rfl (exn_is h)
  | stuck => exact stuck_is h
theorem is_opt {α : Type} {o : Option α} {M : Mem} {Q : α → Mem → Prop} {E : Str → MV → Mem → Prop} (h : Op o fun a => Q a M) : Is (Res.opt o M) Q E := by
  obtain ⟨a, rfl, q⟩ := h
  exact is_ok rfl q
theorem op_map {α β : Type} {o : Option α} {f : α → β} {Q : β → Prop} (h : Op o fun a => Q (f a)) : Op (o.map f) Q := by
  obtain ⟨a, rfl, q⟩ := h
  exact ⟨_, rfl, q⟩
section
variable {g : Cfg} {r : Rho} {M : Mem} {Q : MV → Mem → Prop} {E : Str → MV → Mem → Prop} {a b c : CE} {es : CL} {x y z : MV} {i : Nat}
theorem w_con (h : Q x M) : Is (evE g r (.con x) M) Q E := by simp only [evE]; first | exact h | exact is_ok rfl h | exact is_exn rfl h
theorem w_var (e : r[i]? = some (some x)) (h : Q x M) : Is (evE g r (.var i) M) Q E := by simp only [evE, e]; first | exact h | exact is_ok rfl h | exact is_exn rfl h
theorem w_glb {n : Str} (e : g.glob n = some x) (h : Q x M) : Is (evE g r (.glb n) M) Q E := by simp only [evE, e]; first | exact h | exact is_ok rfl h | exact is_exn rfl h
theorem w_bin {op : Operator} (h : Is (evE g r a M) (fun x M1 => Is (evE g r b M1) (fun y M2 => Op (binV op M2 x y) fun z => Q z M2) E) E) : Is (evE g r (.bin op a b) M) Q E := by
  simp only [evE]; exact is_bind (h.imp fun x M1 h1 => is_bind (h1.imp fun y M2 h2 => is_opt h2))
theorem w_neg (h : Is (evE g r a M) (fun x M1 => ∃ i, x = .int i ∧ Q (.int (-i)) M1) E) : Is (evE g r (.neg a) M) Q E := by
  simp only [evE]; exact is_bind (h.imp fun x M1 ⟨i, e, q⟩ => by subst e; first | exact q | exact is_ok rfl q | exact is_exn rfl q)
theorem w_not (h : Is (evE g r a M) (fun x M1 => Op (truth M1 x) fun b => Q (.bl (!b)) M1) E) : Is (evE g r (.not a) M) Q E := by
  simp only [evE]; exact is_bind (h.imp fun x M1 h1 => is_opt (op_map h1))
theorem w_and (h : Is (evE g r a M) (fun x M1 => Op (truth M1 x) fun k => if k = true then Is (evE g r b M1) Q E else Q x M1) E) : Is (evE g r (.and a b) M) Q E := by
  simp only [evE]
  refine is_bind (h.imp fun x M1 ⟨k, e, q⟩ => ?_)
  rw [e]
  cases k with
  | true => rw [if_pos rfl] at q; first | exact q | exact is_ok rfl q | exact is_exn rfl q
  | false => rw [if_neg Bool.false_ne_true] at q; first | exact q | exact is_ok rfl q | exact is_exn rfl q
theorem w_or (h : Is (evE g r a M) (fun x M1 => Op (truth M1 x) fun k => if k = true then Q x M1 else Is (evE g r b M1) Q E) E) : Is (evE g r (.or a b) M) Q E := by
  simp only [evE]
  refine is_bind (h.imp fun x M1 ⟨k, e, q⟩ => ?_)
  rw [e]
  cases k with
  | true => rw [if_pos rfl] at q; first | exact q | exact is_ok rfl q | exact is_exn rfl q
  | false => rw [if_neg Bool.false_ne_true] at q; first | exact q | exact is_ok rfl q | exact is_exn rfl q
theorem w_cmp {op : CmpOp} (h : Is (evE g r a M) (fun x M1 => Is (evE g r b M1) (fun y M2 => Op (cmpV op M2 x y) fun k => Q (.bl k) M2) E) E) : Is (evE g r (.cmp op a b) M) Q E := by
  simp only [evE]; exact is_bind (h.imp fun x M1 h1 => is_bind (h1.imp fun y M2 h2 => is_opt (op_map h2)))
theorem w_chn {op op' : CmpOp} (h : Is (evE g r a M) (fun x M1 => Is (evE g r b M1) (fun y M2 => Op (cmpV op M2 x y) fun k => if k = true then Is (evE g r c M2) (fun z M3 => Op (cmpV op' M3 y z) fun k => Q (.bl k) M3) E else Q (.bl false) M2) E) E) : Is (evE g r (.chn op op' a b c) M) Q E := by
  simp only [evE]
  refine is_bind (h.imp fun x M1 h1 => is_bind (h1.imp fun y M2 ⟨k, e, q⟩ => ?_))
  rw [e]
  cases k with
  | true => exact is_bind (Is.imp (by rw [if_pos rfl] at q; first | exact q | exact is_ok rfl q | exact is_exn rfl q) fun z M3 h3 => is_opt (op_map h3))
  | false => rw [if_neg Bool.false_ne_true] at q; first | exact q | exact is_ok rfl q | exact is_exn rfl q
theorem w_ife (h : Is (evE g r c M) (fun x M1 => Op (truth M1 x) fun k => if k = true then Is (evE g r a M1) Q E else Is (evE g r b M1) Q E) E) : Is (evE g r (.ife c a b) M) Q E := by
  simp only [evE]
  refine is_bind (h.imp fun x M1 ⟨k, e, q⟩ => ?_)
  rw [e]
  cases k with
  | true => rw [if_pos rfl] at q; first | exact q | exact is_ok rfl q | exact is_exn rfl q
  | false => rw [if_neg Bool.false_ne_true] at q; first | exact q | exact is_ok rfl q | exact is_exn rfl q
theorem w_tup (h : Is (evL g r es M) (fun xs M1 => xs.length ≤ sizeLine ∧ Q (.tup xs) M1) E) : Is (evE g r (.tup es) M) Q E := by
  simp only [evE]
  exact is_bind (h.imp fun xs M1 ⟨h1, q⟩ => by rw [if_pos h1]; first | exact q | exact is_ok rfl q | exact is_exn rfl q)
theorem w_lst (h : Is (evL g r es M) (fun xs M1 => xs.length ≤ sizeLine ∧ Q (.lst xs) M1) E) : Is (evE g r (.lst es) M) Q E := by
  simp only [evE]
  exact is_bind (h.imp fun xs M1 ⟨h1, q⟩ => by rw [if_pos h1]; first | exact q | exact is_ok rfl q | exact is_exn rfl q)
theorem w_nwl (h : Is (evL g r es M) (fun xs M1 => xs.length ≤ sizeLine ∧ Q (.ref M1.length) (M1 ++ [.lst xs])) E) : Is (evE g r (.nwl es) M) Q E := by
  simp only [evE]
  exact is_bind (h.imp fun xs M1 ⟨h1, q⟩ => by rw [if_pos h1]; first | exact q | exact is_ok rfl q | exact is_exn rfl q)
theorem w_ndd (h : Is (evE g r a M) (fun x M1 => Is (evE g r b M1) (fun y M2 => ∃ xs ys, asL M2 x = some xs ∧ asL M2 y = some ys ∧ xs.length + ys.length ≤ sizeLine ∧ Q (.ref M2.length) (M2 ++ [.lst (xs ++ ys)])) E) E) : Is (evE g r (.ndd a b) M) Q E := by
  simp only [evE]
  exact is_bind (h.imp fun x M1 h1 => is_bind (h1.imp fun y M2 ⟨xs, ys, e1, e2, h2, q⟩ => by
    rw [e1, e2]
    dsimp only
    rw [if_pos h2]
    first | exact q | exact is_ok rfl q | exact is_exn rfl q))
theorem w_idx (h : Is (evE g r a M) (fun x M1 => Is (evE g r b M1) (fun y M2 => Op (idxV M2 g.kd x y) fun z => Q z M2) E) E) : Is (evE g r (.idx a b) M) Q E := by
  simp only [evE]; exact is_bind (h.imp fun x M1 h1 => is_bind (h1.imp fun y M2 h2 => is_opt h2))
theorem w_slc {lo hi : CO} (h : Is (evE g r a M) (fun x M1 => Is (evO g r lo M1) (fun l M2 => Is (evO g r hi M2) (fun k M3 => Op (slcV M3 x l k) fun z => Q z M3) E) E) E) : Is (evE g r (.slc a lo hi) M) Q E := by
  simp only [evE]; exact is_bind (h.imp fun x M1 h1 => is_bind (h1.imp fun y M2 h2 => is_bind (h2.imp fun z M3 h3 => is_opt h3)))
theorem w_att {f : Str} (h : Is (evE g r a M) (fun x M1 => Op (fldV g.cl M1 x f) fun z => Q z M1) E) : Is (evE g r (.att a f) M) Q E := by
  simp only [evE]; exact is_bind (h.imp fun x M1 h1 => is_opt h1)
theorem w_cal {f : Str} (h : Is (evL g r es M) (fun xs M1 => Is (g.call (f, none) xs M1) Q E) E) : Is (evE g r (.cal f es) M) Q E := by
  simp only [evE]; exact is_bind h
theorem w_mth {d m : Str} (h : Is (evE g r a M) (fun x M1 => ∃ fs, insV M1 x = some (d, fs) ∧ fs.lookup m = none ∧ Is (evL g r es M1) (fun xs M2 => Is (g.call (d, some m) (x :: xs) M2) Q E) E) E) : Is (evE g r (.mth d a m es) M) Q E := by
  simp only [evE]
  exact is_bind (h.imp fun x M1 ⟨fs, e1, e2, h2⟩ => by
    rw [e1]
    dsimp only
    rw [if_pos ⟨rfl, e2⟩]
    exact is_bind h2)
theorem w_new {d : Str} (h : Is (evL g r es M) (fun xs M1 => Is (g.call (d, some "__init__") (.ref M1.length :: xs) (M1 ++ [.ins d []])) (fun y M2 => y = .non ∧ Q (.ref M1.length) M2) E) E) : Is (evE g r (.new d es) M) Q E := by
  simp only [evE]
  exact is_bind (h.imp fun xs M1 h1 => is_bind (h1.imp fun y M2 ⟨e, q⟩ => by subst e; first | exact q | exact is_ok rfl q | exact is_exn rfl q))
theorem w_blt {f : Bi} (h : Is (evL g r es M) (fun xs M1 => Op (bltV f M1 xs) fun z => Q z M1) E) : Is (evE g r (.blt f es) M) Q E := by
  simp only [evE]; exact is_bind (h.imp fun x M1 h1 => is_opt h1)
theorem w_isi {ts : List String} (h : Is (evE g r a M) (fun x M1 => Op (isiA M1 x ts) fun k => Q (.bl k) M1) E) : Is (evE g r (.isi a ts) M) Q E := by
  simp only [evE]; exact is_bind (h.imp fun x M1 h1 => is_opt (op_map h1))
theorem w_bmt {m : Bm} (h : Is (evE g r a M) (fun x M1 => recV m M1 x = true ∧ Is (evL g r es M1) (fun xs M2 => Op (bmtV m M2 x xs) fun p => Q p.1 p.2) E) E) : Is (evE g r (.bmt m a es) M) Q E := by
  simp only [evE]
  exact is_bind (h.imp fun x M1 ⟨e, h1⟩ => by
    rw [if_pos e]
    exact is_bind (h1.imp fun xs M2 ⟨p, e2, q⟩ => by rw [e2]; first | exact q | exact is_ok rfl q | exact is_exn rfl q))
theorem w_dsp {ks : List Key} (h : Is (evL g r es M) (fun xs M1 => (xs.length = ks.length ∧ ks.Nodup ∧ ks.length ≤ 15) ∧ Q (.dck (ks.zip xs)) M1) E) : Is (evE g r (.dsp ks es) M) Q E := by
  simp only [evE]
  exact is_bind (h.imp fun xs M1 ⟨e, q⟩ => by rw [if_pos e]; first | exact q | exact is_ok rfl q | exact is_exn rfl q)
/-- a comprehension: f is what one turn gives -/
theorem w_lcp {tg : List Nat} {one : Bool} {it : CI} {t : CO} (h : Is (evI g r it M) (fun xs M1 => Is (mapR (fun x M2 => match bind1 tg one x (wipeR r tg) with
      | none => .stuck
      | some r2 => calm ((evT g r2 t M2).bind fun b M3 => if b then (evE g r2 a M3).bind fun y M4 => .ok (some y) M4 else .ok none M3)) xs M1) (fun ys M2 => ys.length ≤ sizeLine ∧ Q (.lst ys) M2) E) E) : Is (evE g r (.lcp tg one it t a) M) Q E := by
  simp only [evE]
  exact is_bind (h.imp fun xs M1 h1 => is_bind (h1.imp fun ys M2 ⟨e, q⟩ => by rw [if_pos e]; first | exact q | exact is_ok rfl q | exact is_exn rfl q))
theorem w_mke {d : Str} (h : Is (evE g r a M) (fun x M1 => Q (.err d x) M1) E) : Is (evE g r (.mke d a) M) Q E := by
  simp only [evE]; exact is_bind (h.imp fun _ _ q => is_ok rfl q)
theorem w_eat {f : Str} (h : Is (evE g r a M) (fun x M1 => ∃ d y, x = .err d y ∧ (fo d = f ∧ (g.isk d d).isSome = true) ∧ Q y M1) E) : Is (evE g r (.eat a f) M) Q E := by
  simp only [evE]; exact is_bind (h.imp fun x M1 ⟨d, y, e, h1, q⟩ => by subst e; dsimp only; rw [if_pos h1]; exact is_ok rfl q)
theorem w_ise {T : Str} (h : Is (evE g r a M) (fun x M1 => ∃ d y, x = .err d y ∧ Op (g.isk d T) fun k => Q (.bl k) M1) E) : Is (evE g r (.ise a T) M) Q E := by
  simp only [evE]; exact is_bind (h.imp fun x M1 ⟨d, y, e, h1⟩ => by subst e; exact is_opt (op_map h1))
theorem w_rpr (h : Is (evE g r a M) (fun x M1 => Op (reprM M1 x) fun z => Q z M1) E) : Is (evE g r (.rpr a) M) Q E := by
  simp only [evE]; exact is_bind (h.imp fun x M1 h1 => is_opt h1)
theorem w_enu {Q : List MV → Mem → Prop} (h : Is (evE g r a M) (fun x M1 => ∃ xs, x = .lst xs ∧ Q (enuL 0 xs) M1) E) : Is (evI g r (.enu a) M) Q E := by
  simp only [evI]; exact is_bind (h.imp fun x M1 ⟨xs, e, q⟩ => by subst e; exact is_ok rfl q)
theorem w_nil {Q : List MV → Mem → Prop} (h : Q [] M) : Is (evL g r .nil M) Q E := by simp only [evL]; first | exact h | exact is_ok rfl h | exact is_exn rfl h
theorem w_cons {Q : List MV → Mem → Prop} (h : Is (evE g r a M) (fun x M1 => Is (evL g r es M1) (fun xs M2 => Q (x :: xs) M2) E) E) : Is (evL g r (.cons a es) M) Q E := by
  simp only [evL]; exact is_bind (h.imp fun x M1 h1 => is_bind (h1.imp fun xs M2 q => is_ok rfl q))
theorem w_star {Q : List MV → Mem → Prop} (h : Is (evE g r a M) (fun x M1 => ∃ ys, (x = .tup ys ∨ x = .lst ys) ∧ Is (evL g r es M1) (fun xs M2 => Q (ys ++ xs) M2) E) E) : Is (evL g r (.star a es) M) Q E := by
  simp only [evL]
  exact is_bind (h.imp fun x M1 ⟨ys, e, h1⟩ => by
    rcases e with rfl | rfl
    · exact is_bind (h1.imp fun xs M2 q => is_ok rfl q)
    · exact is_bind (h1.imp fun xs M2 q => is_ok rfl q))
theorem w_non {Q : Option Int → Mem → Prop} (h : Q none M) : Is (evO g r .none M) Q E := by simp only [evO]; first | exact h | exact is_ok rfl h | exact is_exn rfl h
theorem w_som {Q : Option Int → Mem → Prop} (h : Is (evE g r a M) (fun x M1 => ∃ i, x = .int i ∧ Q (some i) M1) E) : Is (evO g r (.some a) M) Q E := by
  simp only [evO]; exact is_bind (h.imp fun x M1 ⟨i, e, q⟩ => by subst e; first | exact q | exact is_ok rfl q | exact is_exn rfl q)
theorem w_tno {Q : Bool → Mem → Prop} (h : Q true M) : Is (evT g r .none M) Q E := by simp only [evT]; first | exact h | exact is_ok rfl h | exact is_exn rfl h
theorem w_tso {Q : Bool → Mem → Prop} (h : Is (evE g r a M) (fun x M1 => Op (truth M1 x) fun k => Q k M1) E) : Is (evT g r (.some a) M) Q E := by
  simp only [evT]; exact is_bind (h.imp fun x M1 h1 => is_opt h1)
theorem w_seq {Q : List MV → Mem → Prop} (h : Is (evE g r a M) (fun x M1 => Op (itemsV M1 x) fun xs => Q xs M1) E) : Is (evI g r (.seq a) M) Q E := by
  simp only [evI]; exact is_bind (h.imp fun x M1 h1 => is_opt h1)
theorem w_rng {Q : List MV → Mem → Prop} (h : Is (evE g r a M) (fun x M1 => ∃ j, x = .int j ∧ (-(2 ^ 62) ≤ j ∧ j < 2 ^ 62) ∧ Q (intsFrom 0 j.toNat) M1) E) : Is (evI g r (.rng a) M) Q E := by
  simp only [evI]; exact is_bind (h.imp fun x M1 ⟨i, e, h1, q⟩ => by subst e; dsimp only; rw [if_pos h1]; first | exact q | exact is_ok rfl q | exact is_exn rfl q)
end
section
variable {g : Cfg} {r : Rho} {M : Mem} {Q : Flw → Mem → Prop} {E : Str → MV → Mem → Prop} {a b c o k : CE} {es : CL} {x y z : MV} {i : Nat} {s : CS} {bs bs' : CB} {f : Str}
theorem v_nil (h : Q (.next r) M) : Is (evB g .nil r M) Q E := by simp only [evB]; first | exact h | exact is_ok rfl h | exact is_exn rfl h
theorem v_cons (h : Is (evS g s r M) (fun w M1 => match w with
    | .next r1 => Is (evB g bs r1 M1) Q E
    | w => Q w M1) E) : Is (evB g (.cons s bs) r M) Q E := by
  simp only [evB]
  refine is_bind (h.imp fun w M1 h1 => ?_)
  cases w <;> first | exact h1 | exact is_ok rfl h1 | exact is_exn rfl h1
theorem v_asg (h : Is (evE g r a M) (fun x M1 => Q (.next (r.set i (some x))) M1) E) : Is (evS g (.asg i a) r M) Q E := by
  simp only [evS]; exact is_bind (h.imp fun _ _ q => is_ok rfl q)
theorem v_asgT {is : List Nat} (h : Is (evE g r a M) (fun x M1 => Op (bind1 is false x r) fun r1 => Q (.next r1) M1) E) : Is (evS g (.asgT is a) r M) Q E := by
  simp only [evS]; exact is_bind (h.imp fun x M1 ⟨r1, e, q⟩ => by rw [e]; first | exact q | exact is_ok rfl q | exact is_exn rfl q)
theorem v_asgP {is : List Nat} (h : Is (evL g r es M) (fun xs M1 => Op (bind1 is false (.tup xs) r) fun r1 => Q (.next r1) M1) E) : Is (evS g (.asgP is es) r M) Q E := by
  simp only [evS]; exact is_bind (h.imp fun x M1 ⟨r1, e, q⟩ => by rw [e]; first | exact q | exact is_ok rfl q | exact is_exn rfl q)
theorem v_sat (h : Is (evE g r a M) (fun y M1 => Is (evE g r o M1) (fun x M2 => Op (satV g.cl M2 x f y) fun M3 => Q (.next r) M3) E) E) : Is (evS g (.sat o f a) r M) Q E := by
  simp only [evS]; exact is_bind (h.imp fun y M1 h1 => is_bind (h1.imp fun x M2 ⟨M3, e, q⟩ => by rw [e]; first | exact q | exact is_ok rfl q | exact is_exn rfl q))
theorem v_sub (h : Is (evE g r a M) (fun y M1 => Is (evE g r o M1) (fun x M2 => Is (evE g r k M2) (fun z M3 => Op (subV M3 x z y) fun M4 => Q (.next r) M4) E) E) E) : Is (evS g (.sub o k a) r M) Q E := by
  simp only [evS]; exact is_bind (h.imp fun y M1 h1 => is_bind (h1.imp fun x M2 h2 => is_bind (h2.imp fun z M3 ⟨M4, e, q⟩ => by rw [e]; first | exact q | exact is_ok rfl q | exact is_exn rfl q)))
theorem v_augA {op : Operator} (h : Is (evE g r o M) (fun x M1 => Op (fldV g.cl M1 x f) fun z => Is (evE g r a M1) (fun y M2 => (insV M1 x).map (·.1) = (insV M2 x).map (·.1) ∧ Op (augI op z y) fun u => Op (satV g.cl M2 x f u) fun M3 => Q (.next r) M3) E) E) : Is (evS g (.augA o f op a) r M) Q E := by
  simp only [evS]
  exact is_bind (h.imp fun x M1 ⟨z, e, h1⟩ => by
    rw [e]
    exact is_bind (h1.imp fun y M2 ⟨e1, u, e2, M3, e3, q⟩ => by
      rw [if_pos e1, e2]
      dsimp only
      rw [e3]
      first | exact q | exact is_ok rfl q | exact is_exn rfl q))
theorem v_augV {op : Operator} (e : r[i]? = some (some z)) (h : Is (evE g r a M) (fun y M1 => Op (augI op z y) fun u => Q (.next (r.set i (some u))) M1) E) : Is (evS g (.augV i op a) r M) Q E := by
  simp only [evS, e]
  exact is_bind (h.imp fun y M1 ⟨u, e, q⟩ => by rw [e]; first | exact q | exact is_ok rfl q | exact is_exn rfl q)
theorem v_exp (h : Is (evE g r a M) (fun _ M1 => Q (.next r) M1) E) : Is (evS g (.exp a) r M) Q E := by simp only [evS]; exact is_bind (h.imp fun _ _ q => is_ok rfl q)
theorem v_ret (h : Is (evE g r a M) (fun x M1 => Q (.ret x) M1) E) : Is (evS g (.ret a) r M) Q E := by simp only [evS]; exact is_bind (h.imp fun _ _ q => is_ok rfl q)
theorem v_retN (h : Q (.ret .non) M) : Is (evS g .retN r M) Q E := by simp only [evS]; first | exact h | exact is_ok rfl h | exact is_exn rfl h
theorem v_ite (h : Is (evE g r c M) (fun x M1 => Op (truth M1 x) fun k => if k = true then Is (evB g bs r M1) Q E else Is (evB g bs' r M1) Q E) E) : Is (evS g (.ite c bs bs') r M) Q E := by
  simp only [evS, bitV]
  refine is_bind (is_bind (h.imp fun x M1 h1 => is_opt ?_))
  obtain ⟨k, e, q⟩ := h1
  refine ⟨k, e, ?_⟩
  cases k with
  | true => rw [if_pos rfl] at q; first | exact q | exact is_ok rfl q | exact is_exn rfl q
  | false => rw [if_neg Bool.false_ne_true] at q; first | exact q | exact is_ok rfl q | exact is_exn rfl q
theorem v_for {tg : List Nat} {one : Bool} {it : CI} (h : Is (evI g r it M) (fun xs M1 => Is (forV (fun x r1 M2 => match bind1 tg one x r1 with
    | none => .stuck
    | some r2 => evB g bs r2 M2) xs r M1) Q E) E) : Is (evS g (.forr tg one it bs) r M) Q E := by
  simp only [evS]; exact is_bind h
theorem v_rse (h : Is (evE g r a M) (fun x M1 => E f x M1) E) : Is (evS g (.rse f a) r M) Q E := by
  simp only [evS]; exact is_bind (h.imp fun x M1 q => is_exn rfl q)
theorem v_try {hs : CH} (h : Is (evB g bs r M) Q fun c x M1 => Is (evH g hs r.length c x M1) Q E) : Is (evS g (.tryA bs hs) r M) Q E := by
  simp only [evS]
  cases q : evB g bs r M with
  | ok w M1 => rw [q] at h; exact is_ok rfl (ok_is h)
  | exn c x M1 => rw [q] at h; exact exn_is h
  | stuck => rw [q] at h; exact stuck_is h
theorem v_pas (h : Q (.next r) M) : Is (evS g .pas r M) Q E := by simp only [evS]; first | exact h | exact is_ok rfl h | exact is_exn rfl h
theorem v_cnt (h : Q (.cnt r) M) : Is (evS g .cnt r M) Q E := by simp only [evS]; first | exact h | exact is_ok rfl h | exact is_exn rfl h
theorem v_brk (h : Q (.brk r) M) : Is (evS g .brk r M) Q E := by simp only [evS]; first | exact h | exact is_ok rfl h | exact is_exn rfl h
end
/-- a call, from its body -/
theorem w_body {t : Env} {n : Nat} {f : FK} {xs : List MV} {M : Mem} {d : FD} {Q : MV → Mem → Prop} {E : Str → MV → Mem → Prop} (h : t.tab f = some d) (hl : xs.length = d.np)
    (hb : Is (evB (t.cfg n) d.body (start d xs) M) (fun w M1 => match w with
      | .next _ => Is (fin d.keep M (.ok .non M1)) Q E
      | .ret x => Is (fin d.keep M (.ok x M1)) Q E
      | _ => False) fun c x M1 => Is (fin d.keep M (.exn c x M1)) Q E) : Is (evF t (n + 1) f xs M) Q E := by
  rw [evF_of h hl]
  cases q : evB (t.cfg n) d.body (start d xs) M with
  | ok w M1 =>
    rw [q] at hb
    have hb := ok_is hb
    cases w with
    | next r => exact hb
    | ret x => exact hb
    | brk r => exact (hb : False).elim
    | cnt r => exact (hb : False).elim
  | exn c x M1 => rw [q] at hb; exact exn_is hb
  | stuck => rw [q] at hb; exact stuck_is hb
section
variable {Q : MV → Mem → Prop} {E : Str → MV → Mem → Prop} {M M1 : Mem} {k : Bool} {v u : MV}
theorem isf_same (h : Q v M) : Is (fin k M (.ok v M)) Q E := by rw [fin_same]; first | exact h | exact is_ok rfl h | exact is_exn rfl h
theorem isf_len (hl : M1.length = M.length) (h : Q v M1) : Is (fin k M (.ok v M1)) Q E := by rw [fin_len hl]; first | exact h | exact is_ok rfl h | exact is_exn rfl h
theorem isf_keep (h : Q v M1) : Is (fin true M (.ok v M1)) Q E := by rw [fin_keep]; first | exact h | exact is_ok rfl h | exact is_exn rfl h
end
/-! loops -/
/-- a walk by an invariant over the places -/
theorem for_inv {f : MV → Rho → Mem → Res Flw} {Q : Flw → Mem → Prop} {E : Str → MV → Mem → Prop} (I : List MV → Rho → Mem → Prop) (hs : ∀ x xs r M, I (x :: xs) r M → Is (f x r M) (fun w M1 => match w with
      | .next r1 => I xs r1 M1
      | .cnt r1 => I xs r1 M1
      | .brk r1 => Q (.next r1) M1
      | .ret y => Q (.ret y) M1) E) (he : ∀ r M, I [] r M → Q (.next r) M) : ∀ xs r M, I xs r M → Is (forV f xs r M) Q E
  | [], r, M, h => is_ok rfl (he r M h)
  | x :: xs, r, M, h => by
    unfold forV
    refine is_bind ((hs x xs r M h).imp fun w M1 h1 => ?_)
    cases w with
    | next r1 => exact for_inv I hs he xs r1 M1 h1
    | cnt r1 => exact for_inv I hs he xs r1 M1 h1
    | brk r1 => first | exact h1 | exact is_ok rfl h1 | exact is_exn rfl h1
    | ret y => first | exact h1 | exact is_ok rfl h1 | exact is_exn rfl h1
theorem for_nil {f : MV → Rho → Mem → Res Flw} {r : Rho} {M : Mem} {Q : Flw → Mem → Prop} {E : Str → MV → Mem → Prop} (h : Q (.next r) M) : Is (forV f [] r M) Q E := is_ok rfl h
theorem for_cons {f : MV → Rho → Mem → Res Flw} {x : MV} {xs : List MV} {r : Rho} {M : Mem} {Q : Flw → Mem → Prop} {E : Str → MV → Mem → Prop} (h : Is (f x r M) (fun w M1 => match w with
      | .next r1 => Is (forV f xs r1 M1) Q E
      | .cnt r1 => Is (forV f xs r1 M1) Q E
      | .brk r1 => Q (.next r1) M1
      | .ret y => Q (.ret y) M1) E) : Is (forV f (x :: xs) r M) Q E := by
  unfold forV
  refine is_bind (h.imp fun w M1 h1 => ?_)
  cases w <;> first | exact h1 | exact is_ok rfl h1 | exact is_exn rfl h1
theorem map_nil {f : MV → Mem → Res (Option MV)} {M : Mem} {Q : List MV → Mem → Prop} {E : Str → MV → Mem → Prop} (h : Q [] M) : Is (mapR f [] M) Q E := is_ok rfl h
theorem map_cons {f : MV → Mem → Res (Option MV)} {x : MV} {xs : List MV} {M : Mem} {Q : List MV → Mem → Prop} {E : Str → MV → Mem → Prop} (h : Is (f x M) (fun o M1 => Is (mapR f xs M1) (fun ys M2 => Q (match o with
    | some y => y :: ys
    | none => ys) M2) E) E) : Is (mapR f (x :: xs) M) Q E := by
  unfold mapR
  exact is_bind (h.imp fun o M1 h1 => is_bind (h1.imp fun ys M2 h2 => is_ok rfl h2))
end Mini

set_option Elab.async false
set_option linter.all false
set_option maxRecDepth 100000
set_option maxHeartbeats 4000000
namespace LawK00
open PySem L2 Mini
/-! ### the terms -/
/-- _law_pool: _law_script, _law_k, _law_cell, _law_big, _law_mixed -/
def c0 : FD := ⟨2, 5, (.cons (.asg 2 (.con (.int 0))) (.cons (.ite (.cmp .Lt (.var 1) (.blt .len (.cons (.var 0) .nil))) (.cons (.asg 2 (.idx (.var 0) (.var 1))) .nil) .nil) (.cons (.asg 3 (.blt .max (.cons (.blt .int (.cons (.var 2) .nil)) (.cons (.blt .int (.cons (.bin .Sub (.neg (.con (.int 1))) (.var 2)) .nil)) .nil)))) (.cons (.asg 4 (.bin .Mod (.blt .int (.cons (.bin .Mult (.bin .Add (.bin .Add (.bin .Add (.bin .Mod (.blt .int (.cons (.var 3) .nil)) (.con (.int 2147483629))) (.bin .Mult (.bin .Mult (.con (.int 7919)) (.var 1)) (.var 1))) (.bin .Mult (.con (.int 31)) (.var 1))) (.con (.int 17))) (.con (.int 48271))) .nil)) (.con (.int 2147483647)))) (.cons (.ret (.nwl (.cons (.bin .Mult (.var 3) (.blt .int (.cons (.cmp .GtE (.var 3) (.bin .Pow (.con (.int 10)) (.con (.int 18)))) .nil))) (.cons (.var 4) .nil)))) .nil))))), true⟩
/-- _law_take: _law_source, _law_top, _law_digit -/
def c1 : FD := ⟨2, 3, (.cons (.ite (.cmp .Gt (.idx (.var 0) (.con (.int 0))) (.con (.int 0))) (.cons (.asg 2 (.bin .Mod (.blt .int (.cons (.idx (.var 0) (.con (.int 0))) .nil)) (.var 1))) (.cons (.sub (.var 0) (.con (.int 0)) (.bin .FloorDiv (.idx (.var 0) (.con (.int 0))) (.var 1))) (.cons (.ret (.var 2)) .nil))) .nil) (.cons (.sub (.var 0) (.con (.int 1)) (.bin .Mod (.blt .int (.cons (.bin .Add (.bin .Mult (.idx (.var 0) (.con (.int 1))) (.con (.int 39373))) (.con (.int 7))) .nil)) (.con (.int 2147483647)))) (.cons (.ret (.bin .Mod (.blt .int (.cons (.bin .FloorDiv (.bin .Mod (.blt .int (.cons (.bin .Mult (.idx (.var 0) (.con (.int 1))) (.idx (.var 0) (.con (.int 1)))) .nil)) (.con (.int 2147483629))) (.con (.int 32))) .nil)) (.var 1))) .nil))), false⟩
/-- _law_first: _law_thing, _law_found -/
def c2 : FD := ⟨1, 2, (.cons (.asg 1 (.lst (.cons (.mke "NoDeed" (.var 0)) (.cons (.mke "NoBook" (.var 0)) (.cons (.mke "NotClosed" (.var 0)) (.cons (.mke "Unseen" (.var 0)) (.cons (.mke "NoBody" (.var 0)) (.cons (.mke "NoStamp" (.var 0)) .nil)))))))) (.cons (.asg 1 (.bin .Add (.var 1) (.lst (.cons (.mke "NoStamps" (.var 0)) (.cons (.mke "NoBranch" (.var 0)) (.cons (.mke "NoHeads" (.var 0)) (.cons (.mke "NoHand" (.var 0)) (.cons (.mke "NoChange" (.var 0)) (.cons (.mke "NoState" (.var 0)) .nil))))))))) (.cons (.asg 1 (.bin .Add (.var 1) (.lst (.cons (.mke "NoThing" (.var 0)) (.cons (.mke "NoThings" (.var 0)) (.cons (.mke "NoSlot" (.var 0)) (.cons (.mke "NoGap" (.var 0)) (.cons (.mke "NoIndex" (.var 0)) (.cons (.mke "NoWeights" (.var 0)) .nil))))))))) (.cons (.asg 1 (.bin .Add (.var 1) (.lst (.cons (.mke "NoNaming" (.var 0)) (.cons (.mke "NoName" (.var 0)) (.cons (.mke "BadText" (.var 0)) (.cons (.mke "NotVisible" (.var 0)) (.cons (.mke "NoTarget" (.var 0)) (.cons (.mke "NoPairs" (.var 0)) .nil))))))))) (.cons (.asg 1 (.bin .Add (.var 1) (.lst (.cons (.mke "HasCause" (.var 0)) (.cons (.mke "NoContents" (.var 0)) (.cons (.mke "NoMenu" (.var 0)) (.cons (.mke "NoPacket" (.var 0)) (.cons (.mke "NothingBack" (.var 0)) .nil)))))))) (.cons (.ret (.bin .Add (.var 1) (.lst (.cons (.mke "NoHands" (.var 0)) (.cons (.mke "NoBranches" (.var 0)) (.cons (.mke "BadRow" (.var 0)) (.cons (.mke "NoLine" (.var 0)) .nil))))))) .nil)))))), false⟩
/-- _law_second: _law_thing, _law_found -/
def c3 : FD := ⟨1, 2, (.cons (.asg 1 (.lst (.cons (.mke "NoDeed" (.var 0)) (.cons (.mke "NoBook" (.var 0)) (.cons (.mke "NotClosed" (.var 0)) (.cons (.mke "Unseen" (.var 0)) (.cons (.mke "NoBody" (.var 0)) .nil))))))) (.cons (.asg 1 (.bin .Add (.var 1) (.lst (.cons (.mke "NoStamp" (.var 0)) (.cons (.mke "NoStamps" (.var 0)) (.cons (.mke "NoBranch" (.var 0)) (.cons (.mke "NoHeads" (.var 0)) .nil))))))) (.cons (.asg 1 (.bin .Add (.var 1) (.lst (.cons (.mke "NoHand" (.var 0)) (.cons (.mke "NoChange" (.var 0)) (.cons (.mke "NoState" (.var 0)) (.cons (.mke "NoThing" (.var 0)) .nil))))))) (.cons (.asg 1 (.bin .Add (.var 1) (.lst (.cons (.mke "NoThings" (.var 0)) (.cons (.mke "NoSlot" (.var 0)) (.cons (.mke "NoGap" (.var 0)) (.cons (.mke "NoIndex" (.var 0)) .nil))))))) (.cons (.asg 1 (.bin .Add (.var 1) (.lst (.cons (.mke "NoWeights" (.var 0)) (.cons (.mke "NoNaming" (.var 0)) (.cons (.mke "NoName" (.var 0)) (.cons (.mke "BadText" (.var 0)) .nil))))))) (.cons (.asg 1 (.bin .Add (.var 1) (.lst (.cons (.mke "NotVisible" (.var 0)) (.cons (.mke "NoTarget" (.var 0)) (.cons (.mke "NoPairs" (.var 0)) (.cons (.mke "HasCause" (.var 0)) .nil))))))) (.cons (.asg 1 (.bin .Add (.var 1) (.lst (.cons (.mke "NoContents" (.var 0)) (.cons (.mke "NoMenu" (.var 0)) (.cons (.mke "NoPacket" (.var 0)) (.cons (.mke "NothingBack" (.var 0)) .nil))))))) (.cons (.ret (.bin .Add (.var 1) (.lst (.cons (.mke "NoHands" (.var 0)) (.cons (.mke "NoBranches" (.var 0)) (.cons (.mke "BadRow" (.var 0)) (.cons (.mke "NoLine" (.var 0)) .nil))))))) .nil)))))))), false⟩
/-- _law_kinds: _law_one, _law_found -/
def c4 : FD := ⟨1, 2, (.cons (.asg 1 (.lst (.cons (.ise (.var 0) "NoDeed") (.cons (.ise (.var 0) "NoBook") (.cons (.ise (.var 0) "NotClosed") (.cons (.ise (.var 0) "Unseen") .nil)))))) (.cons (.asg 1 (.bin .Add (.var 1) (.lst (.cons (.ise (.var 0) "NoBody") (.cons (.ise (.var 0) "NoStamp") (.cons (.ise (.var 0) "NoStamps") .nil)))))) (.cons (.asg 1 (.bin .Add (.var 1) (.lst (.cons (.ise (.var 0) "NoBranch") (.cons (.ise (.var 0) "NoHeads") (.cons (.ise (.var 0) "NoHand") .nil)))))) (.cons (.asg 1 (.bin .Add (.var 1) (.lst (.cons (.ise (.var 0) "NoChange") (.cons (.ise (.var 0) "NoState") (.cons (.ise (.var 0) "NoThing") .nil)))))) (.cons (.asg 1 (.bin .Add (.var 1) (.lst (.cons (.ise (.var 0) "NoThings") (.cons (.ise (.var 0) "NoSlot") (.cons (.ise (.var 0) "NoGap") .nil)))))) (.cons (.asg 1 (.bin .Add (.var 1) (.lst (.cons (.ise (.var 0) "NoIndex") (.cons (.ise (.var 0) "NoWeights") (.cons (.ise (.var 0) "NoNaming") .nil)))))) (.cons (.asg 1 (.bin .Add (.var 1) (.lst (.cons (.ise (.var 0) "NoName") (.cons (.ise (.var 0) "BadText") (.cons (.ise (.var 0) "NotVisible") .nil)))))) (.cons (.asg 1 (.bin .Add (.var 1) (.lst (.cons (.ise (.var 0) "NoTarget") (.cons (.ise (.var 0) "NoPairs") (.cons (.ise (.var 0) "HasCause") .nil)))))) (.cons (.asg 1 (.bin .Add (.var 1) (.lst (.cons (.ise (.var 0) "NoContents") (.cons (.ise (.var 0) "NoMenu") (.cons (.ise (.var 0) "NoPacket") .nil)))))) (.cons (.asg 1 (.bin .Add (.var 1) (.lst (.cons (.ise (.var 0) "NothingBack") (.cons (.ise (.var 0) "NoHands") (.cons (.ise (.var 0) "NoBranches") .nil)))))) (.cons (.ret (.bin .Add (.var 1) (.lst (.cons (.ise (.var 0) "BadRow") (.cons (.ise (.var 0) "NoLine") (.cons (.ise (.var 0) "TooMany") .nil)))))) .nil))))))))))), false⟩
/-- law: _law_script, _law_source, _law_some, _law_thing, _law_kept_text, _law_made, _law_at, _law_one, _law_k -/
def c5 : FD := ⟨1, 9, (.cons (.asg 1 (.cal "_law_pool" (.cons (.var 0) (.cons (.con (.int 0)) .nil)))) (.cons (.asg 2 (.lst (.cons (.con .non) (.cons (.con (.bl true)) (.cons (.con (.int 0)) (.cons (.con (.str "a")) (.cons (.tup (.cons (.con (.int 1)) (.cons (.con .non) .nil))) (.cons (.lst (.cons (.con (.int 1)) (.cons (.lst (.cons (.con (.int 2)) .nil)) .nil))) (.cons (.dsp [.inr "a"] (.cons (.con (.int 1)) .nil)) .nil))))))))) (.cons (.forr [3] true (.seq (.bin .Add (.var 2) (.lst (.cons (.cal "_law_take" (.cons (.var 1) (.cons (.bin .Pow (.con (.int 10)) (.con (.int 30))) .nil))) (.cons (.bin .Sub (.neg (.con (.int 1))) (.cal "_law_take" (.cons (.var 1) (.cons (.con (.int 9)) .nil)))) .nil))))) (.cons (.asgP [5, 4] (.cons (.cal "_law_first" (.cons (.var 3) .nil)) (.cons (.rpr (.var 3)) .nil))) (.cons (.ite (.cmp .NotEq (.lcp [7] true (.seq (.bin .Add (.var 5) (.cal "_law_second" (.cons (.var 3) .nil)))) .none (.rpr (.eat (.var 7) "told"))) (.bin .Mult (.lst (.cons (.var 4) .nil)) (.con (.int 66)))) (.cons (.ret (.con (.bl false))) .nil) .nil) (.cons (.ite (.or (.cmp .NotEq (.rpr (.eat (.mke "TooMany" (.var 3)) "most")) (.var 4)) (.cmp .NotEq (.rpr (.eat (.mke "TooMany" (.var 3)) "most")) (.var 4))) (.cons (.ret (.con (.bl false))) .nil) .nil) (.cons (.asg 5 (.bin .Add (.var 5) (.lst (.cons (.mke "TooMany" (.var 3)) .nil)))) (.cons (.forr [6, 7] false (.enu (.var 5)) (.cons (.ite (.cmp .NotEq (.cal "_law_kinds" (.cons (.var 7) .nil)) (.lcp [8] true (.rng (.con (.int 34))) .none (.cmp .Eq (.var 6) (.var 8)))) (.cons (.ret (.con (.bl false))) .nil) .nil) .nil)) (.cons (.ite (.cmp .NotEq (.lcp [7] true (.seq (.var 5)) .none (.ise (.var 7) "ScopeError")) (.bin .Add (.bin .Mult (.lst (.cons (.con (.bl true)) .nil)) (.con (.int 33))) (.lst (.cons (.con (.bl false)) .nil)))) (.cons (.ret (.con (.bl false))) .nil) .nil) (.cons (.ite (.cmp .NotEq (.lcp [7] true (.seq (.var 5)) .none (.ise (.var 7) "ValueError")) (.bin .Add (.bin .Mult (.lst (.cons (.con (.bl true)) .nil)) (.con (.int 33))) (.lst (.cons (.con (.bl false)) .nil)))) (.cons (.ret (.con (.bl false))) .nil) .nil) (.cons (.ite (.cmp .NotEq (.lcp [7] true (.seq (.var 5)) .none (.ise (.var 7) "OverflowError")) (.bin .Add (.bin .Mult (.lst (.cons (.con (.bl false)) .nil)) (.con (.int 33))) (.lst (.cons (.con (.bl true)) .nil)))) (.cons (.ret (.con (.bl false))) .nil) .nil) .nil))))))))) (.cons (.ret (.con (.bl true))) .nil)))), false⟩
def tabL : List (FK × FD) := [(("_law_pool", none), c0), (("_law_take", none), c1), (("_law_first", none), c2), (("_law_second", none), c3), (("_law_kinds", none), c4), (("law", none), c5)]
def tab (k : FK) : Option FD := tabL.lookup k
def eN : List Str := ((["NoDeed", "NoBook", "NotClosed", "Unseen", "NoBody", "NoStamp", "NoStamps", "NoBranch", "NoHeads", "NoHand", "NoChange", "NoState", "NoThing", "NoThings", "NoSlot", "NoGap", "NoIndex", "NoWeights", "NoNaming", "NoName"] : List Str) ++ (["BadText", "NotVisible", "NoTarget", "NoPairs", "HasCause", "NoContents", "NoMenu", "NoPacket", "NothingBack", "NoHands", "NoBranches", "BadRow", "NoLine", "TooMany"] : List Str))
def oN : List Str := ((["TooMany", "NoLine", "BadRow", "NoBranches", "NoHands", "NothingBack", "NoPacket", "NoMenu", "NoContents", "HasCause", "NoPairs", "NoTarget", "NotVisible", "BadText", "NoName", "NoNaming", "NoWeights", "NoIndex", "NoGap", "NoSlot"] : List Str) ++ (["NoThings", "NoThing", "NoState", "NoChange", "NoHand", "NoHeads", "NoBranch", "NoStamps", "NoStamp", "NoBody", "Unseen", "NotClosed", "NoBook", "NoDeed", "OverflowError", "ValueError", "ScopeError"] : List Str))
def isF (a b : Str) : Bool := decide (a = b) || (decide (b = "OverflowError") && decide (a = "TooMany")) || (decide (b = "ValueError") && decide (a ≠ "TooMany")) || (decide (b = "ScopeError") && decide (a ≠ "TooMany"))
def aN : List Str := ["ScopeError"]
def glos : List Str := ((["_law_pool", "_law_take", "_law_first", "_law_second", "_law_kinds", "law", "NoDeed", "NoBook", "NotClosed", "Unseen", "NoBody", "NoStamp", "NoStamps", "NoBranch", "NoHeads", "NoHand", "NoChange", "NoState", "NoThing", "NoThings"] : List Str) ++ (["NoSlot", "NoGap", "NoIndex", "NoWeights", "NoNaming", "NoName", "BadText", "NotVisible", "NoTarget", "NoPairs", "HasCause", "NoContents", "NoMenu", "NoPacket", "NothingBack", "NoHands", "NoBranches", "BadRow", "NoLine", "TooMany"] : List Str) ++ (["ScopeError"] : List Str))
def tell0 (fn : List He.DefD) : Tell := ⟨fn, glos, ["int", "max", "len", "super", "isinstance", "OverflowError", "ValueError", "enumerate", "range", "repr"], [], [], [], [], [], [], [], [⟨"NoDeed", "NoDeed.__init__", [⟨6, 17, 6, 21⟩, ⟨6, 23, 6, 27⟩, ⟨7, 8, 7, 13⟩, ⟨7, 8, 7, 15⟩, ⟨7, 8, 7, 24⟩, ⟨7, 25, 7, 29⟩, ⟨7, 8, 7, 30⟩, ⟨7, 8, 7, 30⟩, ⟨8, 8, 8, 12⟩, ⟨8, 8, 8, 17⟩, ⟨8, 20, 8, 24⟩, ⟨8, 8, 8, 24⟩]⟩,
  ⟨"NoBook", "NoBook.__init__", [⟨11, 17, 11, 21⟩, ⟨11, 23, 11, 27⟩, ⟨12, 8, 12, 13⟩, ⟨12, 8, 12, 15⟩, ⟨12, 8, 12, 24⟩, ⟨12, 25, 12, 29⟩, ⟨12, 8, 12, 30⟩, ⟨12, 8, 12, 30⟩, ⟨13, 8, 13, 12⟩, ⟨13, 8, 13, 17⟩, ⟨13, 20, 13, 24⟩, ⟨13, 8, 13, 24⟩]⟩,
  ⟨"NotClosed", "NotClosed.__init__", [⟨16, 17, 16, 21⟩, ⟨16, 23, 16, 27⟩, ⟨17, 8, 17, 13⟩, ⟨17, 8, 17, 15⟩, ⟨17, 8, 17, 24⟩, ⟨17, 25, 17, 29⟩, ⟨17, 8, 17, 30⟩, ⟨17, 8, 17, 30⟩, ⟨18, 8, 18, 12⟩, ⟨18, 8, 18, 17⟩, ⟨18, 20, 18, 24⟩, ⟨18, 8, 18, 24⟩]⟩,
  ⟨"Unseen", "Unseen.__init__", [⟨21, 17, 21, 21⟩, ⟨21, 23, 21, 27⟩, ⟨22, 8, 22, 13⟩, ⟨22, 8, 22, 15⟩, ⟨22, 8, 22, 24⟩, ⟨22, 25, 22, 29⟩, ⟨22, 8, 22, 30⟩, ⟨22, 8, 22, 30⟩, ⟨23, 8, 23, 12⟩, ⟨23, 8, 23, 17⟩, ⟨23, 20, 23, 24⟩, ⟨23, 8, 23, 24⟩]⟩,
  ⟨"NoBody", "NoBody.__init__", [⟨26, 17, 26, 21⟩, ⟨26, 23, 26, 27⟩, ⟨27, 8, 27, 13⟩, ⟨27, 8, 27, 15⟩, ⟨27, 8, 27, 24⟩, ⟨27, 25, 27, 29⟩, ⟨27, 8, 27, 30⟩, ⟨27, 8, 27, 30⟩, ⟨28, 8, 28, 12⟩, ⟨28, 8, 28, 17⟩, ⟨28, 20, 28, 24⟩, ⟨28, 8, 28, 24⟩]⟩,
  ⟨"NoStamp", "NoStamp.__init__", [⟨31, 17, 31, 21⟩, ⟨31, 23, 31, 27⟩, ⟨32, 8, 32, 13⟩, ⟨32, 8, 32, 15⟩, ⟨32, 8, 32, 24⟩, ⟨32, 25, 32, 29⟩, ⟨32, 8, 32, 30⟩, ⟨32, 8, 32, 30⟩, ⟨33, 8, 33, 12⟩, ⟨33, 8, 33, 17⟩, ⟨33, 20, 33, 24⟩, ⟨33, 8, 33, 24⟩]⟩,
  ⟨"NoStamps", "NoStamps.__init__", [⟨36, 17, 36, 21⟩, ⟨36, 23, 36, 27⟩, ⟨37, 8, 37, 13⟩, ⟨37, 8, 37, 15⟩, ⟨37, 8, 37, 24⟩, ⟨37, 25, 37, 29⟩, ⟨37, 8, 37, 30⟩, ⟨37, 8, 37, 30⟩, ⟨38, 8, 38, 12⟩, ⟨38, 8, 38, 17⟩, ⟨38, 20, 38, 24⟩, ⟨38, 8, 38, 24⟩]⟩,
  ⟨"NoBranch", "NoBranch.__init__", [⟨41, 17, 41, 21⟩, ⟨41, 23, 41, 27⟩, ⟨42, 8, 42, 13⟩, ⟨42, 8, 42, 15⟩, ⟨42, 8, 42, 24⟩, ⟨42, 25, 42, 29⟩, ⟨42, 8, 42, 30⟩, ⟨42, 8, 42, 30⟩, ⟨43, 8, 43, 12⟩, ⟨43, 8, 43, 17⟩, ⟨43, 20, 43, 24⟩, ⟨43, 8, 43, 24⟩]⟩,
  ⟨"NoHeads", "NoHeads.__init__", [⟨46, 17, 46, 21⟩, ⟨46, 23, 46, 27⟩, ⟨47, 8, 47, 13⟩, ⟨47, 8, 47, 15⟩, ⟨47, 8, 47, 24⟩, ⟨47, 25, 47, 29⟩, ⟨47, 8, 47, 30⟩, ⟨47, 8, 47, 30⟩, ⟨48, 8, 48, 12⟩, ⟨48, 8, 48, 17⟩, ⟨48, 20, 48, 24⟩, ⟨48, 8, 48, 24⟩]⟩,
  ⟨"NoHand", "NoHand.__init__", [⟨51, 17, 51, 21⟩, ⟨51, 23, 51, 27⟩, ⟨52, 8, 52, 13⟩, ⟨52, 8, 52, 15⟩, ⟨52, 8, 52, 24⟩, ⟨52, 25, 52, 29⟩, ⟨52, 8, 52, 30⟩, ⟨52, 8, 52, 30⟩, ⟨53, 8, 53, 12⟩, ⟨53, 8, 53, 17⟩, ⟨53, 20, 53, 24⟩, ⟨53, 8, 53, 24⟩]⟩,
  ⟨"NoChange", "NoChange.__init__", [⟨56, 17, 56, 21⟩, ⟨56, 23, 56, 27⟩, ⟨57, 8, 57, 13⟩, ⟨57, 8, 57, 15⟩, ⟨57, 8, 57, 24⟩, ⟨57, 25, 57, 29⟩, ⟨57, 8, 57, 30⟩, ⟨57, 8, 57, 30⟩, ⟨58, 8, 58, 12⟩, ⟨58, 8, 58, 17⟩, ⟨58, 20, 58, 24⟩, ⟨58, 8, 58, 24⟩]⟩,
  ⟨"NoState", "NoState.__init__", [⟨61, 17, 61, 21⟩, ⟨61, 23, 61, 27⟩, ⟨62, 8, 62, 13⟩, ⟨62, 8, 62, 15⟩, ⟨62, 8, 62, 24⟩, ⟨62, 25, 62, 29⟩, ⟨62, 8, 62, 30⟩, ⟨62, 8, 62, 30⟩, ⟨63, 8, 63, 12⟩, ⟨63, 8, 63, 17⟩, ⟨63, 20, 63, 24⟩, ⟨63, 8, 63, 24⟩]⟩,
  ⟨"NoThing", "NoThing.__init__", [⟨66, 17, 66, 21⟩, ⟨66, 23, 66, 27⟩, ⟨67, 8, 67, 13⟩, ⟨67, 8, 67, 15⟩, ⟨67, 8, 67, 24⟩, ⟨67, 25, 67, 29⟩, ⟨67, 8, 67, 30⟩, ⟨67, 8, 67, 30⟩, ⟨68, 8, 68, 12⟩, ⟨68, 8, 68, 17⟩, ⟨68, 20, 68, 24⟩, ⟨68, 8, 68, 24⟩]⟩,
  ⟨"NoThings", "NoThings.__init__", [⟨71, 17, 71, 21⟩, ⟨71, 23, 71, 27⟩, ⟨72, 8, 72, 13⟩, ⟨72, 8, 72, 15⟩, ⟨72, 8, 72, 24⟩, ⟨72, 25, 72, 29⟩, ⟨72, 8, 72, 30⟩, ⟨72, 8, 72, 30⟩, ⟨73, 8, 73, 12⟩, ⟨73, 8, 73, 17⟩, ⟨73, 20, 73, 24⟩, ⟨73, 8, 73, 24⟩]⟩,
  ⟨"NoSlot", "NoSlot.__init__", [⟨76, 17, 76, 21⟩, ⟨76, 23, 76, 27⟩, ⟨77, 8, 77, 13⟩, ⟨77, 8, 77, 15⟩, ⟨77, 8, 77, 24⟩, ⟨77, 25, 77, 29⟩, ⟨77, 8, 77, 30⟩, ⟨77, 8, 77, 30⟩, ⟨78, 8, 78, 12⟩, ⟨78, 8, 78, 17⟩, ⟨78, 20, 78, 24⟩, ⟨78, 8, 78, 24⟩]⟩,
  ⟨"NoGap", "NoGap.__init__", [⟨81, 17, 81, 21⟩, ⟨81, 23, 81, 27⟩, ⟨82, 8, 82, 13⟩, ⟨82, 8, 82, 15⟩, ⟨82, 8, 82, 24⟩, ⟨82, 25, 82, 29⟩, ⟨82, 8, 82, 30⟩, ⟨82, 8, 82, 30⟩, ⟨83, 8, 83, 12⟩, ⟨83, 8, 83, 17⟩, ⟨83, 20, 83, 24⟩, ⟨83, 8, 83, 24⟩]⟩,
  ⟨"NoIndex", "NoIndex.__init__", [⟨86, 17, 86, 21⟩, ⟨86, 23, 86, 27⟩, ⟨87, 8, 87, 13⟩, ⟨87, 8, 87, 15⟩, ⟨87, 8, 87, 24⟩, ⟨87, 25, 87, 29⟩, ⟨87, 8, 87, 30⟩, ⟨87, 8, 87, 30⟩, ⟨88, 8, 88, 12⟩, ⟨88, 8, 88, 17⟩, ⟨88, 20, 88, 24⟩, ⟨88, 8, 88, 24⟩]⟩,
  ⟨"NoWeights", "NoWeights.__init__", [⟨91, 17, 91, 21⟩, ⟨91, 23, 91, 27⟩, ⟨92, 8, 92, 13⟩, ⟨92, 8, 92, 15⟩, ⟨92, 8, 92, 24⟩, ⟨92, 25, 92, 29⟩, ⟨92, 8, 92, 30⟩, ⟨92, 8, 92, 30⟩, ⟨93, 8, 93, 12⟩, ⟨93, 8, 93, 17⟩, ⟨93, 20, 93, 24⟩, ⟨93, 8, 93, 24⟩]⟩,
  ⟨"NoNaming", "NoNaming.__init__", [⟨96, 17, 96, 21⟩, ⟨96, 23, 96, 27⟩, ⟨97, 8, 97, 13⟩, ⟨97, 8, 97, 15⟩, ⟨97, 8, 97, 24⟩, ⟨97, 25, 97, 29⟩, ⟨97, 8, 97, 30⟩, ⟨97, 8, 97, 30⟩, ⟨98, 8, 98, 12⟩, ⟨98, 8, 98, 17⟩, ⟨98, 20, 98, 24⟩, ⟨98, 8, 98, 24⟩]⟩,
  ⟨"NoName", "NoName.__init__", [⟨101, 17, 101, 21⟩, ⟨101, 23, 101, 27⟩, ⟨102, 8, 102, 13⟩, ⟨102, 8, 102, 15⟩, ⟨102, 8, 102, 24⟩, ⟨102, 25, 102, 29⟩, ⟨102, 8, 102, 30⟩, ⟨102, 8, 102, 30⟩, ⟨103, 8, 103, 12⟩, ⟨103, 8, 103, 17⟩, ⟨103, 20, 103, 24⟩, ⟨103, 8, 103, 24⟩]⟩,
  ⟨"BadText", "BadText.__init__", [⟨106, 17, 106, 21⟩, ⟨106, 23, 106, 27⟩, ⟨107, 8, 107, 13⟩, ⟨107, 8, 107, 15⟩, ⟨107, 8, 107, 24⟩, ⟨107, 25, 107, 29⟩, ⟨107, 8, 107, 30⟩, ⟨107, 8, 107, 30⟩, ⟨108, 8, 108, 12⟩, ⟨108, 8, 108, 17⟩, ⟨108, 20, 108, 24⟩, ⟨108, 8, 108, 24⟩]⟩,
  ⟨"NotVisible", "NotVisible.__init__", [⟨111, 17, 111, 21⟩, ⟨111, 23, 111, 27⟩, ⟨112, 8, 112, 13⟩, ⟨112, 8, 112, 15⟩, ⟨112, 8, 112, 24⟩, ⟨112, 25, 112, 29⟩, ⟨112, 8, 112, 30⟩, ⟨112, 8, 112, 30⟩, ⟨113, 8, 113, 12⟩, ⟨113, 8, 113, 17⟩, ⟨113, 20, 113, 24⟩, ⟨113, 8, 113, 24⟩]⟩,
  ⟨"NoTarget", "NoTarget.__init__", [⟨116, 17, 116, 21⟩, ⟨116, 23, 116, 27⟩, ⟨117, 8, 117, 13⟩, ⟨117, 8, 117, 15⟩, ⟨117, 8, 117, 24⟩, ⟨117, 25, 117, 29⟩, ⟨117, 8, 117, 30⟩, ⟨117, 8, 117, 30⟩, ⟨118, 8, 118, 12⟩, ⟨118, 8, 118, 17⟩, ⟨118, 20, 118, 24⟩, ⟨118, 8, 118, 24⟩]⟩,
  ⟨"NoPairs", "NoPairs.__init__", [⟨121, 17, 121, 21⟩, ⟨121, 23, 121, 27⟩, ⟨122, 8, 122, 13⟩, ⟨122, 8, 122, 15⟩, ⟨122, 8, 122, 24⟩, ⟨122, 25, 122, 29⟩, ⟨122, 8, 122, 30⟩, ⟨122, 8, 122, 30⟩, ⟨123, 8, 123, 12⟩, ⟨123, 8, 123, 17⟩, ⟨123, 20, 123, 24⟩, ⟨123, 8, 123, 24⟩]⟩,
  ⟨"HasCause", "HasCause.__init__", [⟨126, 17, 126, 21⟩, ⟨126, 23, 126, 27⟩, ⟨127, 8, 127, 13⟩, ⟨127, 8, 127, 15⟩, ⟨127, 8, 127, 24⟩, ⟨127, 25, 127, 29⟩, ⟨127, 8, 127, 30⟩, ⟨127, 8, 127, 30⟩, ⟨128, 8, 128, 12⟩, ⟨128, 8, 128, 17⟩, ⟨128, 20, 128, 24⟩, ⟨128, 8, 128, 24⟩]⟩,
  ⟨"NoContents", "NoContents.__init__", [⟨131, 17, 131, 21⟩, ⟨131, 23, 131, 27⟩, ⟨132, 8, 132, 13⟩, ⟨132, 8, 132, 15⟩, ⟨132, 8, 132, 24⟩, ⟨132, 25, 132, 29⟩, ⟨132, 8, 132, 30⟩, ⟨132, 8, 132, 30⟩, ⟨133, 8, 133, 12⟩, ⟨133, 8, 133, 17⟩, ⟨133, 20, 133, 24⟩, ⟨133, 8, 133, 24⟩]⟩,
  ⟨"NoMenu", "NoMenu.__init__", [⟨136, 17, 136, 21⟩, ⟨136, 23, 136, 27⟩, ⟨137, 8, 137, 13⟩, ⟨137, 8, 137, 15⟩, ⟨137, 8, 137, 24⟩, ⟨137, 25, 137, 29⟩, ⟨137, 8, 137, 30⟩, ⟨137, 8, 137, 30⟩, ⟨138, 8, 138, 12⟩, ⟨138, 8, 138, 17⟩, ⟨138, 20, 138, 24⟩, ⟨138, 8, 138, 24⟩]⟩,
  ⟨"NoPacket", "NoPacket.__init__", [⟨141, 17, 141, 21⟩, ⟨141, 23, 141, 27⟩, ⟨142, 8, 142, 13⟩, ⟨142, 8, 142, 15⟩, ⟨142, 8, 142, 24⟩, ⟨142, 25, 142, 29⟩, ⟨142, 8, 142, 30⟩, ⟨142, 8, 142, 30⟩, ⟨143, 8, 143, 12⟩, ⟨143, 8, 143, 17⟩, ⟨143, 20, 143, 24⟩, ⟨143, 8, 143, 24⟩]⟩,
  ⟨"NothingBack", "NothingBack.__init__", [⟨146, 17, 146, 21⟩, ⟨146, 23, 146, 27⟩, ⟨147, 8, 147, 13⟩, ⟨147, 8, 147, 15⟩, ⟨147, 8, 147, 24⟩, ⟨147, 25, 147, 29⟩, ⟨147, 8, 147, 30⟩, ⟨147, 8, 147, 30⟩, ⟨148, 8, 148, 12⟩, ⟨148, 8, 148, 17⟩, ⟨148, 20, 148, 24⟩, ⟨148, 8, 148, 24⟩]⟩,
  ⟨"NoHands", "NoHands.__init__", [⟨151, 17, 151, 21⟩, ⟨151, 23, 151, 27⟩, ⟨152, 8, 152, 13⟩, ⟨152, 8, 152, 15⟩, ⟨152, 8, 152, 24⟩, ⟨152, 25, 152, 29⟩, ⟨152, 8, 152, 30⟩, ⟨152, 8, 152, 30⟩, ⟨153, 8, 153, 12⟩, ⟨153, 8, 153, 17⟩, ⟨153, 20, 153, 24⟩, ⟨153, 8, 153, 24⟩]⟩,
  ⟨"NoBranches", "NoBranches.__init__", [⟨156, 17, 156, 21⟩, ⟨156, 23, 156, 27⟩, ⟨157, 8, 157, 13⟩, ⟨157, 8, 157, 15⟩, ⟨157, 8, 157, 24⟩, ⟨157, 25, 157, 29⟩, ⟨157, 8, 157, 30⟩, ⟨157, 8, 157, 30⟩, ⟨158, 8, 158, 12⟩, ⟨158, 8, 158, 17⟩, ⟨158, 20, 158, 24⟩, ⟨158, 8, 158, 24⟩]⟩,
  ⟨"BadRow", "BadRow.__init__", [⟨161, 17, 161, 21⟩, ⟨161, 23, 161, 27⟩, ⟨162, 8, 162, 13⟩, ⟨162, 8, 162, 15⟩, ⟨162, 8, 162, 24⟩, ⟨162, 25, 162, 29⟩, ⟨162, 8, 162, 30⟩, ⟨162, 8, 162, 30⟩, ⟨163, 8, 163, 12⟩, ⟨163, 8, 163, 17⟩, ⟨163, 20, 163, 24⟩, ⟨163, 8, 163, 24⟩]⟩,
  ⟨"NoLine", "NoLine.__init__", [⟨166, 17, 166, 21⟩, ⟨166, 23, 166, 27⟩, ⟨167, 8, 167, 13⟩, ⟨167, 8, 167, 15⟩, ⟨167, 8, 167, 24⟩, ⟨167, 25, 167, 29⟩, ⟨167, 8, 167, 30⟩, ⟨167, 8, 167, 30⟩, ⟨168, 8, 168, 12⟩, ⟨168, 8, 168, 17⟩, ⟨168, 20, 168, 24⟩, ⟨168, 8, 168, 24⟩]⟩], "/claim/cut.py", [⟨"TooMany", "TooMany.__init__", [⟨171, 17, 171, 21⟩, ⟨171, 23, 171, 27⟩, ⟨172, 8, 172, 13⟩, ⟨172, 8, 172, 15⟩, ⟨172, 8, 172, 24⟩, ⟨172, 25, 172, 29⟩, ⟨172, 8, 172, 30⟩, ⟨172, 8, 172, 30⟩, ⟨173, 8, 173, 12⟩, ⟨173, 8, 173, 17⟩, ⟨173, 20, 173, 24⟩, ⟨173, 8, 173, 24⟩]⟩], [], ["ScopeError"], oN⟩
def fuel : Nat := 100
abbrev prog : Program := PySem.Challenge.pw_sharedscopes_k00_errors_made
def top (i : Nat) : Stmt := prog.main.body.getD i (.Pass ⟨0, 0, 0, 0⟩)
def d0 : He.DefD := ⟨("_law_pool", none), "_law_pool", "_law_pool", defArgs (top 37), defBody (top 37), defScope (top 37), [], []⟩
def d1 : He.DefD := ⟨("_law_take", none), "_law_take", "_law_take", defArgs (top 38), defBody (top 38), defScope (top 38), [], []⟩
def d2 : He.DefD := ⟨("_law_first", none), "_law_first", "_law_first", defArgs (top 39), defBody (top 39), defScope (top 39), [], []⟩
def d3 : He.DefD := ⟨("_law_second", none), "_law_second", "_law_second", defArgs (top 40), defBody (top 40), defScope (top 40), [], []⟩
def d4 : He.DefD := ⟨("_law_kinds", none), "_law_kinds", "_law_kinds", defArgs (top 41), defBody (top 41), defScope (top 41), [], []⟩
def d5 : He.DefD := ⟨("law", none), "law", "law", defArgs (top 42), defBody (top 42), defScope (top 42), [], []⟩
def fn : List He.DefD := [d0, d1, d2, d3, d4, d5]
abbrev tell : Tell := tell0 fn
abbrev env : Mini.Env := tell.env tab fuel
def ks : List (FK × List Str) := [(("_law_pool", none), ["_law_script", "_law_k"]), (("_law_take", none), ["_law_source", "_law_top"]), (("_law_first", none), ["_law_thing"]), (("_law_second", none), ["_law_thing"]), (("_law_kinds", none), ["_law_one"])]
theorem bt_len : bootBuiltins "len" = some (.builtin "len") := by decide +kernel
theorem bt_int : bootBuiltins "int" = some (.type "int") := by decide +kernel
theorem bt_str : bootBuiltins "str" = some (.type "str") := by decide +kernel
theorem bt_max : bootBuiltins "max" = some (.builtin "max") := by decide +kernel
theorem bt_min : bootBuiltins "min" = some (.builtin "min") := by decide +kernel
theorem bt_tuple : bootBuiltins "tuple" = some (.type "tuple") := by decide +kernel
theorem bt_list : bootBuiltins "list" = some (.type "list") := by decide +kernel
theorem bt_ValueError : bootBuiltins "ValueError" = some (.type "ValueError") := by decide +kernel
theorem bt_OverflowError : bootBuiltins "OverflowError" = some (.type "OverflowError") := by decide +kernel
theorem bt_super : bootBuiltins "super" = some (.type "super") := by decide +kernel
theorem bt_bool : bootBuiltins "bool" = some (.type "bool") := by decide +kernel
section
variable {w : World} {K : PySem.W.Frag} {mg : Str → Option Value} {base : Heap} {n : Nat}
theorem sc_0 : FnScope ["_law_script", "_law_k", "_law_cell", "_law_big", "_law_mixed"] ["_law_script", "_law_k"] (defScope (top 37)) := ⟨rfl, rfl, rfl, by decide +kernel, rfl, by decide +kernel, by decide +kernel⟩
theorem kp_0 (T : Txt tell prog w K mg) : PySem.W.keepIn K (.ref (He.fAd K ("_law_pool", none))) = true := (T.f 0 d0 rfl).kp
theorem bd_0 (T : Txt tell prog w K mg) : Binds K (fdOf K ("_law_pool", none)) ["_law_script", "_law_k"] [] := (T.f 0 d0 rfl).bindsN (ps := ["_law_script", "_law_k"]) fun _ _ _ _ _ _ us hl => match us, hl with | [_, _], _ => rfl
theorem sc_1 : FnScope ["_law_source", "_law_top", "_law_digit"] ["_law_source", "_law_top"] (defScope (top 38)) := ⟨rfl, rfl, rfl, by decide +kernel, rfl, by decide +kernel, by decide +kernel⟩
theorem kp_1 (T : Txt tell prog w K mg) : PySem.W.keepIn K (.ref (He.fAd K ("_law_take", none))) = true := (T.f 1 d1 rfl).kp
theorem bd_1 (T : Txt tell prog w K mg) : Binds K (fdOf K ("_law_take", none)) ["_law_source", "_law_top"] [] := (T.f 1 d1 rfl).bindsN (ps := ["_law_source", "_law_top"]) fun _ _ _ _ _ _ us hl => match us, hl with | [_, _], _ => rfl
theorem sc_2 : FnScope ["_law_thing", "_law_found"] ["_law_thing"] (defScope (top 39)) := ⟨rfl, rfl, rfl, by decide +kernel, rfl, by decide +kernel, by decide +kernel⟩
theorem kp_2 (T : Txt tell prog w K mg) : PySem.W.keepIn K (.ref (He.fAd K ("_law_first", none))) = true := (T.f 2 d2 rfl).kp
theorem bd_2 (T : Txt tell prog w K mg) : Binds K (fdOf K ("_law_first", none)) ["_law_thing"] [] := (T.f 2 d2 rfl).bindsN (ps := ["_law_thing"]) fun _ _ _ _ _ _ us hl => match us, hl with | [_], _ => rfl
theorem sc_3 : FnScope ["_law_thing", "_law_found"] ["_law_thing"] (defScope (top 40)) := ⟨rfl, rfl, rfl, by decide +kernel, rfl, by decide +kernel, by decide +kernel⟩
theorem kp_3 (T : Txt tell prog w K mg) : PySem.W.keepIn K (.ref (He.fAd K ("_law_second", none))) = true := (T.f 3 d3 rfl).kp
theorem bd_3 (T : Txt tell prog w K mg) : Binds K (fdOf K ("_law_second", none)) ["_law_thing"] [] := (T.f 3 d3 rfl).bindsN (ps := ["_law_thing"]) fun _ _ _ _ _ _ us hl => match us, hl with | [_], _ => rfl
theorem sc_4 : FnScope ["_law_one", "_law_found"] ["_law_one"] (defScope (top 41)) := ⟨rfl, rfl, rfl, by decide +kernel, rfl, by decide +kernel, by decide +kernel⟩
theorem kp_4 (T : Txt tell prog w K mg) : PySem.W.keepIn K (.ref (He.fAd K ("_law_kinds", none))) = true := (T.f 4 d4 rfl).kp
theorem bd_4 (T : Txt tell prog w K mg) : Binds K (fdOf K ("_law_kinds", none)) ["_law_one"] [] := (T.f 4 d4 rfl).bindsN (ps := ["_law_one"]) fun _ _ _ _ _ _ us hl => match us, hl with | [_], _ => rfl
theorem sc_5 : FnScope ["_law_script", "_law_source", "_law_some", "_law_thing", "_law_kept_text", "_law_made", "_law_at", "_law_one", "_law_k"] ["_law_script"] (defScope (top 42)) := ⟨rfl, rfl, rfl, by decide +kernel, rfl, by decide +kernel, by decide +kernel⟩
theorem kp_5 (T : Txt tell prog w K mg) : PySem.W.keepIn K (.ref (He.fAd K ("law", none))) = true := (T.f 5 d5 rfl).kp
theorem bd_5 (T : Txt tell prog w K mg) : Binds K (fdOf K ("law", none)) ["_law_script"] [] := (T.f 5 d5 rfl).bindsN (ps := ["_law_script"]) fun _ _ _ _ _ _ us hl => match us, hl with | [_], _ => rfl
theorem ok_0 (T : Txt tell prog w K mg) (A : AllOk prog w K mg base env n ks) : OkF prog w K mg base env (n + 1) (("_law_pool", none), ["_law_script", "_law_k"]) := by
  refine fn_ok (k := 2 * n + 1) (d := c0) (N := ["_law_script", "_law_k", "_law_cell", "_law_big", "_law_mixed"]) (T.f 0 d0 rfl) sc_0 rfl rfl rfl fun cdv A0 outer s H E hr tk pw => ?_
  have hr0 := hr.mono (Nat.le_succ (2 * n))
  have nd := sc_0.nd
  exact (b_cons (s_asg nd (by rfl) (by first | exact .inl rfl | exact .inr rfl) m_int)
      (b_cons (s_ite (t_cmp hr.units (m_var 1) (m_bltB call_lenM (by rfl) (T.free 2 rfl) bt_len (a_cons (m_var 0) a_nil)) (by rfl)) (b_cons (s_asg nd (by rfl) (by first | exact .inl rfl | exact .inr rfl) (m_idx T.hK (m_var 0) (m_var 1) (fun _ _ => by rfl)))
      b_nil) b_nil)
      (b_cons (s_asg nd (by rfl) (by first | exact .inl rfl | exact .inr rfl) (m_bltB (call_maxM (by rfl)) (by rfl) (T.free 1 rfl) bt_max (a_cons (m_bltT call_intM (by rfl) (T.free 0 rfl) bt_int (a_cons (m_var 2) a_nil)) (a_cons (m_bltT call_intM (by rfl) (T.free 0 rfl) bt_int (a_cons (m_bin (m_neg m_int) (m_var 2)) a_nil)) a_nil))))
      (b_cons (s_asg nd (by rfl) (by first | exact .inl rfl | exact .inr rfl) (m_bin (m_bltT call_intM (by rfl) (T.free 0 rfl) bt_int (a_cons (m_bin (m_bin (m_bin (m_bin (m_bin (m_bltT call_intM (by rfl) (T.free 0 rfl) bt_int (a_cons (m_var 3) a_nil)) m_int) (m_bin (m_bin m_int (m_var 1)) (m_var 1))) (m_bin m_int (m_var 1))) m_int) m_int) a_nil)) m_int))
      (b_cons (s_ret (m_nwl (a_cons (m_bin (m_var 3) (m_bltT call_intM (by rfl) (T.free 0 rfl) bt_int (a_cons (m_cmp hr.units (m_var 3) (m_bin m_int m_int) (by rfl)) a_nil))) (a_cons (m_var 4) a_nil))))
      b_nil)))))
theorem ok_1 (T : Txt tell prog w K mg) (A : AllOk prog w K mg base env n ks) : OkF prog w K mg base env (n + 1) (("_law_take", none), ["_law_source", "_law_top"]) := by
  refine fn_ok (k := 2 * n + 1) (d := c1) (N := ["_law_source", "_law_top", "_law_digit"]) (T.f 1 d1 rfl) sc_1 rfl rfl rfl fun cdv A0 outer s H E hr tk pw => ?_
  have hr0 := hr.mono (Nat.le_succ (2 * n))
  have nd := sc_1.nd
  exact (b_cons (s_ite (t_cmp hr.units (m_idx T.hK (m_var 0) m_int (fun _ _ => by rfl)) m_int (by rfl)) (b_cons (s_asg nd (by rfl) (by first | exact .inl rfl | exact .inr rfl) (m_bin (m_bltT call_intM (by rfl) (T.free 0 rfl) bt_int (a_cons (m_idx T.hK (m_var 0) m_int (fun _ _ => by rfl)) a_nil)) (m_var 1)))
      (b_cons (s_sub (m_var 0) m_int (m_bin (m_idx T.hK (m_var 0) m_int (fun _ _ => by rfl)) (m_var 1)))
      (b_cons (s_ret (m_var 2))
      b_nil))) b_nil)
      (b_cons (s_sub (m_var 0) m_int (m_bin (m_bltT call_intM (by rfl) (T.free 0 rfl) bt_int (a_cons (m_bin (m_bin (m_idx T.hK (m_var 0) m_int (fun _ _ => by rfl)) m_int) m_int) a_nil)) m_int))
      (b_cons (s_ret (m_bin (m_bltT call_intM (by rfl) (T.free 0 rfl) bt_int (a_cons (m_bin (m_bin (m_bltT call_intM (by rfl) (T.free 0 rfl) bt_int (a_cons (m_bin (m_idx T.hK (m_var 0) m_int (fun _ _ => by rfl)) (m_idx T.hK (m_var 0) m_int (fun _ _ => by rfl))) a_nil)) m_int) m_int) a_nil)) (m_var 1)))
      b_nil)))
theorem ok_2 (T : Txt tell prog w K mg) (A : AllOk prog w K mg base env n ks) : OkF prog w K mg base env (n + 1) (("_law_first", none), ["_law_thing"]) := by
  refine fn_ok (k := 2 * n + 1) (d := c2) (N := ["_law_thing", "_law_found"]) (T.f 2 d2 rfl) sc_2 rfl rfl rfl fun cdv A0 outer s H E hr tk pw => ?_
  have hr0 := hr.mono (Nat.le_succ (2 * n))
  have nd := sc_2.nd
  exact (b_cons (s_asg nd (by rfl) (by first | exact .inl rfl | exact .inr rfl) (m_lst (a_cons (m_mke (T.er 0 rfl) (by rfl) hr (T.glo 6 rfl) (T.free 3 rfl) bt_super (by rfl) (m_var 0) (by rfl)) (a_cons (m_mke (T.er 1 rfl) (by rfl) hr (T.glo 7 rfl) (T.free 3 rfl) bt_super (by rfl) (m_var 0) (by rfl)) (a_cons (m_mke (T.er 2 rfl) (by rfl) hr (T.glo 8 rfl) (T.free 3 rfl) bt_super (by rfl) (m_var 0) (by rfl)) (a_cons (m_mke (T.er 3 rfl) (by rfl) hr (T.glo 9 rfl) (T.free 3 rfl) bt_super (by rfl) (m_var 0) (by rfl)) (a_cons (m_mke (T.er 4 rfl) (by rfl) hr (T.glo 10 rfl) (T.free 3 rfl) bt_super (by rfl) (m_var 0) (by rfl)) (a_cons (m_mke (T.er 5 rfl) (by rfl) hr (T.glo 11 rfl) (T.free 3 rfl) bt_super (by rfl) (m_var 0) (by rfl)) a_nil))))))))
      (b_cons (s_asg nd (by rfl) (by first | exact .inl rfl | exact .inr rfl) (m_bin (m_var 1) (m_lst (a_cons (m_mke (T.er 6 rfl) (by rfl) hr (T.glo 12 rfl) (T.free 3 rfl) bt_super (by rfl) (m_var 0) (by rfl)) (a_cons (m_mke (T.er 7 rfl) (by rfl) hr (T.glo 13 rfl) (T.free 3 rfl) bt_super (by rfl) (m_var 0) (by rfl)) (a_cons (m_mke (T.er 8 rfl) (by rfl) hr (T.glo 14 rfl) (T.free 3 rfl) bt_super (by rfl) (m_var 0) (by rfl)) (a_cons (m_mke (T.er 9 rfl) (by rfl) hr (T.glo 15 rfl) (T.free 3 rfl) bt_super (by rfl) (m_var 0) (by rfl)) (a_cons (m_mke (T.er 10 rfl) (by rfl) hr (T.glo 16 rfl) (T.free 3 rfl) bt_super (by rfl) (m_var 0) (by rfl)) (a_cons (m_mke (T.er 11 rfl) (by rfl) hr (T.glo 17 rfl) (T.free 3 rfl) bt_super (by rfl) (m_var 0) (by rfl)) a_nil)))))))))
      (b_cons (s_asg nd (by rfl) (by first | exact .inl rfl | exact .inr rfl) (m_bin (m_var 1) (m_lst (a_cons (m_mke (T.er 12 rfl) (by rfl) hr (T.glo 18 rfl) (T.free 3 rfl) bt_super (by rfl) (m_var 0) (by rfl)) (a_cons (m_mke (T.er 13 rfl) (by rfl) hr (T.glo 19 rfl) (T.free 3 rfl) bt_super (by rfl) (m_var 0) (by rfl)) (a_cons (m_mke (T.er 14 rfl) (by rfl) hr (T.glo 20 rfl) (T.free 3 rfl) bt_super (by rfl) (m_var 0) (by rfl)) (a_cons (m_mke (T.er 15 rfl) (by rfl) hr (T.glo 21 rfl) (T.free 3 rfl) bt_super (by rfl) (m_var 0) (by rfl)) (a_cons (m_mke (T.er 16 rfl) (by rfl) hr (T.glo 22 rfl) (T.free 3 rfl) bt_super (by rfl) (m_var 0) (by rfl)) (a_cons (m_mke (T.er 17 rfl) (by rfl) hr (T.glo 23 rfl) (T.free 3 rfl) bt_super (by rfl) (m_var 0) (by rfl)) a_nil)))))))))
      (b_cons (s_asg nd (by rfl) (by first | exact .inl rfl | exact .inr rfl) (m_bin (m_var 1) (m_lst (a_cons (m_mke (T.er 18 rfl) (by rfl) hr (T.glo 24 rfl) (T.free 3 rfl) bt_super (by rfl) (m_var 0) (by rfl)) (a_cons (m_mke (T.er 19 rfl) (by rfl) hr (T.glo 25 rfl) (T.free 3 rfl) bt_super (by rfl) (m_var 0) (by rfl)) (a_cons (m_mke (T.er 20 rfl) (by rfl) hr (T.glo 26 rfl) (T.free 3 rfl) bt_super (by rfl) (m_var 0) (by rfl)) (a_cons (m_mke (T.er 21 rfl) (by rfl) hr (T.glo 27 rfl) (T.free 3 rfl) bt_super (by rfl) (m_var 0) (by rfl)) (a_cons (m_mke (T.er 22 rfl) (by rfl) hr (T.glo 28 rfl) (T.free 3 rfl) bt_super (by rfl) (m_var 0) (by rfl)) (a_cons (m_mke (T.er 23 rfl) (by rfl) hr (T.glo 29 rfl) (T.free 3 rfl) bt_super (by rfl) (m_var 0) (by rfl)) a_nil)))))))))
      (b_cons (s_asg nd (by rfl) (by first | exact .inl rfl | exact .inr rfl) (m_bin (m_var 1) (m_lst (a_cons (m_mke (T.er 24 rfl) (by rfl) hr (T.glo 30 rfl) (T.free 3 rfl) bt_super (by rfl) (m_var 0) (by rfl)) (a_cons (m_mke (T.er 25 rfl) (by rfl) hr (T.glo 31 rfl) (T.free 3 rfl) bt_super (by rfl) (m_var 0) (by rfl)) (a_cons (m_mke (T.er 26 rfl) (by rfl) hr (T.glo 32 rfl) (T.free 3 rfl) bt_super (by rfl) (m_var 0) (by rfl)) (a_cons (m_mke (T.er 27 rfl) (by rfl) hr (T.glo 33 rfl) (T.free 3 rfl) bt_super (by rfl) (m_var 0) (by rfl)) (a_cons (m_mke (T.er 28 rfl) (by rfl) hr (T.glo 34 rfl) (T.free 3 rfl) bt_super (by rfl) (m_var 0) (by rfl)) a_nil))))))))
      (b_cons (s_ret (m_bin (m_var 1) (m_lst (a_cons (m_mke (T.er 29 rfl) (by rfl) hr (T.glo 35 rfl) (T.free 3 rfl) bt_super (by rfl) (m_var 0) (by rfl)) (a_cons (m_mke (T.er 30 rfl) (by rfl) hr (T.glo 36 rfl) (T.free 3 rfl) bt_super (by rfl) (m_var 0) (by rfl)) (a_cons (m_mke (T.er 31 rfl) (by rfl) hr (T.glo 37 rfl) (T.free 3 rfl) bt_super (by rfl) (m_var 0) (by rfl)) (a_cons (m_mke (T.er 32 rfl) (by rfl) hr (T.glo 38 rfl) (T.free 3 rfl) bt_super (by rfl) (m_var 0) (by rfl)) a_nil)))))))
      b_nil))))))
theorem ok_3 (T : Txt tell prog w K mg) (A : AllOk prog w K mg base env n ks) : OkF prog w K mg base env (n + 1) (("_law_second", none), ["_law_thing"]) := by
  refine fn_ok (k := 2 * n + 1) (d := c3) (N := ["_law_thing", "_law_found"]) (T.f 3 d3 rfl) sc_3 rfl rfl rfl fun cdv A0 outer s H E hr tk pw => ?_
  have hr0 := hr.mono (Nat.le_succ (2 * n))
  have nd := sc_3.nd
  exact (b_cons (s_asg nd (by rfl) (by first | exact .inl rfl | exact .inr rfl) (m_lst (a_cons (m_mkeK (T.er 0 rfl) (by rfl) hr (T.glo 6 rfl) (T.free 3 rfl) bt_super (by rfl) (m_var 0) (by rfl)) (a_cons (m_mkeK (T.er 1 rfl) (by rfl) hr (T.glo 7 rfl) (T.free 3 rfl) bt_super (by rfl) (m_var 0) (by rfl)) (a_cons (m_mkeK (T.er 2 rfl) (by rfl) hr (T.glo 8 rfl) (T.free 3 rfl) bt_super (by rfl) (m_var 0) (by rfl)) (a_cons (m_mkeK (T.er 3 rfl) (by rfl) hr (T.glo 9 rfl) (T.free 3 rfl) bt_super (by rfl) (m_var 0) (by rfl)) (a_cons (m_mkeK (T.er 4 rfl) (by rfl) hr (T.glo 10 rfl) (T.free 3 rfl) bt_super (by rfl) (m_var 0) (by rfl)) a_nil)))))))
      (b_cons (s_asg nd (by rfl) (by first | exact .inl rfl | exact .inr rfl) (m_bin (m_var 1) (m_lst (a_cons (m_mkeK (T.er 5 rfl) (by rfl) hr (T.glo 11 rfl) (T.free 3 rfl) bt_super (by rfl) (m_var 0) (by rfl)) (a_cons (m_mkeK (T.er 6 rfl) (by rfl) hr (T.glo 12 rfl) (T.free 3 rfl) bt_super (by rfl) (m_var 0) (by rfl)) (a_cons (m_mkeK (T.er 7 rfl) (by rfl) hr (T.glo 13 rfl) (T.free 3 rfl) bt_super (by rfl) (m_var 0) (by rfl)) (a_cons (m_mkeK (T.er 8 rfl) (by rfl) hr (T.glo 14 rfl) (T.free 3 rfl) bt_super (by rfl) (m_var 0) (by rfl)) a_nil)))))))
      (b_cons (s_asg nd (by rfl) (by first | exact .inl rfl | exact .inr rfl) (m_bin (m_var 1) (m_lst (a_cons (m_mkeK (T.er 9 rfl) (by rfl) hr (T.glo 15 rfl) (T.free 3 rfl) bt_super (by rfl) (m_var 0) (by rfl)) (a_cons (m_mkeK (T.er 10 rfl) (by rfl) hr (T.glo 16 rfl) (T.free 3 rfl) bt_super (by rfl) (m_var 0) (by rfl)) (a_cons (m_mkeK (T.er 11 rfl) (by rfl) hr (T.glo 17 rfl) (T.free 3 rfl) bt_super (by rfl) (m_var 0) (by rfl)) (a_cons (m_mkeK (T.er 12 rfl) (by rfl) hr (T.glo 18 rfl) (T.free 3 rfl) bt_super (by rfl) (m_var 0) (by rfl)) a_nil)))))))
      (b_cons (s_asg nd (by rfl) (by first | exact .inl rfl | exact .inr rfl) (m_bin (m_var 1) (m_lst (a_cons (m_mkeK (T.er 13 rfl) (by rfl) hr (T.glo 19 rfl) (T.free 3 rfl) bt_super (by rfl) (m_var 0) (by rfl)) (a_cons (m_mkeK (T.er 14 rfl) (by rfl) hr (T.glo 20 rfl) (T.free 3 rfl) bt_super (by rfl) (m_var 0) (by rfl)) (a_cons (m_mkeK (T.er 15 rfl) (by rfl) hr (T.glo 21 rfl) (T.free 3 rfl) bt_super (by rfl) (m_var 0) (by rfl)) (a_cons (m_mkeK (T.er 16 rfl) (by rfl) hr (T.glo 22 rfl) (T.free 3 rfl) bt_super (by rfl) (m_var 0) (by rfl)) a_nil)))))))
      (b_cons (s_asg nd (by rfl) (by first | exact .inl rfl | exact .inr rfl) (m_bin (m_var 1) (m_lst (a_cons (m_mkeK (T.er 17 rfl) (by rfl) hr (T.glo 23 rfl) (T.free 3 rfl) bt_super (by rfl) (m_var 0) (by rfl)) (a_cons (m_mkeK (T.er 18 rfl) (by rfl) hr (T.glo 24 rfl) (T.free 3 rfl) bt_super (by rfl) (m_var 0) (by rfl)) (a_cons (m_mkeK (T.er 19 rfl) (by rfl) hr (T.glo 25 rfl) (T.free 3 rfl) bt_super (by rfl) (m_var 0) (by rfl)) (a_cons (m_mkeK (T.er 20 rfl) (by rfl) hr (T.glo 26 rfl) (T.free 3 rfl) bt_super (by rfl) (m_var 0) (by rfl)) a_nil)))))))
      (b_cons (s_asg nd (by rfl) (by first | exact .inl rfl | exact .inr rfl) (m_bin (m_var 1) (m_lst (a_cons (m_mkeK (T.er 21 rfl) (by rfl) hr (T.glo 27 rfl) (T.free 3 rfl) bt_super (by rfl) (m_var 0) (by rfl)) (a_cons (m_mkeK (T.er 22 rfl) (by rfl) hr (T.glo 28 rfl) (T.free 3 rfl) bt_super (by rfl) (m_var 0) (by rfl)) (a_cons (m_mkeK (T.er 23 rfl) (by rfl) hr (T.glo 29 rfl) (T.free 3 rfl) bt_super (by rfl) (m_var 0) (by rfl)) (a_cons (m_mkeK (T.er 24 rfl) (by rfl) hr (T.glo 30 rfl) (T.free 3 rfl) bt_super (by rfl) (m_var 0) (by rfl)) a_nil)))))))
      (b_cons (s_asg nd (by rfl) (by first | exact .inl rfl | exact .inr rfl) (m_bin (m_var 1) (m_lst (a_cons (m_mkeK (T.er 25 rfl) (by rfl) hr (T.glo 31 rfl) (T.free 3 rfl) bt_super (by rfl) (m_var 0) (by rfl)) (a_cons (m_mkeK (T.er 26 rfl) (by rfl) hr (T.glo 32 rfl) (T.free 3 rfl) bt_super (by rfl) (m_var 0) (by rfl)) (a_cons (m_mkeK (T.er 27 rfl) (by rfl) hr (T.glo 33 rfl) (T.free 3 rfl) bt_super (by rfl) (m_var 0) (by rfl)) (a_cons (m_mkeK (T.er 28 rfl) (by rfl) hr (T.glo 34 rfl) (T.free 3 rfl) bt_super (by rfl) (m_var 0) (by rfl)) a_nil)))))))
      (b_cons (s_ret (m_bin (m_var 1) (m_lst (a_cons (m_mkeK (T.er 29 rfl) (by rfl) hr (T.glo 35 rfl) (T.free 3 rfl) bt_super (by rfl) (m_var 0) (by rfl)) (a_cons (m_mkeK (T.er 30 rfl) (by rfl) hr (T.glo 36 rfl) (T.free 3 rfl) bt_super (by rfl) (m_var 0) (by rfl)) (a_cons (m_mkeK (T.er 31 rfl) (by rfl) hr (T.glo 37 rfl) (T.free 3 rfl) bt_super (by rfl) (m_var 0) (by rfl)) (a_cons (m_mkeK (T.er 32 rfl) (by rfl) hr (T.glo 38 rfl) (T.free 3 rfl) bt_super (by rfl) (m_var 0) (by rfl)) a_nil)))))))
      b_nil))))))))
theorem ok_4 (T : Txt tell prog w K mg) (A : AllOk prog w K mg base env n ks) : OkF prog w K mg base env (n + 1) (("_law_kinds", none), ["_law_one"]) := by
  refine fn_ok (k := 2 * n + 1) (d := c4) (N := ["_law_one", "_law_found"]) (T.f 4 d4 rfl) sc_4 rfl rfl rfl fun cdv A0 outer s H E hr tk pw => ?_
  have hr0 := hr.mono (Nat.le_succ (2 * n))
  have nd := sc_4.nd
  exact (b_cons (s_asg nd (by rfl) (by first | exact .inl rfl | exact .inr rfl) (m_lst (a_cons (m_iseO T.hI (by rfl) (by rfl) (T.free 4 rfl) (by rfl) (T.glo 6 rfl) (m_var 0)) (a_cons (m_iseO T.hI (by rfl) (by rfl) (T.free 4 rfl) (by rfl) (T.glo 7 rfl) (m_var 0)) (a_cons (m_iseO T.hI (by rfl) (by rfl) (T.free 4 rfl) (by rfl) (T.glo 8 rfl) (m_var 0)) (a_cons (m_iseO T.hI (by rfl) (by rfl) (T.free 4 rfl) (by rfl) (T.glo 9 rfl) (m_var 0)) a_nil))))))
      (b_cons (s_asg nd (by rfl) (by first | exact .inl rfl | exact .inr rfl) (m_bin (m_var 1) (m_lst (a_cons (m_iseO T.hI (by rfl) (by rfl) (T.free 4 rfl) (by rfl) (T.glo 10 rfl) (m_var 0)) (a_cons (m_iseO T.hI (by rfl) (by rfl) (T.free 4 rfl) (by rfl) (T.glo 11 rfl) (m_var 0)) (a_cons (m_iseO T.hI (by rfl) (by rfl) (T.free 4 rfl) (by rfl) (T.glo 12 rfl) (m_var 0)) a_nil))))))
      (b_cons (s_asg nd (by rfl) (by first | exact .inl rfl | exact .inr rfl) (m_bin (m_var 1) (m_lst (a_cons (m_iseO T.hI (by rfl) (by rfl) (T.free 4 rfl) (by rfl) (T.glo 13 rfl) (m_var 0)) (a_cons (m_iseO T.hI (by rfl) (by rfl) (T.free 4 rfl) (by rfl) (T.glo 14 rfl) (m_var 0)) (a_cons (m_iseO T.hI (by rfl) (by rfl) (T.free 4 rfl) (by rfl) (T.glo 15 rfl) (m_var 0)) a_nil))))))
      (b_cons (s_asg nd (by rfl) (by first | exact .inl rfl | exact .inr rfl) (m_bin (m_var 1) (m_lst (a_cons (m_iseO T.hI (by rfl) (by rfl) (T.free 4 rfl) (by rfl) (T.glo 16 rfl) (m_var 0)) (a_cons (m_iseO T.hI (by rfl) (by rfl) (T.free 4 rfl) (by rfl) (T.glo 17 rfl) (m_var 0)) (a_cons (m_iseO T.hI (by rfl) (by rfl) (T.free 4 rfl) (by rfl) (T.glo 18 rfl) (m_var 0)) a_nil))))))
      (b_cons (s_asg nd (by rfl) (by first | exact .inl rfl | exact .inr rfl) (m_bin (m_var 1) (m_lst (a_cons (m_iseO T.hI (by rfl) (by rfl) (T.free 4 rfl) (by rfl) (T.glo 19 rfl) (m_var 0)) (a_cons (m_iseO T.hI (by rfl) (by rfl) (T.free 4 rfl) (by rfl) (T.glo 20 rfl) (m_var 0)) (a_cons (m_iseO T.hI (by rfl) (by rfl) (T.free 4 rfl) (by rfl) (T.glo 21 rfl) (m_var 0)) a_nil))))))
      (b_cons (s_asg nd (by rfl) (by first | exact .inl rfl | exact .inr rfl) (m_bin (m_var 1) (m_lst (a_cons (m_iseO T.hI (by rfl) (by rfl) (T.free 4 rfl) (by rfl) (T.glo 22 rfl) (m_var 0)) (a_cons (m_iseO T.hI (by rfl) (by rfl) (T.free 4 rfl) (by rfl) (T.glo 23 rfl) (m_var 0)) (a_cons (m_iseO T.hI (by rfl) (by rfl) (T.free 4 rfl) (by rfl) (T.glo 24 rfl) (m_var 0)) a_nil))))))
      (b_cons (s_asg nd (by rfl) (by first | exact .inl rfl | exact .inr rfl) (m_bin (m_var 1) (m_lst (a_cons (m_iseO T.hI (by rfl) (by rfl) (T.free 4 rfl) (by rfl) (T.glo 25 rfl) (m_var 0)) (a_cons (m_iseO T.hI (by rfl) (by rfl) (T.free 4 rfl) (by rfl) (T.glo 26 rfl) (m_var 0)) (a_cons (m_iseO T.hI (by rfl) (by rfl) (T.free 4 rfl) (by rfl) (T.glo 27 rfl) (m_var 0)) a_nil))))))
      (b_cons (s_asg nd (by rfl) (by first | exact .inl rfl | exact .inr rfl) (m_bin (m_var 1) (m_lst (a_cons (m_iseO T.hI (by rfl) (by rfl) (T.free 4 rfl) (by rfl) (T.glo 28 rfl) (m_var 0)) (a_cons (m_iseO T.hI (by rfl) (by rfl) (T.free 4 rfl) (by rfl) (T.glo 29 rfl) (m_var 0)) (a_cons (m_iseO T.hI (by rfl) (by rfl) (T.free 4 rfl) (by rfl) (T.glo 30 rfl) (m_var 0)) a_nil))))))
      (b_cons (s_asg nd (by rfl) (by first | exact .inl rfl | exact .inr rfl) (m_bin (m_var 1) (m_lst (a_cons (m_iseO T.hI (by rfl) (by rfl) (T.free 4 rfl) (by rfl) (T.glo 31 rfl) (m_var 0)) (a_cons (m_iseO T.hI (by rfl) (by rfl) (T.free 4 rfl) (by rfl) (T.glo 32 rfl) (m_var 0)) (a_cons (m_iseO T.hI (by rfl) (by rfl) (T.free 4 rfl) (by rfl) (T.glo 33 rfl) (m_var 0)) a_nil))))))
      (b_cons (s_asg nd (by rfl) (by first | exact .inl rfl | exact .inr rfl) (m_bin (m_var 1) (m_lst (a_cons (m_iseO T.hI (by rfl) (by rfl) (T.free 4 rfl) (by rfl) (T.glo 34 rfl) (m_var 0)) (a_cons (m_iseO T.hI (by rfl) (by rfl) (T.free 4 rfl) (by rfl) (T.glo 35 rfl) (m_var 0)) (a_cons (m_iseO T.hI (by rfl) (by rfl) (T.free 4 rfl) (by rfl) (T.glo 36 rfl) (m_var 0)) a_nil))))))
      (b_cons (s_ret (m_bin (m_var 1) (m_lst (a_cons (m_iseO T.hI (by rfl) (by rfl) (T.free 4 rfl) (by rfl) (T.glo 37 rfl) (m_var 0)) (a_cons (m_iseO T.hI (by rfl) (by rfl) (T.free 4 rfl) (by rfl) (T.glo 38 rfl) (m_var 0)) (a_cons (m_iseO T.hI (by rfl) (by rfl) (T.free 4 rfl) (by rfl) (T.glo 39 rfl) (m_var 0)) a_nil))))))
      b_nil)))))))))))
theorem law_at (T : Txt tell prog w K mg) (A : AllOk prog w K mg base env n ks) (s : Shared) (H : Hp) (us : List Value) (vs : List V) (Q : VK) (E : XK) (hr : Room (2 * n + 2) callerA) (e0 : Env0 prog w K mg base callerA [] s H) (hb : BindsTo s (fdOf K ("law", none)) ⟨us, []⟩ ((["_law_script"] : List Str).zip us)) (rv : Vals vs us) (hsp : spF K (evF env (n + 1)) ("law", none) vs H Q E) : codeAny (model prog w) callerA (.call (.ref (He.fAd K ("law", none))) ⟨us, []⟩) (CR (L2.CX prog w) [] prog w H s Q E) s := by
  refine run_top (k := 2 * n + 1) (d := c5) (N := ["_law_script", "_law_source", "_law_some", "_law_thing", "_law_kept_text", "_law_made", "_law_at", "_law_one", "_law_k"]) (T.f 5 d5 rfl) sc_5 rfl rfl rfl (fun cdv A0 outer s H E hgd hr tk pw => ?_) callerA [] s H us vs Q E rfl hr e0 hb rv hsp
  have hr0 := hr.mono (Nat.le_succ (2 * n))
  have nd := sc_5.nd
  exact (b_cons (s_asg nd (by rfl) (by first | exact .inl rfl | exact .inr rfl) (m_cal (A 0 rfl) hr0 tk (by rfl) (T.glo 0 rfl) (kp_0 T) (bd_0 T) (a_cons (m_var 0) (a_cons m_int a_nil))))
      (b_cons (s_asg nd (by rfl) (by first | exact .inl rfl | exact .inr rfl) (m_lst (a_cons m_non (a_cons m_bl (a_cons m_int (a_cons m_str (a_cons (m_tup (a_cons m_int (a_cons m_non a_nil))) (a_cons (m_lst (a_cons m_int (a_cons (m_lst (a_cons m_int a_nil)) a_nil))) (a_cons (m_dsp (pps_cons pe_str m_int pps_nil)) a_nil)))))))))
      (b_cons (s_for pw (by rfl) (i_seq (m_bin (m_var 2) (m_lst (a_cons (m_cal (A 1 rfl) hr0 tk (by rfl) (T.glo 1 rfl) (kp_1 T) (bd_1 T) (a_cons (m_var 1) (a_cons (m_bin m_int m_int) a_nil))) (a_cons (m_bin (m_neg m_int) (m_cal (A 1 rfl) hr0 tk (by rfl) (T.glo 1 rfl) (kp_1 T) (bd_1 T) (a_cons (m_var 1) (a_cons m_int a_nil)))) a_nil))))) (g_name nd (by rfl) (by first | exact .inl rfl | exact .inr rfl)) (b_cons (s_par (by rfl) nd (by rfl) (by rfl) (by decide) (by rfl) (by rfl) (a_cons (m_cal (A 2 rfl) hr0 tk (by rfl) (T.glo 2 rfl) (kp_2 T) (bd_2 T) (a_cons (m_var 3) a_nil)) (a_cons (m_rpr hgd (hu100 hr) (by rfl) (T.free 9 rfl) (m_var 3)) a_nil)) (by rfl))
      (b_cons (s_ite (t_cmp hr.units (m_lcp (by rfl) nd (i_seq (m_bin (m_var 5) (m_cal (A 3 rfl) hr0 tk (by rfl) (T.glo 3 rfl) (kp_3 T) (bd_3 T) (a_cons (m_var 3) a_nil)))) (blkOk_by (own := [("_law_one", 7)]) (by kernel_rfl)) (fun _ _ _ _ _ => (g_name nd (by rfl) (by first | exact .inl rfl | exact .inr rfl))) (fun _ _ _ _ _ => ts_nil) (fun _ _ _ _ _ => (m_rpr hgd (hu100 hr) (by rfl) (T.free 9 rfl) (m_eat T.hI (m_var 7))))) (m_bin (m_lst (a_cons (m_var 4) a_nil)) m_int) (by rfl)) (b_cons (s_ret m_bl)
      b_nil) b_nil)
      (b_cons (s_ite (PW.pt (t_or (t_cmp hr.units (m_rpr hgd (hu100 hr) (by rfl) (T.free 9 rfl) (m_eat T.hI (m_mko (T.eo 0 rfl) (by rfl) hr (T.glo 39 rfl) (T.free 3 rfl) bt_super (by rfl) (m_var 3) (by rfl)))) (m_var 4) (by rfl)) (t_or1 (t_cmp hr.units (m_rpr hgd (hu100 hr) (by rfl) (T.free 9 rfl) (m_eat T.hI (m_mkoK (T.eo 0 rfl) (by rfl) hr (T.glo 39 rfl) (T.free 3 rfl) bt_super (by rfl) (m_var 3) (by rfl)))) (m_var 4) (by rfl))))) (b_cons (s_ret m_bl)
      b_nil) b_nil)
      (b_cons (s_asg nd (by rfl) (by first | exact .inl rfl | exact .inr rfl) (m_bin (m_var 5) (m_lst (a_cons (m_mko (T.eo 0 rfl) (by rfl) hr (T.glo 39 rfl) (T.free 3 rfl) bt_super (by rfl) (m_var 3) (by rfl)) a_nil))))
      (b_cons (s_for pw (by rfl) (i_enu (by rfl) (T.free 7 rfl) (m_var 5)) (g_tup (by rfl) (gs_cons nd (by rfl) (by first | exact .inl rfl | exact .inr rfl) (gs_cons nd (by rfl) (by first | exact .inl rfl | exact .inr rfl) gs_nil))) (b_cons (s_ite (t_cmp hr.units (m_cal (A 4 rfl) hr0 tk (by rfl) (T.glo 4 rfl) (kp_4 T) (bd_4 T) (a_cons (m_var 7) a_nil)) (m_lcp (by rfl) nd (i_rng (by rfl) (T.free 8 rfl) m_int) (blkOk_by (own := [("_law_k", 8)]) (by kernel_rfl)) (fun _ _ _ _ _ => (g_name nd (by rfl) (by first | exact .inl rfl | exact .inr rfl))) (fun _ _ _ _ _ => ts_nil) (fun _ _ _ _ _ => (m_cmp hr.units (m_var 6) (m_var 8) (by rfl)))) (by rfl)) (b_cons (s_ret m_bl)
      b_nil) b_nil)
      b_nil))
      (b_cons (s_ite (t_cmp hr.units (m_lcp (by rfl) nd (i_seq (m_var 5)) (blkOk_by (own := [("_law_one", 7)]) (by kernel_rfl)) (fun _ _ _ _ _ => (g_name nd (by rfl) (by first | exact .inl rfl | exact .inr rfl))) (fun _ _ _ _ _ => ts_nil) (fun _ _ _ _ _ => (m_iseO T.hI (by rfl) (by rfl) (T.free 4 rfl) (by rfl) (T.glo 40 rfl) (m_var 7)))) (m_bin (m_bin (m_lst (a_cons m_bl a_nil)) m_int) (m_lst (a_cons m_bl a_nil))) (by rfl)) (b_cons (s_ret m_bl)
      b_nil) b_nil)
      (b_cons (s_ite (t_cmp hr.units (m_lcp (by rfl) nd (i_seq (m_var 5)) (blkOk_by (own := [("_law_one", 7)]) (by kernel_rfl)) (fun _ _ _ _ _ => (g_name nd (by rfl) (by first | exact .inl rfl | exact .inr rfl))) (fun _ _ _ _ _ => ts_nil) (fun _ _ _ _ _ => (m_iseB T.hI (by rfl) (by rfl) (T.free 4 rfl) (by rfl) (T.free 6 rfl) bt_ValueError (m_var 7)))) (m_bin (m_bin (m_lst (a_cons m_bl a_nil)) m_int) (m_lst (a_cons m_bl a_nil))) (by rfl)) (b_cons (s_ret m_bl)
      b_nil) b_nil)
      (b_cons (s_ite (t_cmp hr.units (m_lcp (by rfl) nd (i_seq (m_var 5)) (blkOk_by (own := [("_law_one", 7)]) (by kernel_rfl)) (fun _ _ _ _ _ => (g_name nd (by rfl) (by first | exact .inl rfl | exact .inr rfl))) (fun _ _ _ _ _ => ts_nil) (fun _ _ _ _ _ => (m_iseB T.hI (by rfl) (by rfl) (T.free 4 rfl) (by rfl) (T.free 5 rfl) bt_OverflowError (m_var 7)))) (m_bin (m_bin (m_lst (a_cons m_bl a_nil)) m_int) (m_lst (a_cons m_bl a_nil))) (by rfl)) (b_cons (s_ret m_bl)
      b_nil) b_nil)
      b_nil)))))))))
      (b_cons (s_ret m_bl)
      b_nil))))
theorem all_ok (T : Txt tell prog w K mg) : ∀ n, AllOk prog w K mg base env n ks
  | 0 => ok_zero
  | n + 1 => have A := all_ok T n
    (ok_cons (ok_0 T A) (ok_cons (ok_1 T A) (ok_cons (ok_2 T A) (ok_cons (ok_3 T A) (ok_cons (ok_4 T A) ok_nil)))))
end
end LawK00

set_option Elab.async false
set_option linter.all false
set_option maxRecDepth 100000
set_option maxHeartbeats 4000000
namespace LawK00
open PySem L2 Mini

/-! ### the head -/
abbrev R : PySem.W.OpenRow := PySem.W.OpenLaw.row PySem.Challenge.rw_sharedscopes_k00_errors_made
abbrev hk : PySem.W.Hook := hookM 6 tell.fa fn tell.ts tell.ers tell.eos (prog.main.file : Str) tell.ex
def ob (s : PySem.W.SharedT) : AlM := obsMG 6 tell.fa fn tell.ts tell.ers tell.eos (prog.main.file : Str) tell.ex (HandSHeadRun.getT s)
theorem ob_eq (s : PySem.W.SharedT) : ob s = hk.obs s.abs := obsMG_eq (HandSHeadRun.getT_eq s)
def loose : List Str := ((["ScopeError", "NoDeed", "NoBook", "NotClosed", "Unseen", "NoBody", "NoStamp", "NoStamps", "NoBranch", "NoHeads", "NoHand", "NoChange", "NoState", "NoThing", "NoThings", "NoSlot", "NoGap", "NoIndex", "NoWeights", "NoNaming"] : List Str) ++ (["NoName", "BadText", "NotVisible", "NoTarget", "NoPairs", "HasCause", "NoContents", "NoMenu", "NoPacket", "NothingBack", "NoHands", "NoBranches", "BadRow", "NoLine", "TooMany", "_law_pool", "_law_take", "_law_first", "_law_second", "_law_kinds"] : List Str))
theorem run (w : World) : HandSHeadRun.RunEq R (PySem.W.view R.prog [42]) hk ob 20000 loose w := by
  intro os
  kernel_rfl
end LawK00

namespace LawK00
open PySem L2 Mini
def env0 : Mini.Env := (tell0 []).env tab fuel
end LawK00

set_option Elab.async false
set_option linter.all false
set_option maxRecDepth 100000
set_option maxHeartbeats 4000000
namespace LawK00
namespace P
open PySem L2 Mini
local macro_rules | `(tactic| walk_at "ev") => `(tactic| first
  | ((with_reducible refine w_var (x := ?_) ?_ ?_); rotate_left 1; exact rfl)
  | with_reducible first | refine w_con ?_ | refine w_bin ?_ | refine w_cmp ?_ | refine w_idx ?_ | refine w_blt ?_ | refine w_nil ?_ | refine w_cons ?_ | refine w_att ?_ | refine w_cal ?_ | refine w_neg ?_ | refine w_not ?_ | refine w_and ?_ | refine w_or ?_ | refine w_chn ?_ | refine w_ife ?_ | refine w_slc ?_ | refine w_isi ?_ | refine w_som ?_ | refine w_non ?_ | refine w_star ?_ | refine w_dsp ?_ | refine w_bmt ?_ | refine w_mth ?_ | refine w_new ?_ | refine w_tup ?_ | refine w_lst ?_ | refine w_nwl ?_ | refine w_ndd ?_ | refine w_seq ?_ | refine w_rng ?_ | refine w_tno ?_ | refine w_tso ?_ | refine w_mke ?_ | refine w_rpr ?_
  | refine v_cons ?_ | refine v_nil ?_ | refine v_asg ?_ | refine v_asgT ?_ | refine v_asgP ?_ | refine v_ret ?_ | refine v_retN ?_ | refine v_exp ?_ | refine v_ite ?_ | refine v_sat ?_ | refine v_sub ?_ | refine v_augA ?_ | refine v_for ?_ | refine v_rse ?_ | refine v_try ?_ | refine v_pas ?_ | refine v_cnt ?_
  | ((with_reducible refine w_glb (x := ?_) ?_ ?_); rotate_left 1; exact rfl) | ((with_reducible refine v_augV (z := ?_) ?_ ?_); rotate_left 1; exact rfl))
local macro_rules | `(tactic| walk_at "op") => `(tactic| refine ⟨_, rfl, ?_⟩)
local macro_rules | `(tactic| walk_at "go") => `(tactic| repeat first | walk_at "ev" | walk_at "op")
theorem br_t {k : Bool} {A B : Prop} (h : k = true) (a : A) : if k = true then A else B := by rw [if_pos h]; exact a
theorem br_f {k : Bool} {A B : Prop} (h : k = false) (b : B) : if k = true then A else B := by rw [h, if_neg Bool.false_ne_true]; exact b
/-! ### the pool -/
def Good (M : Mem) (p : Nat) : Prop := ∃ a b : Int, M[p]? = some (.lst [.int a, .int b]) ∧ 0 ≤ a ∧ 0 ≤ b ∧ b < 2147483647
/-- only the cell p is changed, and stays good -/
def Upd (p : Nat) (M M' : Mem) : Prop := Good M' p ∧ ∃ c, M' = M.set p c
theorem ix0 {M : Mem} {p : Nat} {a b : Int} {kd} (h : M[p]? = some (.lst [.int a, .int b])) : idxV M kd (.ref p) (.int 0) = some (.int a) := by simp only [idxV, asL, h]; rfl
theorem ix1 {M : Mem} {p : Nat} {a b : Int} {kd} (h : M[p]? = some (.lst [.int a, .int b])) : idxV M kd (.ref p) (.int 1) = some (.int b) := by simp only [idxV, asL, h]; rfl
theorem st0 {M : Mem} {p : Nat} {a b : Int} {y : MV} (h : M[p]? = some (.lst [.int a, .int b])) : subV M (.ref p) (.int 0) y = some (M.set p (.lst [y, .int b])) := by simp only [subV, h]; rfl
theorem st1 {M : Mem} {p : Nat} {a b : Int} {y : MV} (h : M[p]? = some (.lst [.int a, .int b])) : subV M (.ref p) (.int 1) y = some (M.set p (.lst [.int a, y])) := by simp only [subV, h]; rfl
theorem md {M : Mem} {i j : Int} {Q : MV → Prop} (h : 0 < j) (q : Q (.int (i % j))) : Op (binV .Mod M (.int i) (.int j)) Q := ⟨_, by simp only [binV]; rw [if_pos h], q⟩
theorem fd {M : Mem} {i j : Int} {Q : MV → Prop} (h : 0 < j) (h2 : j.natAbs.log2 < 9000) (q : Q (.int (i / j))) : Op (binV .FloorDiv M (.int i) (.int j)) Q := ⟨_, by simp only [binV]; rw [if_pos ⟨h, h2⟩], q⟩
theorem ml {M : Mem} {i j : Int} {Q : MV → Prop} (h : i.natAbs.log2 + j.natAbs.log2 < 1000000 ∨ (0 ≤ j ∧ j ≤ 1)) (q : Q (.int (i * j))) : Op (binV .Mult M (.int i) (.int j)) Q := ⟨_, by simp only [binV]; rw [if_pos h], q⟩
theorem lg {i : Int} {k : Nat} (h0 : 0 ≤ i) (h : i < 2 ^ k) (hk : 0 < k) : i.natAbs.log2 < k := PySem.Flt.log2_lt_of hk (by
  have : (i.natAbs : Int) < 2 ^ k := by rw [Int.natAbs_of_nonneg h0]; exact h
  exact_mod_cast this)
theorem take_ok (n : Nat) {M : Mem} {p : Nat} {t : Int} {E : Str → MV → Mem → Prop} (h : Good M p) (h1 : 1 ≤ t) (h2 : t < 2 ^ 200) : Is (evF env0 (n + 1) ("_law_take", none) [.ref p, .int t] M) (fun v M' => (∃ r, v = .int r ∧ 0 ≤ r ∧ r < t) ∧ Upd p M M') E := by
  obtain ⟨a, b, hp, ha, hb, hb2⟩ := h
  have ht : t.natAbs.log2 < 9000 := Nat.lt_trans (lg (k := 200) (by omega) h2 (by decide)) (by decide)
  refine w_body (d := c1) rfl rfl ?_
  dsimp only [c1, Mini.start]
  refine v_cons (v_ite (w_cmp (w_idx (w_var rfl (w_con ⟨_, ix0 hp, w_con ⟨_, rfl, ⟨_, rfl, ?_⟩⟩⟩)))))
  by_cases c : 0 < a
  · refine br_t (decide_eq_true c) ?_
    walk_at "go"
    refine ⟨_, ix0 hp, ?_⟩
    walk_at "go"
    refine md (by omega) ?_
    walk_at "go"
    refine ⟨_, ix0 hp, ?_⟩
    walk_at "go"
    refine fd (by omega) ht ?_
    walk_at "go"
    refine ⟨_, st0 hp, ?_⟩
    walk_at "go"
    refine isf_len set_len ⟨⟨_, rfl, Int.emod_nonneg _ (by omega), Int.emod_lt_of_pos _ (by omega)⟩, ⟨_, _, get_set hp, Int.ediv_nonneg ha (by omega), hb, hb2⟩, _, rfl⟩
  · refine br_f (decide_eq_false c) ?_
    have hm : 0 ≤ (b * 39373 + 7) % 2147483647 := Int.emod_nonneg _ (by decide)
    have hm2 : (b * 39373 + 7) % 2147483647 < 2147483647 := Int.emod_lt_of_pos _ (by decide)
    walk_at "go"
    refine ⟨_, ix1 hp, ?_⟩
    walk_at "go"
    refine ml (.inl (Nat.lt_trans (Nat.add_lt_add (lg (k := 31) hb (by omega) (by decide)) (lg (i := 39373) (k := 31) (by decide) (by decide) (by decide))) (by decide))) ?_
    walk_at "go"
    refine ⟨_, st1 hp, ?_⟩
    have hp2 := get_set (c := .lst [.int a, .int ((b * 39373 + 7) % 2147483647)]) hp
    walk_at "go"
    refine ⟨_, ix1 hp2, ?_⟩
    walk_at "go"
    refine ⟨_, ix1 hp2, ?_⟩
    refine ml (.inl (Nat.lt_trans (Nat.add_lt_add (lg (k := 31) hm (by omega) (by decide)) (lg (k := 31) hm (by omega) (by decide))) (by decide))) ?_
    walk_at "go"
    refine md (by omega) ?_
    walk_at "go"
    refine isf_len set_len ⟨⟨_, rfl, Int.emod_nonneg _ (by omega), Int.emod_lt_of_pos _ (by omega)⟩, ⟨_, _, hp2, ha, hm, hm2⟩, _, rfl⟩
theorem b01 {p : Prop} [Decidable p] : (0 : Int) ≤ (if p then 1 else 0) ∧ (if p then (1 : Int) else 0) ≤ 1 := by split <;> decide
theorem szl {n : Nat} (h : n ≤ 1000) : n ≤ sizeLine := Nat.le_of_lt (small1000 h)
theorem pool_rest (k : Nat) (hk : k < 4) (z : Int) : 0 ≤ (if (-1 - z) > z then (-1 - z) else z) := by split <;> omega
theorem pool_ok (n : Nat) {M : Mem} {ns : List Int} {k : Nat} {E : Str → MV → Mem → Prop} (hk : k < 4) : Is (evF env0 (n + 1) ("_law_pool", none) [.scr ns, .int (k : Int)] M) (fun v M' => ∃ a b : Int, v = .ref M.length ∧ M' = M ++ [.lst [.int a, .int b]] ∧ 0 ≤ a ∧ 0 ≤ b ∧ b < 2147483647) E := by
  refine w_body (d := c0) rfl rfl ?_
  dsimp only [c0, Mini.start]
  walk_at "go"
  have hkk : (0 : Int) ≤ 7919 * (k : Int) * (k : Int) ∧ 7919 * (k : Int) * (k : Int) < 80000 := match k, hk with
    | 0, _ => by decide
    | 1, _ => by decide
    | 2, _ => by decide
    | 3, _ => by decide
  have lk : (k : Int).natAbs.log2 < 3 := lg (k := 3) (by omega) (by omega) (by decide)
  by_cases c : (k : Int) < (ns.length : Int)
  · refine br_t (decide_eq_true c) ?_
    walk_at "go"
    refine ⟨_, by simp only [idxV]; rw [atI_nat (List.getElem?_eq_getElem (by omega))]; rfl, ?_⟩
    walk_at "go"
    have h0 := pool_rest k hk (ns[k]'(by omega))
    refine ml (.inl (Nat.lt_trans (Nat.add_lt_add (lg (i := 7919) (k := 20) (by decide) (by decide) (by decide)) lk) (by decide))) ?_
    walk_at "go"
    refine ml (.inl (Nat.lt_trans (Nat.add_lt_add (lg (k := 20) (by omega) (by omega) (by decide)) lk) (by decide))) ?_
    walk_at "go"
    refine ml (.inl (Nat.lt_trans (Nat.add_lt_add (lg (i := 31) (k := 20) (by decide) (by decide) (by decide)) lk) (by decide))) ?_
    walk_at "go"
    refine ml (.inl (Nat.lt_trans (Nat.add_lt_add (lg (k := 40) (by omega) (by omega) (by decide)) (lg (i := 48271) (k := 20) (by decide) (by decide) (by decide))) (by decide))) ?_
    walk_at "go"
    refine ml (.inr b01) ?_
    walk_at "go"
    refine ⟨szl (by simp), isf_keep ⟨_, _, rfl, rfl, ?_, Int.emod_nonneg _ (by decide), Int.emod_lt_of_pos _ (by decide)⟩⟩
    exact Int.mul_nonneg h0 b01.1
  · refine br_f (decide_eq_false c) ?_
    walk_at "go"
    have h0 := pool_rest k hk 0
    refine ml (.inl (Nat.lt_trans (Nat.add_lt_add (lg (i := 7919) (k := 20) (by decide) (by decide) (by decide)) lk) (by decide))) ?_
    walk_at "go"
    refine ml (.inl (Nat.lt_trans (Nat.add_lt_add (lg (k := 20) (by omega) (by omega) (by decide)) lk) (by decide))) ?_
    walk_at "go"
    refine ml (.inl (Nat.lt_trans (Nat.add_lt_add (lg (i := 31) (k := 20) (by decide) (by decide) (by decide)) lk) (by decide))) ?_
    walk_at "go"
    refine ml (.inl (Nat.lt_trans (Nat.add_lt_add (lg (k := 40) (by omega) (by omega) (by decide)) (lg (i := 48271) (k := 20) (by decide) (by decide) (by decide))) (by decide))) ?_
    walk_at "go"
    refine ⟨szl (by simp), isf_keep ⟨_, _, rfl, rfl, ?_, Int.emod_nonneg _ (by decide), Int.emod_lt_of_pos _ (by decide)⟩⟩
    exact Int.mul_nonneg h0 b01.1
theorem addL_ok {M : Mem} {xs ys : List MV} {Q : MV → Prop} (h : xs.length + ys.length ≤ 200000) (q : Q (.lst (xs ++ ys))) : Op (binV .Add M (.lst xs) (.lst ys)) Q := by
  refine ⟨_, ?_, q⟩
  simp only [binV, addV, asL]
  rw [if_pos (Nat.le_trans h (by decide))]
/-! ### isinstance -/
theorem names_er : (tell0 []).ers.map ErD.c = eN.take 33 := by kernel_rfl
theorem names_eo : (tell0 []).eos.map ErD.c = [("TooMany" : Str)] := by kernel_rfl
theorem er_tm : ∀ c ∈ eN.take 33, c ≠ "TooMany" := by decide +kernel
theorem names_all : eN = eN.take 33 ++ [("TooMany" : Str)] := by kernel_rfl
theorem isk_at {c d : Str} (hc : c ∈ eN) (hd : d ∈ oN) : env0.isk c d = some (isF c d) := by
  show (tell0 []).isk c d = _
  unfold Tell.isk
  rw [if_pos (show d ∈ (tell0 []).isT from hd), names_er, names_eo]
  rw [names_all] at hc
  rcases List.mem_append.mp hc with h | h
  · rw [if_pos h]
    have h2 := er_tm c h
    unfold isF
    show some (decide (d = c) || (decide (d ∈ aN) || decide (d = "ValueError"))) = _
    unfold aN
    congr 1
    rw [Bool.eq_iff_iff]
    simp only [Bool.or_eq_true, Bool.and_eq_true, decide_eq_true_eq, List.mem_singleton, h2, ne_eq, not_false_eq_true, and_true, and_false, false_or, or_false]
    constructor
    · rintro (h | h | h)
      · exact .inl (.inl h.symm)
      · exact .inr h
      · exact .inl (.inr h)
    · rintro ((h | h) | h)
      · exact .inl h.symm
      · exact .inr (.inr h)
      · exact .inr (.inl h)
  · have hx := List.mem_singleton.mp h
    subst hx
    rw [if_neg (fun z => er_tm _ z rfl), if_pos List.mem_cons_self]
    unfold isF
    congr 1
    rw [Bool.eq_iff_iff]
    simp only [Bool.or_eq_true, Bool.and_eq_true, decide_eq_true_eq, ne_eq, not_true_eq_false, and_true, and_false, or_false]
    constructor
    · rintro (h | h)
      · exact .inl h.symm
      · exact .inr h
    · rintro (h | h)
      · exact .inl h.symm
      · exact .inr h
theorem sub_on : ∀ c ∈ eN, c ∈ oN := by decide +kernel
def eN33 : List Str := eN.take 33
theorem eN_33 : eN = eN33 ++ ([("TooMany" : Str)] : List Str) := by kernel_rfl
def L33 (x : MV) : List MV := eN33.map fun c => .err c x
theorem tbp0 : env0.tab ("_law_first", none) = some c2 := by kernel_rfl
theorem tbp1 : env0.tab ("_law_second", none) = some c3 := by kernel_rfl
theorem tbp2 : env0.tab ("_law_kinds", none) = some c4 := by kernel_rfl
local macro_rules | `(tactic| walk_at "sz") => `(tactic| refine ⟨szl (by first | decide | simp), ?_⟩)
theorem first_ok (n : Nat) {M : Mem} {x : MV} {E : Str → MV → Mem → Prop} : Is (evF env0 (n + 1) ("_law_first", none) [x] M) (fun v M' => v = .lst (L33 x) ∧ M' = M) E := by
  refine w_body (d := c2) tbp0 rfl ?_
  dsimp only [c2, Mini.start]
  repeat first | walk_at "ev" | walk_at "sz" | (refine addL_ok (by simp) ?_)
  exact isf_same ⟨rfl, rfl⟩
theorem second_ok (n : Nat) {M : Mem} {x : MV} {E : Str → MV → Mem → Prop} : Is (evF env0 (n + 1) ("_law_second", none) [x] M) (fun v M' => v = .lst (L33 x) ∧ M' = M) E := by
  refine w_body (d := c3) tbp1 rfl ?_
  dsimp only [c3, Mini.start]
  repeat first | walk_at "ev" | walk_at "sz" | (refine addL_ok (by simp) ?_)
  exact isf_same ⟨rfl, rfl⟩
end P
end LawK00

set_option Elab.async false
set_option linter.all false
set_option maxRecDepth 100000
set_option maxHeartbeats 4000000
namespace LawK00
namespace P
open PySem L2 Mini
local macro_rules | `(tactic| walk_at "ev") => `(tactic| first
  | ((with_reducible refine w_var (x := ?_) ?_ ?_); rotate_left 1; exact rfl)
  | with_reducible first | refine w_con ?_ | refine w_bin ?_ | refine w_cmp ?_ | refine w_idx ?_ | refine w_blt ?_ | refine w_nil ?_ | refine w_cons ?_ | refine w_att ?_ | refine w_cal ?_ | refine w_neg ?_ | refine w_not ?_ | refine w_and ?_ | refine w_or ?_ | refine w_chn ?_ | refine w_ife ?_ | refine w_slc ?_ | refine w_isi ?_ | refine w_som ?_ | refine w_non ?_ | refine w_star ?_ | refine w_dsp ?_ | refine w_bmt ?_ | refine w_mth ?_ | refine w_new ?_ | refine w_tup ?_ | refine w_lst ?_ | refine w_nwl ?_ | refine w_ndd ?_ | refine w_seq ?_ | refine w_rng ?_ | refine w_tno ?_ | refine w_tso ?_ | refine w_mke ?_ | refine w_rpr ?_
  | refine v_cons ?_ | refine v_nil ?_ | refine v_asg ?_ | refine v_asgT ?_ | refine v_asgP ?_ | refine v_ret ?_ | refine v_retN ?_ | refine v_exp ?_ | refine v_ite ?_ | refine v_sat ?_ | refine v_sub ?_ | refine v_augA ?_ | refine v_for ?_ | refine v_rse ?_ | refine v_try ?_ | refine v_pas ?_ | refine v_cnt ?_
  | ((with_reducible refine w_glb (x := ?_) ?_ ?_); rotate_left 1; exact rfl) | ((with_reducible refine v_augV (z := ?_) ?_ ?_); rotate_left 1; exact rfl))
local macro_rules | `(tactic| walk_at "op") => `(tactic| refine ⟨_, rfl, ?_⟩)
local macro_rules | `(tactic| walk_at "sz") => `(tactic| refine ⟨szl (by first | decide | simp), ?_⟩)
local macro_rules | `(tactic| walk_at "go") => `(tactic| repeat first | walk_at "ev" | walk_at "op" | walk_at "sz")
theorem is_op {n : Nat} {c d : Str} {Q : Bool → Prop} (hc : c ∈ eN) (hd : d ∈ oN) (q : Q (isF c d)) : Op ((env0.cfg n).isk c d) Q := ⟨_, isk_at hc hd, q⟩
theorem kinds_ok (n : Nat) {M : Mem} {c : Str} {x : MV} {E : Str → MV → Mem → Prop} (hc : c ∈ eN) : Is (evF env0 (n + 1) ("_law_kinds", none) [.err c x] M) (fun v M' => v = .lst (eN.map fun d => .bl (isF c d)) ∧ M' = M) E := by
  refine w_body (d := c4) tbp2 rfl ?_
  dsimp only [c4, Mini.start]
  repeat first | walk_at "ev" | walk_at "sz" | (refine addL_ok (by simp) ?_) | (refine w_ise ?_) | (refine ⟨c, x, rfl, is_op hc (by decide +kernel) ?_⟩)
  exact isf_same ⟨rfl, rfl⟩
/-! ### values that are compared -/
def Fit (M : Mem) (x : MV) (d : PyData) : Prop := toD 64 M x = some d ∧ d.canLay0 = true ∧ d.depth ≤ 64
theorem eq_same {M : Mem} {x y : MV} {d : PyData} (h : Fit M x d) (h' : Fit M y d) : cmpV .NotEq M x y = some false := by
  obtain ⟨e, c, p⟩ := h
  obtain ⟨e', _, _⟩ := h'
  simp only [cmpV, eqD, e, e', SeqAt.shaped, c, Bool.true_and, Bool.and_self]
  rw [if_pos (decide_eq_true p), SeqAt.eqv_refl d c]
  rfl
theorem mapO_map {α β γ : Type} {f : β → Option γ} {g : α → β} {h : α → γ} (e : ∀ a, f (g a) = some (h a)) : ∀ xs : List α, mapO f (xs.map g) = some (xs.map h)
  | [] => rfl
  | x :: xs => by
    rw [List.map_cons, mapO, e, mapO_map e xs]
    rfl
theorem fit_bls {M : Mem} (bs : List Bool) : Fit M (.lst (bs.map .bl)) (.list (bs.map .bool)) := by
  refine ⟨?_, ?_, ?_⟩
  · unfold toD
    dsimp only
    rw [mapO_map (h := PyData.bool) fun b => by rfl]
    rfl
  · simp only [PyData.canLay0]
    induction bs with
    | nil => simp [PyData.canLayAll0]
    | cons b bs ih => simp [PyData.canLayAll0, PyData.canLay0, ih]
  · simp only [PyData.depth]
    have : PyData.depthAll (bs.map .bool) = 0 := by
      induction bs with
      | nil => simp [PyData.depthAll]
      | cons b bs ih => simp [PyData.depthAll, PyData.depth, ih]
    omega
theorem fit_strs {M : Mem} {t : Str} (ht : PyData.strOk t = true) (n : Nat) : Fit M (.lst (List.replicate n (.str t))) (.list (List.replicate n (.str t))) := by
  refine ⟨?_, ?_, ?_⟩
  · unfold toD
    dsimp only
    have : mapO (toD 63 M) (List.replicate n (.str t)) = some (List.replicate n (.str t)) := by
      induction n with
      | zero => rfl
      | succ n ih => rw [List.replicate_succ, List.replicate_succ, mapO, ih]; rfl
    rw [this]
    rfl
  · simp only [PyData.canLay0]
    induction n with
    | zero => simp [PyData.canLayAll0]
    | succ n ih => simp [List.replicate_succ, PyData.canLayAll0, PyData.canLay0, ht, ih]
  · simp only [PyData.depth]
    have : PyData.depthAll (List.replicate n (.str t)) = 0 := by
      induction n with
      | zero => simp [PyData.depthAll]
      | succ n ih => simp [List.replicate_succ, PyData.depthAll, PyData.depth, ih]
    omega
theorem fit_str {M : Mem} {t : Str} (ht : PyData.strOk t = true) : Fit M (.str t) (.str t) := ⟨rfl, by simp [PyData.canLay0, ht], by simp [PyData.depth]⟩
/-! ### walks -/
theorem map_exact {f : MV → Mem → Res (Option MV)} {E : Str → MV → Mem → Prop} {h : MV → MV} {M : Mem} : ∀ (xs : List MV), (∀ x ∈ xs, Is (f x M) (fun o M1 => o = some (h x) ∧ M1 = M) E) → Is (mapR f xs M) (fun ys M1 => ys = xs.map h ∧ M1 = M) E
  | [], _ => map_nil ⟨rfl, rfl⟩
  | x :: xs, hf => map_cons ((hf x List.mem_cons_self).imp fun o M1 ⟨e, e1⟩ => by
    subst e e1
    exact (map_exact xs fun z hz => hf z (List.mem_cons_of_mem _ hz)).imp fun ys M2 ⟨h1, h2⟩ => ⟨by rw [h1]; rfl, h2⟩)
theorem is_calm {α : Type} {R : Res α} {Q : α → Mem → Prop} {E : Str → MV → Mem → Prop} (h : Is R Q fun _ _ _ => False) : Is (calm R) Q E := by
  cases R with
  | ok a M => exact is_ok rfl (ok_is h)
  | exn c x M => exact (exn_is h : False).elim
  | stuck => exact stuck_is h
theorem lc_one {g : Cfg} {r2 : Rho} {a : CE} {M : Mem} {Q : Option MV → Mem → Prop} {E : Str → MV → Mem → Prop} (h : Is (evE g r2 a M) (fun y M1 => Q (some y) M1) fun _ _ _ => False) :
    Is (calm ((evT g r2 .none M).bind fun b M3 => if b then (evE g r2 a M3).bind fun y M4 => .ok (some y) M4 else .ok none M3)) Q E := by
  refine is_calm (is_bind (w_tno ?_))
  rw [if_pos rfl]
  exact is_bind (h.imp fun y M1 q => is_ok rfl q)
/-- a thing whose repr is told -/
def RX (x : MV) (t : Str) : Prop := (∀ M, reprM M x = some (.str t)) ∧ PyData.strOk t = true
theorem kinds_at : ∀ i : Fin 34, (eN.map fun d => isF (eN.getD i.1 "") d) = (List.range 34).map fun k => decide (i.1 = k) := by decide +kernel
theorem len34 : eN.length = 34 := by kernel_rfl
end P
end LawK00

set_option Elab.async false
set_option linter.all false
set_option maxRecDepth 100000
set_option maxHeartbeats 4000000
namespace LawK00
namespace P
open PySem L2 Mini
local macro_rules | `(tactic| walk_at "ev") => `(tactic| first
  | ((with_reducible refine w_var (x := ?_) ?_ ?_); rotate_left 1; exact rfl)
  | with_reducible first | refine w_con ?_ | refine w_bin ?_ | refine w_cmp ?_ | refine w_idx ?_ | refine w_blt ?_ | refine w_nil ?_ | refine w_cons ?_ | refine w_att ?_ | refine w_cal ?_ | refine w_neg ?_ | refine w_not ?_ | refine w_and ?_ | refine w_or ?_ | refine w_chn ?_ | refine w_ife ?_ | refine w_slc ?_ | refine w_isi ?_ | refine w_som ?_ | refine w_non ?_ | refine w_star ?_ | refine w_dsp ?_ | refine w_bmt ?_ | refine w_mth ?_ | refine w_new ?_ | refine w_tup ?_ | refine w_lst ?_ | refine w_nwl ?_ | refine w_ndd ?_ | refine w_seq ?_ | refine w_rng ?_ | refine w_tno ?_ | refine w_tso ?_ | refine w_mke ?_ | refine w_rpr ?_
  | refine v_cons ?_ | refine v_nil ?_ | refine v_asg ?_ | refine v_asgT ?_ | refine v_asgP ?_ | refine v_ret ?_ | refine v_retN ?_ | refine v_exp ?_ | refine v_ite ?_ | refine v_sat ?_ | refine v_sub ?_ | refine v_augA ?_ | refine v_for ?_ | refine v_rse ?_ | refine v_try ?_ | refine v_pas ?_ | refine v_cnt ?_
  | ((with_reducible refine w_glb (x := ?_) ?_ ?_); rotate_left 1; exact rfl) | ((with_reducible refine v_augV (z := ?_) ?_ ?_); rotate_left 1; exact rfl))
local macro_rules | `(tactic| walk_at "op") => `(tactic| refine ⟨_, rfl, ?_⟩)
local macro_rules | `(tactic| walk_at "sz") => `(tactic| refine ⟨szl (by first | decide | simp), ?_⟩)
local macro_rules | `(tactic| walk_at "go") => `(tactic| repeat first | walk_at "ev" | walk_at "op" | walk_at "sz")
/-! ### one turn of the law -/
theorem getD_mem {i : Nat} (h : i < 34) : eN.getD i "" ∈ eN := by
  have hl : i < eN.length := by rw [len34]; exact h
  rw [List.getD_eq_getElem?_getD, List.getElem?_eq_getElem hl]
  exact List.getElem_mem hl
theorem fo33 : ∀ c ∈ eN33, fo c = "told" := by decide +kernel
theorem mem33 {c : Str} (h : c ∈ eN33) : c ∈ eN := by rw [eN_33]; exact List.mem_append_left _ h
theorem some_isk {c : Str} (h : c ∈ eN) : (env0.isk c c).isSome = true := by rw [isk_at h (sub_on c h)]; rfl
theorem memL {x y : MV} (h : y ∈ L33 x) : ∃ c ∈ eN33, y = .err c x := by
  obtain ⟨c, hc, rfl⟩ := List.mem_map.mp h
  exact ⟨c, hc, rfl⟩
theorem reps {x : MV} {t : Str} (hx : RX x t) {M : Mem} {Q : MV → Prop} (q : Q (.str t)) : Op (reprM M x) Q := ⟨_, hx.1 M, q⟩
def L34 (x : MV) : List MV := eN.map fun c => .err c x
theorem L34_eq (x : MV) : L33 x ++ [.err "TooMany" x] = L34 x := by
  unfold L33 L34
  rw [eN_33, List.map_append]
  rfl
theorem len33 (x : MV) : (L33 x).length = 33 := by
  unfold L33
  rw [List.length_map]
  kernel_rfl
theorem map_rep {f : MV → MV} {y : MV} : ∀ (xs : List MV), (∀ x ∈ xs, f x = y) → xs.map f = List.replicate xs.length y
  | [], _ => rfl
  | x :: xs, h => by rw [List.map_cons, h x List.mem_cons_self, map_rep xs fun z hz => h z (List.mem_cons_of_mem _ hz)]; rfl
theorem mulL {M : Mem} {z : MV} {j : Int} {Q : MV → Prop} (h : 0 ≤ j ∧ j ≤ 1000) (q : Q (.lst (List.replicate j.toNat z))) : Op (binV .Mult M (.lst [z]) (.int j)) Q := ⟨_, by simp only [binV]; rw [if_pos h], q⟩
theorem ints_map : ∀ (n : Nat) (lo : Int), intsFrom lo n = (List.range n).map fun (k : Nat) => .int (lo + k)
  | 0, _ => rfl
  | n + 1, lo => by
    rw [Mini.intsFrom, ints_map n (lo + 1), List.range_succ_eq_map, List.map_cons, List.map_map]
    congr 1
    · simp
    · refine List.map_congr_left fun k _ => ?_
      show MV.int (lo + 1 + (k : Int)) = MV.int (lo + ((k + 1 : Nat) : Int))
      congr 1
      omega
section
variable {n : Nat} {M : Mem} {x : MV} {t : Str} {a0 a1 a2 a3 a4 a5 a6 a7 a8 : Option MV}
theorem lc_reprs (hx : RX x t) {E : Str → MV → Mem → Prop} : Is (evE (env0.cfg (n + 1)) [a0, a1, a2, some x, a4, some (.lst (L33 x)), a6, a7, a8] (.lcp [7] true (.seq (.bin .Add (.var 5) (.cal "_law_second" (.cons (.var 3) .nil)))) .none (.rpr (.eat (.var 7) "told"))) M) (fun v M1 => v = .lst (List.replicate 66 (.str t)) ∧ M1 = M) E := by
  refine w_lcp ?_
  walk_at "go"
  refine (second_ok n).imp fun v M1 ⟨e1, e2⟩ => ?_
  subst e1 e2
  refine addL_ok (by rw [len33]; decide) ⟨_, rfl, ?_⟩
  refine (map_exact (h := fun _ => .str t) _ fun y hy => ?_).imp fun ys M2 ⟨h1, h2⟩ => ?_
  · have : ∃ c ∈ eN33, y = .err c x := (List.mem_append.mp hy).elim memL memL
    obtain ⟨c, hc, rfl⟩ := this
    dsimp only [bind1, wipeR, List.set_cons_succ, List.set_cons_zero]
    refine lc_one ?_
    refine w_rpr (w_eat ?_)
    walk_at "go"
    exact ⟨c, x, rfl, ⟨fo33 c hc, some_isk (mem33 hc)⟩, reps hx ⟨rfl, rfl⟩⟩
  · subst h2
    rw [map_rep (y := .str t) _ fun _ _ => rfl, List.length_append, len33] at h1
    subst h1
    exact ⟨szl (by simp), rfl, rfl⟩
theorem lc_range {i : Nat} {E : Str → MV → Mem → Prop} : Is (evE (env0.cfg (n + 1)) [a0, a1, a2, a3, a4, a5, some (.int (i : Int)), a7, a8] (.lcp [8] true (.rng (.con (.int 34))) .none (.cmp .Eq (.var 6) (.var 8))) M) (fun v M1 => v = .lst (((List.range 34).map fun k => decide (i = k)).map .bl) ∧ M1 = M) E := by
  refine w_lcp ?_
  walk_at "go"
  refine ⟨by decide, ?_⟩
  rw [ints_map]
  refine (map_exact (h := fun y => match y with | .int k => .bl (decide ((i : Int) = k)) | _ => .non) _ fun y hy => ?_).imp fun ys M2 ⟨h1, h2⟩ => ?_
  · obtain ⟨k, _, rfl⟩ := List.mem_map.mp hy
    dsimp only [bind1, wipeR, List.set_cons_succ, List.set_cons_zero]
    refine lc_one ?_
    walk_at "go"
    exact ⟨rfl, rfl⟩
  · subst h2
    rw [List.map_map] at h1
    subst h1
    refine ⟨szl (by simp), ?_, rfl⟩
    rw [List.map_map]
    congr 1
    refine List.map_congr_left fun k _ => ?_
    show MV.bl (decide ((i : Int) = 0 + (k : Int))) = MV.bl (decide (i = k))
    congr 1
    exact decide_eq_decide.mpr ⟨fun h => by omega, fun h => by omega⟩
theorem lc_is {T : Str} (hT : T ∈ oN) {E : Str → MV → Mem → Prop} : Is (evE (env0.cfg (n + 1)) [a0, a1, a2, a3, a4, some (.lst (L34 x)), a6, a7, a8] (.lcp [7] true (.seq (.var 5)) .none (.ise (.var 7) T)) M) (fun v M1 => v = .lst ((eN.map fun c => isF c T).map .bl) ∧ M1 = M) E := by
  refine w_lcp ?_
  walk_at "go"
  refine (map_exact (h := fun y => match y with | .err c _ => .bl (isF c T) | _ => .non) _ fun y hy => ?_).imp fun ys M2 ⟨h1, h2⟩ => ?_
  · obtain ⟨c, hc, rfl⟩ := List.mem_map.mp hy
    dsimp only [bind1, wipeR, List.set_cons_succ, List.set_cons_zero]
    refine lc_one (w_ise ?_)
    walk_at "go"
    exact ⟨c, x, rfl, is_op hc hT ⟨rfl, rfl⟩⟩
  · subst h2
    unfold L34 at h1
    rw [List.map_map] at h1
    subst h1
    refine ⟨szl (by rw [List.length_map, len34]; decide), ?_, rfl⟩
    rw [List.map_map]
    rfl
end
theorem enu_drop : ∀ (xs : List MV) (n : Int) (k : Nat), k < xs.length → ∃ y, xs[k]? = some y ∧ (enuL n xs).drop k = .tup [.int (n + k), y] :: (enuL n xs).drop (k + 1)
  | [], _, _, h => by simp at h
  | x :: xs, n, 0, _ => ⟨x, rfl, by simp [enuL]⟩
  | x :: xs, n, k + 1, h => by
    obtain ⟨y, h1, h2⟩ := enu_drop xs (n + 1) k (by simpa using h)
    refine ⟨y, h1, ?_⟩
    show (enuL (n + 1) xs).drop k = _ :: (enuL (n + 1) xs).drop (k + 1)
    rw [h2]
    congr 3
    congr 1
    omega
def bodyT : CB := match c5.body with
  | .cons _ (.cons _ (.cons (.forr _ _ _ b) _)) => b
  | _ => .nil
def is3 : List Bool := List.replicate 33 true ++ [false]
theorem is_sc : (eN.map fun c => isF c "ScopeError") = List.replicate 33 true ++ [false] := by decide +kernel
theorem is_ve : (eN.map fun c => isF c "ValueError") = List.replicate 33 true ++ [false] := by decide +kernel
theorem is_oe : (eN.map fun c => isF c "OverflowError") = List.replicate 33 false ++ [true] := by decide +kernel
theorem ho1 : ("ScopeError" : Str) ∈ oN := by decide +kernel
theorem ho2 : ("ValueError" : Str) ∈ oN := by decide +kernel
theorem ho3 : ("OverflowError" : Str) ∈ oN := by decide +kernel
theorem ht34 : ("TooMany" : Str) ∈ eN := by decide +kernel
theorem fo34 : fo "TooMany" = "most" := by decide +kernel
theorem bls_eq (k : Bool) (l : Bool) : (MV.lst (List.replicate 33 (.bl k) ++ [.bl l])) = .lst ((List.replicate 33 k ++ [l]).map .bl) := by simp
end P
end LawK00

set_option Elab.async false
set_option linter.all false
set_option maxRecDepth 100000
set_option maxHeartbeats 4000000
namespace LawK00
namespace P
open PySem L2 Mini
local macro_rules | `(tactic| walk_at "ev") => `(tactic| first
  | ((with_reducible refine w_var (x := ?_) ?_ ?_); rotate_left 1; exact rfl)
  | with_reducible first | refine w_con ?_ | refine w_bin ?_ | refine w_cmp ?_ | refine w_idx ?_ | refine w_blt ?_ | refine w_nil ?_ | refine w_cons ?_ | refine w_att ?_ | refine w_cal ?_ | refine w_neg ?_ | refine w_not ?_ | refine w_and ?_ | refine w_or ?_ | refine w_chn ?_ | refine w_ife ?_ | refine w_slc ?_ | refine w_isi ?_ | refine w_som ?_ | refine w_non ?_ | refine w_star ?_ | refine w_dsp ?_ | refine w_bmt ?_ | refine w_mth ?_ | refine w_new ?_ | refine w_tup ?_ | refine w_lst ?_ | refine w_nwl ?_ | refine w_ndd ?_ | refine w_seq ?_ | refine w_rng ?_ | refine w_tno ?_ | refine w_tso ?_ | refine w_mke ?_ | refine w_rpr ?_
  | refine v_cons ?_ | refine v_nil ?_ | refine v_asg ?_ | refine v_asgT ?_ | refine v_asgP ?_ | refine v_ret ?_ | refine v_retN ?_ | refine v_exp ?_ | refine v_ite ?_ | refine v_sat ?_ | refine v_sub ?_ | refine v_augA ?_ | refine v_for ?_ | refine v_rse ?_ | refine v_try ?_ | refine v_pas ?_ | refine v_cnt ?_
  | ((with_reducible refine w_glb (x := ?_) ?_ ?_); rotate_left 1; exact rfl) | ((with_reducible refine v_augV (z := ?_) ?_ ?_); rotate_left 1; exact rfl))
local macro_rules | `(tactic| walk_at "op") => `(tactic| refine ⟨_, rfl, ?_⟩)
local macro_rules | `(tactic| walk_at "sz") => `(tactic| refine ⟨szl (by first | decide | simp), ?_⟩)
local macro_rules | `(tactic| walk_at "go") => `(tactic| repeat first | walk_at "ev" | walk_at "op" | walk_at "sz")
theorem inner_ok {n : Nat} {M : Mem} {x : MV} {a0 a1 a2 a3 a4 a6 a7 a8 : Option MV} {E : Str → MV → Mem → Prop} : Is (forV (fun z r1 M2 => match bind1 [6, 7] false z r1 with
    | none => .stuck
    | some r2 => evB (env0.cfg (n + 1)) (.cons (.ite (.cmp .NotEq (.cal "_law_kinds" (.cons (.var 7) .nil)) (.lcp [8] true (.rng (.con (.int 34))) .none (.cmp .Eq (.var 6) (.var 8)))) (.cons (.ret (.con (.bl false))) .nil) .nil) .nil) r2 M2) (enuL 0 (L34 x)) [a0, a1, a2, a3, a4, some (.lst (L34 x)), a6, a7, a8] M)
    (fun w M1 => M1 = M ∧ ∃ b6 b7, w = .next [a0, a1, a2, a3, a4, some (.lst (L34 x)), b6, b7, a8]) E := by
  refine for_inv (fun xs r M1 => M1 = M ∧ ∃ k b6 b7, xs = (enuL 0 (L34 x)).drop k ∧ r = [a0, a1, a2, a3, a4, some (.lst (L34 x)), b6, b7, a8]) (fun z zs r M1 ⟨e1, k, b6, b7, e2, e3⟩ => ?_) (fun r M1 ⟨e1, k, b6, b7, e2, e3⟩ => ⟨e1, b6, b7, by rw [e3]⟩) _ _ _ ⟨rfl, 0, a6, a7, rfl, rfl⟩
  subst e1 e3
  have hk : k < (L34 x).length := by
    by_cases h : k < (L34 x).length
    · exact h
    · rw [List.drop_eq_nil_of_le (by rw [enuL_len]; omega)] at e2
      cases e2
  obtain ⟨y, h1, h2⟩ := enu_drop (L34 x) 0 k hk
  rw [h2] at e2
  obtain ⟨rfl, rfl⟩ := List.cons.inj e2
  have hk34 : k < 34 := by
    unfold L34 at hk
    rw [List.length_map, len34] at hk
    exact hk
  have hy : y = .err (eN.getD k "") x := by
    unfold L34 at h1
    have hl : k < eN.length := by rw [len34]; exact hk34
    rw [List.getElem?_map, List.getElem?_eq_getElem hl] at h1
    rw [List.getD_eq_getElem?_getD, List.getElem?_eq_getElem hl]
    exact (Option.some.inj h1).symm
  subst hy
  dsimp only [bind1, List.length_cons, List.length_nil, List.zip_cons_cons, List.zip_nil_right, List.foldl_cons, List.foldl_nil, List.set_cons_succ, List.set_cons_zero]
  rw [if_pos rfl, Int.zero_add]
  dsimp only
  refine v_cons (v_ite (w_cmp (w_cal ?_)))
  walk_at "go"
  refine (kinds_ok n (getD_mem hk34)).imp fun v M1 ⟨e1, e2⟩ => ?_
  subst e1 e2
  refine lc_range.imp fun v M1 ⟨e1, e2⟩ => ?_
  subst e1 e2
  have e := kinds_at ⟨k, hk34⟩
  dsimp only at e
  rw [← e]
  refine ⟨_, ?_, ⟨_, rfl, br_f rfl ?_⟩⟩
  · rw [List.map_map]
    have f := fit_bls (M := M1) (eN.map fun d => isF (eN.getD k "") d)
    rw [List.map_map] at f
    exact eq_same f f
  · walk_at "go"
    exact ⟨rfl, k + 1, _, _, rfl, rfl⟩
theorem turn_ok {n : Nat} {M : Mem} {x : MV} {t : Str} {a0 a1 a2 a4 a5 a6 a7 : Option MV} {E : Str → MV → Mem → Prop} (hx : RX x t) : Is (evB (env0.cfg (n + 1)) bodyT [a0, a1, a2, some x, a4, a5, a6, a7, none] M) (fun w M1 => M1 = M ∧ ∃ b4 b5 b6 b7, w = .next [a0, a1, a2, some x, b4, b5, b6, b7, none]) E := by
  dsimp only [bodyT, c5]
  refine v_cons (v_asgP (w_cons (w_cal ?_)))
  walk_at "go"
  refine (first_ok n).imp fun v M1 ⟨e1, e2⟩ => ?_
  subst e1 e2
  walk_at "go"
  refine reps hx ?_
  walk_at "go"
  dsimp only [List.zip_cons_cons, List.zip_nil_right, List.foldl_cons, List.foldl_nil, List.set_cons_succ, List.set_cons_zero]
  refine (lc_reprs hx).imp fun v M1 ⟨e1, e2⟩ => ?_
  subst e1 e2
  walk_at "go"
  refine ⟨_, eq_same (fit_strs hx.2 66) (fit_strs hx.2 66), ?_⟩
  refine ⟨_, rfl, br_f rfl ?_⟩
  walk_at "go"
  refine w_eat ?_
  walk_at "go"
  refine ⟨_, _, rfl, ⟨fo34, some_isk ht34⟩, reps hx ?_⟩
  walk_at "go"
  refine ⟨_, eq_same (fit_str hx.2) (fit_str hx.2), ?_⟩
  refine ⟨_, rfl, br_f rfl ?_⟩
  walk_at "go"
  refine w_eat ?_
  walk_at "go"
  refine ⟨_, _, rfl, ⟨fo34, some_isk ht34⟩, reps hx ?_⟩
  walk_at "go"
  refine ⟨_, eq_same (fit_str hx.2) (fit_str hx.2), ?_⟩
  refine ⟨_, rfl, br_f rfl ?_⟩
  walk_at "go"
  rw [L34_eq]
  walk_at "go"
  refine w_enu ?_
  walk_at "go"
  refine inner_ok.imp fun w M2 ⟨e2, b6, b7, ew⟩ => ?_
  subst e2 ew
  dsimp only
  walk_at "go"
  refine (lc_is ho1).imp fun v M3 ⟨e1, e2⟩ => ?_
  rw [is_sc] at e1
  subst e1 e2
  repeat first | walk_at "ev" | walk_at "sz"
  refine mulL (by decide) ?_
  repeat first | walk_at "ev" | walk_at "sz"
  refine addL_ok (by simp) ⟨_, (congrArg (cmpV .NotEq M3 _) (bls_eq true false)).trans (eq_same (fit_bls _) (fit_bls _)), ⟨_, rfl, br_f rfl ?_⟩⟩
  walk_at "go"
  refine (lc_is ho2).imp fun v M4 ⟨e1, e2⟩ => ?_
  rw [is_ve] at e1
  subst e1 e2
  repeat first | walk_at "ev" | walk_at "sz"
  refine mulL (by decide) ?_
  repeat first | walk_at "ev" | walk_at "sz"
  refine addL_ok (by simp) ⟨_, (congrArg (cmpV .NotEq M4 _) (bls_eq true false)).trans (eq_same (fit_bls _) (fit_bls _)), ⟨_, rfl, br_f rfl ?_⟩⟩
  walk_at "go"
  refine (lc_is ho3).imp fun v M5 ⟨e1, e2⟩ => ?_
  rw [is_oe] at e1
  subst e1 e2
  repeat first | walk_at "ev" | walk_at "sz"
  refine mulL (by decide) ?_
  repeat first | walk_at "ev" | walk_at "sz"
  refine addL_ok (by simp) ⟨_, (congrArg (cmpV .NotEq M5 _) (bls_eq false true)).trans (eq_same (fit_bls _) (fit_bls _)), ⟨_, rfl, br_f rfl ?_⟩⟩
  walk_at "go"
  exact ⟨rfl, _, _, _, _, rfl⟩
end P
end LawK00

set_option Elab.async false
set_option linter.all false
set_option maxRecDepth 100000
set_option maxHeartbeats 4000000
namespace LawK00
namespace P
open PySem L2 Mini
local macro_rules | `(tactic| walk_at "ev") => `(tactic| first
  | ((with_reducible refine w_var (x := ?_) ?_ ?_); rotate_left 1; exact rfl)
  | with_reducible first | refine w_con ?_ | refine w_bin ?_ | refine w_cmp ?_ | refine w_idx ?_ | refine w_blt ?_ | refine w_nil ?_ | refine w_cons ?_ | refine w_att ?_ | refine w_cal ?_ | refine w_neg ?_ | refine w_not ?_ | refine w_and ?_ | refine w_or ?_ | refine w_chn ?_ | refine w_ife ?_ | refine w_slc ?_ | refine w_isi ?_ | refine w_som ?_ | refine w_non ?_ | refine w_star ?_ | refine w_dsp ?_ | refine w_bmt ?_ | refine w_mth ?_ | refine w_new ?_ | refine w_tup ?_ | refine w_lst ?_ | refine w_nwl ?_ | refine w_ndd ?_ | refine w_seq ?_ | refine w_rng ?_ | refine w_tno ?_ | refine w_tso ?_ | refine w_mke ?_ | refine w_rpr ?_
  | refine v_cons ?_ | refine v_nil ?_ | refine v_asg ?_ | refine v_asgT ?_ | refine v_asgP ?_ | refine v_ret ?_ | refine v_retN ?_ | refine v_exp ?_ | refine v_ite ?_ | refine v_sat ?_ | refine v_sub ?_ | refine v_augA ?_ | refine v_for ?_ | refine v_rse ?_ | refine v_try ?_ | refine v_pas ?_ | refine v_cnt ?_
  | ((with_reducible refine w_glb (x := ?_) ?_ ?_); rotate_left 1; exact rfl) | ((with_reducible refine v_augV (z := ?_) ?_ ?_); rotate_left 1; exact rfl))
local macro_rules | `(tactic| walk_at "op") => `(tactic| refine ⟨_, rfl, ?_⟩)
local macro_rules | `(tactic| walk_at "sz") => `(tactic| refine ⟨szl (by first | decide | simp), ?_⟩)
local macro_rules | `(tactic| walk_at "go") => `(tactic| repeat first | walk_at "ev" | walk_at "op" | walk_at "sz")
/-! ### the things -/
theorem strOk_of (s : String) : PyData.strOk (Str.ofString s) = true := by
  rw [Str.ofString_eq_toList]
  unfold PyData.strOk
  have h : ((s.toList.map Char.toNat).all fun n => decide (n < 0x110000)) = true := by
    rw [List.all_map, List.all_eq_true]
    intro c _
    have h := c.valid
    refine decide_eq_true ?_
    show c.toNat < 0x110000
    rcases h with h | ⟨_, h⟩
    · exact Nat.lt_trans h (by decide)
    · exact h
  simpa using h
theorem rx_of {x : MV} {d : PyData} (h : ∀ M, rpD M x = some d) (h1 : d.showable = true) (h2 : d.shown.length ≤ sizeLine) (h3 : d.depth ≤ 64) (h4 : PyData.strOk d.shown = true) : RX x d.shown := ⟨fun M => by
  unfold reprM
  rw [h M]
  dsimp only
  rw [if_pos ⟨h1, h2, h3⟩], h4⟩
theorem rx1 : RX .non (PyData.none).shown := rx_of (fun _ => rfl) (by decide +kernel) (by decide +kernel) (by decide +kernel) (by decide +kernel)
theorem rx2 : RX (.bl true) (PyData.bool true).shown := rx_of (fun _ => rfl) (by decide +kernel) (by decide +kernel) (by decide +kernel) (by decide +kernel)
theorem rx3 : RX (.int 0) (PyData.int 0).shown := rx_of (fun _ => rfl) (by decide +kernel) (by decide +kernel) (by decide +kernel) (by decide +kernel)
theorem rx4 : RX (.str "a") (PyData.str "a").shown := rx_of (fun _ => rfl) (by decide +kernel) (by decide +kernel) (by decide +kernel) (by decide +kernel)
theorem rx5 : RX (.tup [.int 1, .non]) (PyData.tuple [.int 1, .none]).shown := rx_of (fun _ => rfl) (by decide +kernel) (by decide +kernel) (by decide +kernel) (by decide +kernel)
theorem rx6 : RX (.lst [.int 1, .lst [.int 2]]) (PyData.list [.int 1, .list [.int 2]]).shown := rx_of (fun _ => rfl) (by decide +kernel) (by decide +kernel) (by decide +kernel) (by decide +kernel)
theorem rx7 : RX (.dck [(.inr "a", .int 1)]) (PyData.dict [(.str "a", .int 1)]).shown := rx_of (fun _ => rfl) (by decide +kernel) (by decide +kernel) (by decide +kernel) (by decide +kernel)
theorem rx8 {i : Int} (h : i.natAbs.log2 < 1920) (hl : (Str.ofString (toString i)).length ≤ sizeLine) : RX (.int i) (PyData.int i).shown := rx_of (fun _ => rfl) (by simp only [PyData.showable]; exact decide_eq_true h) (by simp only [PyData.shown]; exact hl) (by simp [PyData.depth]) (by simp only [PyData.shown]; exact strOk_of _)
theorem small_int {i : Int} (h0 : -(10 ^ 30) ≤ i) (h1 : i < 10 ^ 30) : i.natAbs.log2 < 1920 ∧ (Str.ofString (toString i)).length ≤ sizeLine := by
  constructor
  · refine PySem.Flt.log2_lt_of (by decide) ?_
    have : i.natAbs ≤ 10 ^ 30 := by omega
    exact Nat.lt_of_le_of_lt this (by decide)
  · by_cases h : 0 ≤ i
    · exact Nat.le_trans (PyProof.Rows.toString_length_le h (k := 31) (by decide) (by omega)) (by decide)
    · have h2 : i < 0 := by omega
      rw [PyProof.Rows.len_text_neg h2]
      have := PyProof.Rows.toString_length_le (v := 0 - i) (by omega) (k := 31) (by decide) (by omega)
      exact Nat.le_trans (Nat.add_le_add_left this 1) (by decide)
theorem tbl5 : env0.tab ("law", none) = some c5 := by kernel_rfl
theorem loop_ok {n : Nat} {M : Mem} {xs : List MV} {a0 a1 a2 : Option MV} {E : Str → MV → Mem → Prop} (hx : ∀ x ∈ xs, ∃ t, RX x t) : Is (forV (fun z r1 M2 => match bind1 [3] true z r1 with
    | none => .stuck
    | some r2 => evB (env0.cfg (n + 1)) bodyT r2 M2) xs [a0, a1, a2, none, none, none, none, none, none] M) (fun w M1 => M1 = M ∧ ∃ r, w = .next r) E := by
  refine for_inv (fun ys r M1 => M1 = M ∧ (∀ y ∈ ys, ∃ t, RX y t) ∧ ∃ b3 b4 b5 b6 b7, r = [a0, a1, a2, b3, b4, b5, b6, b7, none]) (fun y ys r M1 ⟨e1, h, b3, b4, b5, b6, b7, e2⟩ => ?_) (fun r M1 ⟨e1, _⟩ => ⟨e1, r, rfl⟩) _ _ _ ⟨rfl, hx, _, _, _, _, _, rfl⟩
  subst e1 e2
  obtain ⟨t, ht⟩ := h y List.mem_cons_self
  dsimp only [bind1, List.set_cons_succ, List.set_cons_zero]
  refine (turn_ok ht).imp fun w M2 ⟨e1, b4, b5, b6, b7, ew⟩ => ?_
  subst e1 ew
  exact ⟨rfl, fun z hz => h z (List.mem_cons_of_mem _ hz), _, _, _, _, _, rfl⟩
theorem frz_clean {M : Mem} {n k : Nat} {x : MV} (h : clean n x = true) : frz M n (k + 1) x = some x := by
  unfold frz
  rw [if_pos h]
theorem fin_nil {M1 : Mem} {E : Str → MV → Mem → Prop} : Is (fin false [] (.ok (.bl true) M1)) (fun v _ => v = .bl true) E := by
  by_cases c : M1.length = 0
  · exact isf_len c rfl
  · exact is_ok (fin_frz (u := .bl true) c rfl (frz_clean (by simp [clean]))) rfl
theorem law_is (ns : List Int) : Is (evF env0 8 ("law", none) [.scr ns] []) (fun v _ => v = .bl true) fun _ _ _ => False := by
  refine w_body (n := 7) (d := c5) tbl5 rfl ?_
  dsimp only [c5, Mini.start]
  refine v_cons (v_asg (w_cal ?_))
  walk_at "go"
  refine (pool_ok (k := 0) 6 (by decide)).imp fun v M1 ⟨a, b, e1, e2, h1, h2, h3⟩ => ?_
  subst e1 e2
  have g0 : Good ([] ++ [.lst [.int a, .int b]]) 0 := ⟨a, b, rfl, h1, h2, h3⟩
  walk_at "go"
  refine ⟨⟨rfl, by simp, by decide⟩, ?_⟩
  walk_at "go"
  refine (take_ok 6 g0 (by decide) (by decide)).imp fun v M2 ⟨⟨i, e1, h4, h5⟩, u1⟩ => ?_
  subst e1
  walk_at "go"
  refine (take_ok 6 u1.1 (by decide) (by decide)).imp fun v M3 ⟨⟨j, e1, h6, h7⟩, u2⟩ => ?_
  subst e1
  walk_at "go"
  refine (loop_ok (n := 6) fun x hx => ?_).imp fun w M4 ⟨e1, r, e2⟩ => ?_
  · simp only [List.cons_append, List.nil_append, List.mem_cons, List.not_mem_nil, or_false] at hx
    rcases hx with rfl | rfl | rfl | rfl | rfl | rfl | rfl | rfl | rfl
    · exact ⟨_, rx1⟩
    · exact ⟨_, rx2⟩
    · exact ⟨_, rx3⟩
    · exact ⟨_, rx4⟩
    · exact ⟨_, rx5⟩
    · exact ⟨_, rx6⟩
    · exact ⟨_, rx7⟩
    · have h5 : i < 10 ^ 30 := h5
      obtain ⟨q1, q2⟩ := small_int (i := i) (by omega) (by omega)
      exact ⟨_, rx8 q1 q2⟩
    · obtain ⟨q1, q2⟩ := small_int (i := -1 - j) (by omega) (by omega)
      exact ⟨_, rx8 q1 q2⟩
  · subst e1 e2
    exact v_cons (v_ret (w_con fin_nil))
theorem law_true0 (ns : List Int) : ∃ M, evF env0 8 ("law", none) [.scr ns] [] = .ok (.bl true) M := by
  obtain ⟨a, M, e, q⟩ := (law_is ns).ex
  exact ⟨M, by rw [e, q]⟩
end P
end LawK00

set_option Elab.async false
set_option linter.all false
set_option maxRecDepth 100000
set_option maxHeartbeats 4000000
namespace LawK00
open PySem L2 Mini
def deep : Nat := 8
theorem law_true (ns : List Int) (hl : ns.length ≤ 63) : ∃ M, evF env deep ("law", none) [.scr ns] [] = .ok (.bl true) M := P.law_true0 ns

end LawK00
open PySem PySem.W PySem.Calls PyProof.Rows in
theorem PySem.Challenge.cw_sharedscopes_k00_errors_made_holds : PySem.Challenge.rw_sharedscopes_k00_errors_made.Holds := by
  w_on; o_law
  refine HandSHeadRun.head_any (r := OpenLaw.row PySem.Challenge.rw_sharedscopes_k00_errors_made) (q := view (OpenLaw.row PySem.Challenge.rw_sharedscopes_k00_errors_made).prog [42]) (H := LawK00.hk) (ob := LawK00.ob) (M := 20000) (loose := LawK00.loose) (d := HandSHeadRun.topDef (OpenLaw.row PySem.Challenge.rw_sharedscopes_k00_errors_made).prog 42) (kwd := []) LawK00.ob_eq
    (by kernel_rfl) (fun s => by kernel_rfl) LawK00.run (by kernel_rfl) (by kernel_rfl) (by kernel_rfl) (by rfl) (by first | assumption | decide +kernel) (by decide +kernel) ⟨rfl, rfl, rfl, rfl, rfl, by decide +kernel⟩ ?hw ?hc
  case hw => w_witness2
  case hc =>
    refine Mini.walk_ofG (l := PySem.Challenge.rw_sharedscopes_k00_errors_made) (n := 63) rfl (by decide) (by kernel_rfl) ?F
    intro w mg fa h Y G hmg0
    obtain ⟨K, KX, c⟩ := Y
    have T : Mini.Txt LawK00.tell LawK00.prog w K mg := Mini.txt_of KX G c
    have hmg : mg ("law" : PySem.Str) = some (.ref fa) := by
      have e : (HandSHeadRun.topDef (OpenLaw.row PySem.Challenge.rw_sharedscopes_k00_errors_made).prog 42).name = ("law" : PySem.Str) := by kernel_rfl
      rw [← e]
      exact hmg0
    have e := hmg.symm.trans (T.glo 5 rfl)
    cases e
    exact ⟨K, KX, fun base H s a ns hl e0 hS => LawK00.law_at (n := 7) T (LawK00.all_ok T 7) s H [.ref a] [.ref a] _ _ ⟨rfl, by decide, by decide⟩ e0 ((T.f 5 LawK00.d5 rfl).bindsA (ps := ["_law_script"]) (fun _ _ _ _ _ _ us hl => match us, hl with | [_], _ => rfl) s [.ref a] rfl) (.cons rfl .nil) (Mini.law_sp (LawK00.law_true ns hl) hS)⟩
