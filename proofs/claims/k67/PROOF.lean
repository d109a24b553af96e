import PyProof.Rows.All
import Wide.All
import OpenK.AllK
import Wide.FinOn
import PySem.Challenge.RW_sharedscopes_k67_whole_plain_programs_of
import HandS.ForMost
import HandS.Wide
import HandS.TupAny
import HandS.IsInst
import HandS.HeadHook4
import PyProof.ReprRoads
import HandS.FStrTup
import HandS.More
import HandS.RaiseMore
import HandS.Style
import HandS.Flow
import HandS.Star
import HandS.CallSlots
import HandS.ForExc
import KE.KExcSuper
import HandS.Exc
import HandS.ExcField
import HandS.ExcOwn
import HandS.TryMany
import HandS.DictTup
import HandS.SetKeys
import HandS.CallLocal
import PyProof.DictMoreH
import KE.KDictDisplayH
import HandS.HeadEnd
import HandS.Defaults
import KE.KStateDown
import HandS.Head0
import HandS.Head1
import HandS.Head2
import HandS.HeadHook1
import HandS.HeadHook2
import HandS.HeadHook3
import HandS.Codes
set_option Elab.async false
set_option linter.all false
set_option maxRecDepth 100000
/-! MiA: a small interpreter of the part of Python that the laws use: values, cells, terms, evaluation. Pure Lean. -/
namespace Mini
open PySem L2

/-- values: lists, dicts, instances that are never changed again are values; what is changed is a cell -/
inductive MV where
  | non
  | bl (b : Bool)
  | int (i : Int)
  | str (s : Str)
  | tup (xs : List MV)
  | lst (xs : List MV)
  | dck (kvs : List (Key × MV))
  | obj (c : Str) (fs : List (Str × MV))
  | scr (ns : List Int)
  | ref (n : Nat)
  | glo (x : Str)
  | txt (b : Nat)
  deriving Inhabited
inductive Cell where
  | lst (xs : List MV)
  | ins (c : Str) (fs : List (Str × MV))
  | dct (kvs : List (List Key × MV))
  deriving Inhabited
abbrev Mem := List Cell
inductive Res (α : Type) where
  | ok (a : α) (M : Mem)
  | exn (c : Str) (x : MV) (M : Mem)
  | stuck
namespace Res
def bind {α β : Type} (r : Res α) (f : α → Mem → Res β) : Res β := match r with
  | .ok a M => f a M
  | .exn c x M => .exn c x M
  | .stuck => .stuck
@[simp] theorem bind_ok {α β : Type} (a : α) (M : Mem) (f : α → Mem → Res β) : (Res.ok a M).bind f = f a M := rfl
@[simp] theorem bind_exn {α β : Type} (c : Str) (x : MV) (M : Mem) (f : α → Mem → Res β) : (Res.exn c x M : Res α).bind f = .exn c x M := rfl
@[simp] theorem bind_stuck {α β : Type} (f : α → Mem → Res β) : (Res.stuck : Res α).bind f = .stuck := rfl
def opt {α : Type} (o : Option α) (M : Mem) : Res α := match o with
  | some a => .ok a M
  | none => .stuck
@[simp] theorem opt_some {α : Type} (a : α) (M : Mem) : Res.opt (some a) M = .ok a M := rfl
@[simp] theorem opt_none {α : Type} (M : Mem) : (Res.opt (none : Option α) M) = .stuck := rfl
end Res
def mapO {α β : Type} (f : α → Option β) : List α → Option (List β)
  | [] => some []
  | x :: xs => match f x, mapO f xs with
    | some y, some ys => some (y :: ys)
    | _, _ => none

/-! ### terms -/
/-- a function of the text: a global's name; a class and its method -/
abbrev FK := Str × Option Str
inductive Bi where
  | len | int | str | max | min | tuple | list
  deriving DecidableEq
inductive Bm where
  | append | pop | join | dget | popd | setd
  deriving DecidableEq
mutual
inductive CE where
  | con (c : MV)
  | var (i : Nat)
  | glb (x : Str)
  | bin (op : Operator) (a b : CE)
  | neg (a : CE)
  | not (a : CE)
  | and (a b : CE)
  | or (a b : CE)
  | cmp (op : CmpOp) (a b : CE)
  | chn (op op' : CmpOp) (a b c : CE)
  | ife (c a b : CE)
  | tup (es : CL)
  | lst (es : CL)
  | nwl (es : CL)
  | ndd (a b : CE)
  | idx (a b : CE)
  | slc (a : CE) (lo hi : CO)
  | att (a : CE) (f : Str)
  | cal (f : Str) (es : CL)
  | mth (c : Str) (a : CE) (m : Str) (es : CL)
  | new (c : Str) (es : CL)
  | blt (f : Bi) (es : CL)
  | isi (a : CE) (ts : List String)
  | bmt (b : Bm) (a : CE) (es : CL)
  | dsp (ks : List Key) (es : CL)
  | lcp (tg : List Nat) (one : Bool) (it : CI) (t : CO) (e : CE)
  | rev (a : CE)
  | dd1 (k v : CE)
  | dix (a k : CE)
  | cav (f : Str) (a : CE) (es : CL)
inductive CL where
  | nil
  | cons (e : CE) (es : CL)
  | star (e : CE) (es : CL)
inductive CO where
  | none
  | some (e : CE)
inductive CI where
  | seq (e : CE)
  | rng (e : CE)
  | rng2 (a b : CE)
  | chr (e : CE)
end

/-! ### what the operations do -/
def asL (M : Mem) : MV → Option (List MV)
  | .lst xs => some xs
  | .ref n => (match M[n]? with
    | some (.lst xs) => some xs
    | _ => none)
  | _ => none
def toD : Nat → Mem → MV → Option PyData
  | 0, _, _ => none
  | n + 1, M, x => match x with
    | .non => some .none
    | .bl b => some (.bool b)
    | .int i => some (.int i)
    | .str s => some (.str s)
    | .tup xs => (mapO (toD n M) xs).map .tuple
    | .lst xs => (mapO (toD n M) xs).map .list
    | .ref k => (match M[k]? with
      | some (.lst xs) => (mapO (toD n M) xs).map .list
      | _ => none)
    | _ => none
def eqD (M : Mem) (x y : MV) : Option Bool := match toD 64 M x, toD 64 M y with
  | some d, some e => if SeqAt.shaped d && SeqAt.shaped e then some (PyData.eqv d e) else none
  | _, _ => none
def truth (M : Mem) : MV → Option Bool
  | .non => some false
  | .bl b => some b
  | .int i => some (i != 0)
  | .str s => if s.length ≤ sizeLine then some ((s.length : Int) != 0) else none
  | .tup xs => some (!xs.isEmpty)
  | .lst xs => some (!xs.isEmpty)
  | .ref n => (match M[n]? with
    | some (.lst xs) => some (!xs.isEmpty)
    | _ => none)
  | _ => none
def addV (M : Mem) (x y : MV) : Option MV := match x, y with
  | .int i, .int j => some (.int (i + j))
  | .str a, .str b => if a.length + b.length ≤ sizeLine then some (.str (a ++ b)) else none
  | .tup xs, .tup ys => if xs.length + ys.length ≤ sizeLine then some (.tup (xs ++ ys)) else none
  | .str a, .txt b => if a.length + b ≤ sizeLine then some (.txt (a.length + b)) else none
  | .txt a, .str b => if a + b.length ≤ sizeLine then some (.txt (a + b.length)) else none
  | _, _ => (match asL M x, asL M y with
    | some xs, some ys => if xs.length + ys.length ≤ sizeLine then some (.lst (xs ++ ys)) else none
    | _, _ => none)
def binV (op : Operator) (M : Mem) (x y : MV) : Option MV := match op with
  | .Add => addV M x y
  | .Sub => (match x, y with
    | .int i, .int j => some (.int (i - j))
    | _, _ => none)
  | .Mult => (match x, y with
    | .int i, .int j => if i.natAbs.log2 + j.natAbs.log2 < 1000000 ∨ (0 ≤ j ∧ j ≤ 1) then some (.int (i * j)) else none
    | _, _ => none)
  | .Mod => (match x, y with
    | .int i, .int j => if 0 < j then some (.int (i % j)) else none
    | _, _ => none)
  | .FloorDiv => (match x, y with
    | .int i, .int j => if 0 < j ∧ j.natAbs.log2 < 9000 then some (.int (i / j)) else none
    | _, _ => none)
  | .Pow => (match x, y with
    | .int i, .int j => if 0 ≤ j ∧ j ≤ 1000000 ∧ i.natAbs < 2 ^ 64 then some (.int (i ^ j.toNat)) else none
    | _, _ => none)
  | _ => none
/-- a flat value -/
def flM : MV → Option V
  | .non => some .non
  | .bl b => some (.bl b)
  | .int i => some (.int i)
  | .str s => some (.str s)
  | _ => none
def inSq (x : MV) (ys : List MV) : Option Bool := match flM x, mapO flM ys with
  | some v, some vs => some (inV v vs)
  | _, _ => none
def inV2 (M : Mem) (x y : MV) : Option Bool := match y with
  | .str b => (match x with
    | .str a => if a.length = 1 then some (decide (a.cps.getD 0 0 ∈ b.cps.toList)) else none
    | _ => none)
  | .tup ys => inSq x ys
  | _ => none
def numB (f : Int → Int → Bool) : MV → MV → Option Bool
  | .int i, .int j => some (f i j)
  | _, _ => none
def isNon : MV → Bool
  | .non => true
  | _ => false
def isB : MV → MV → Option Bool
  | .bl a, .bl b => some (decide (a = b))
  | _, _ => none
def cmpV (op : CmpOp) (M : Mem) (x y : MV) : Option Bool := match op with
  | .Eq => eqD M x y
  | .NotEq => (eqD M x y).map (!·)
  | .Lt => numB (fun i j => decide (i < j)) x y
  | .LtE => numB (fun i j => decide (i ≤ j)) x y
  | .Gt => numB (fun i j => decide (j < i)) x y
  | .GtE => numB (fun i j => decide (j ≤ i)) x y
  | .Is => if isNon y then some (isNon x) else isB x y
  | .IsNot => if isNon y then some (!isNon x) else (isB x y).map (!·)
  | .In => inV2 M x y
  | .NotIn => (inV2 M x y).map (!·)
def idxV (M : Mem) (kd : Str → Option (List (Str × MV))) (x y : MV) : Option MV := match x, y with
  | .tup xs, .int i => atI xs i
  | .str s, .int i => if s.length ≤ sizeLine then (atI s.cps.toList i).map fun c => .str ⟨#[c]⟩ else none
  | .scr ns, .int i => (atI ns i).map .int
  | .glo d, .str k => (kd d).bind fun kvs => kvs.lookup k
  | _, .int i => (asL M x).bind fun xs => atI xs i
  | _, _ => none
def cutL {α : Type} (xs : List α) (lo hi : Option Int) : List α := (xs.drop (HT.sIx xs.length 0 lo)).take (HT.sIx xs.length xs.length hi - HT.sIx xs.length 0 lo)
def slcV (M : Mem) (x : MV) (lo hi : Option Int) : Option MV := match x with
  | .str s => if s.length ≤ sizeLine then some (.str (cutS s lo hi)) else none
  | .tup xs => some (.tup (cutL xs lo hi))
  | _ => (asL M x).map fun xs => .lst (cutL xs lo hi)
def insV (M : Mem) : MV → Option (Str × List (Str × MV))
  | .obj c fs => some (c, fs)
  | .ref n => (match M[n]? with
    | some (.ins c fs) => some (c, fs)
    | _ => none)
  | _ => none
def fldV (cl : Str → Str → Bool) (M : Mem) (x : MV) (f : Str) : Option MV := (insV M x).bind fun p => if cl p.1 f then p.2.lookup f else none
def lenV (M : Mem) : MV → Option Nat
  | .str s => if s.length ≤ sizeLine then some s.length else none
  | .tup xs => some xs.length
  | .scr ns => some ns.length
  | x => (asL M x).map List.length
def strL : List MV → Option (List Str)
  | [] => some []
  | .str s :: xs => (strL xs).map (s :: ·)
  | _ => none
def pileL (Ls : List Nat) : Nat := (Ls.map fun l => l + 2).sum
/-- how many signs repr has at most -/
def shw : Nat → MV → Option Nat
  | 0, _ => none
  | n + 1, x => match x with
    | .int i => if i.natAbs.log2 < 1920 then some (Str.ofString (toString i)).length else none
    | .str s => some (reprText s).length
    | .tup xs => (mapO (shw n) xs).map fun Ls => pileL Ls + 7
    | _ => none
/-- built-ins by name -/
def biLen (M : Mem) : List MV → Option MV
  | [x] => (lenV M x).map fun (n : Nat) => .int (n : Int)
  | _ => none
def biInt : List MV → Option MV
  | [.int i] => some (.int i)
  | [.bl k] => some (.int (if k then 1 else 0))
  | [.str a] => if a.length ≤ 640 then (PySem.intText? a).map .int else none
  | _ => none
def biStr : List MV → Option MV
  | [.int i] => if i.natAbs.log2 < 1920 then some (.str (toString i)) else none
  | [.str a] => some (.str a)
  | [.tup xs] => (match mapO (shw 16) xs with
    | some Ls => if pileL Ls + 7 ≤ sizeLine then some (.txt (pileL Ls + 7)) else none
    | none => none)
  | _ => none
def biMax : List MV → Option MV
  | [.int i, .int j] => some (.int (if j > i then j else i))
  | _ => none
def biMin : List MV → Option MV
  | [.int i, .int j] => some (.int (if j < i then j else i))
  | _ => none
def biTup (M : Mem) : List MV → Option MV
  | [.tup ys] => some (.tup ys)
  | [x] => (asL M x).map .tup
  | _ => none
def biLst (M : Mem) : List MV → Option MV
  | [.tup ys] => some (.lst ys)
  | [x] => (asL M x).map .lst
  | _ => none
def bltV (f : Bi) (M : Mem) (xs : List MV) : Option MV := match f with
  | .len => biLen M xs
  | .int => biInt xs
  | .str => biStr xs
  | .max => biMax xs
  | .min => biMin xs
  | .tuple => biTup M xs
  | .list => biLst M xs
/-- the type of a value, for isinstance -/
def tyV2 (M : Mem) : MV → Option String
  | .non => some "NoneType"
  | .bl _ => some "bool"
  | .int _ => some "int"
  | .str _ => some "str"
  | .tup _ => some "tuple"
  | .lst _ => some "list"
  | .dck _ => some "dict"
  | .ref n => (match M[n]? with
    | some (.lst _) => some "list"
    | _ => none)
  | _ => none
def isiT (M : Mem) (x : MV) (T : String) : Option Bool := (tyV2 M x).bind fun t => kitB t T
def isiA (M : Mem) (x : MV) : List String → Option Bool
  | [] => some false
  | T :: ts => match isiT M x T with
    | some true => some true
    | some false => isiA M x ts
    | none => none
def lookK (kvs : List (Key × MV)) (k : Key) : Option MV := (kvs.find? fun kv => decide (kv.1 = k)).map (·.2)
def keyOf : MV → Option Key
  | .int i => some (.inl i)
  | .str s => some (.inr s)
  | _ => none
/-- a tuple of ints and texts, as a key -/
def keysOf (xs : List MV) : Option (List Key) := mapO keyOf xs
def keyT : MV → Option (List Key)
  | .tup xs => keysOf xs
  | _ => none
def lookT (kvs : List (List Key × MV)) (k : List Key) : Option MV := (kvs.find? fun kv => decide (kv.1 = k)).map (·.2)
def putT (kvs : List (List Key × MV)) (k : List Key) (v : MV) : List (List Key × MV) := if kvs.any fun kv => decide (kv.1 = k) then kvs.map fun kv => if kv.1 = k then (k, v) else kv else kvs ++ [(k, v)]
def dropT (kvs : List (List Key × MV)) (k : List Key) : List (List Key × MV) := kvs.filter fun kv => decide (kv.1 ≠ k)
def dctV (M : Mem) : MV → Option (List (List Key × MV))
  | .ref n => (match M[n]? with
    | some (.dct kvs) => some kvs
    | _ => none)
  | _ => none
/-- what a built-in method is asked of -/
def recV (b : Bm) (M : Mem) (x : MV) : Bool := match b with
  | .append => (match x with
    | .ref n => (match M[n]? with
      | some (.lst _) => true
      | _ => false)
    | _ => false)
  | .pop => (match x with
    | .ref n => (match M[n]? with
      | some (.lst _) => true
      | _ => false)
    | _ => false)
  | .join => (match x with
    | .str _ => true
    | _ => false)
  | .dget => (match x with
    | .dck _ => true
    | _ => false)
  | .popd => (dctV M x).isSome
  | .setd => (dctV M x).isSome
/-- built-in methods: the value and the memory behind it -/
def bmtV (b : Bm) (M : Mem) (x : MV) (xs : List MV) : Option (MV × Mem) := match b with
  | .append => (match x, xs with
    | .ref n, [y] => (match M[n]? with
      | some (.lst zs) => if zs.length < sizeLine then some (.non, M.set n (.lst (zs ++ [y]))) else none
      | _ => none)
    | _, _ => none)
  | .pop => (match x, xs with
    | .ref n, [] => (match M[n]? with
      | some (.lst zs) => (zs[zs.length - 1]?).map fun y => (y, M.set n (.lst zs.dropLast))
      | _ => none)
    | _, _ => none)
  | .join => (match x, xs with
    | .str a, [y] => (asL M y).bind fun zs => (strL zs).bind fun ss => if (ss.map (·.length)).sum + ss.length * a.length ≤ 16777216 then some (.str (Txt.join a ss), M) else none
    | _, _ => none)
  | .dget => (match x, xs with
    | .dck kvs, [k, d] => (keyOf k).map fun q => ((lookK kvs q).getD d, M)
    | _, _ => none)
  | .popd => (match x, xs with
    | .ref n, [k, d] => (match M[n]?, keyT k with
      | some (.dct kvs), some q => some (match lookT kvs q with
        | some v => (v, M.set n (.dct (dropT kvs q)))
        | none => (d, M))
      | _, _ => none)
    | _, _ => none)
  | .setd => (match x, xs with
    | .ref n, [k, d] => (match M[n]?, keyT k with
      | some (.dct kvs), some q => (match lookT kvs q with
        | some v => some (v, M)
        | none => if kvs.length < sizeLine then some (d, M.set n (.dct (putT kvs q d))) else none)
      | _, _ => none)
    | _, _ => none)
def putL (f : Str) (y : MV) : List (Str × MV) → List (Str × MV)
  | [] => [(f, y)]
  | (g, z) :: r => if g = f then (g, y) :: r else (g, z) :: putL f y r
def itemsV (M : Mem) : MV → Option (List MV)
  | .tup xs => some xs
  | .lst xs => some xs
  | _ => none
def bind1 (tg : List Nat) (one : Bool) (x : MV) (r : List (Option MV)) : Option (List (Option MV)) := match one, tg with
  | true, [i] => some (r.set i (some x))
  | false, is => (match x with
    | .tup xs => if xs.length = is.length then some ((is.zip xs).foldl (fun r p => r.set p.1 (some p.2)) r) else none
    | _ => none)
  | _, _ => none
def wipeR (r : List (Option MV)) : List Nat → List (Option MV)
  | [] => r
  | v :: vs => (wipeR r vs).set v none

structure Cfg where
  call : FK → List MV → Mem → Res MV
  glob : Str → Option MV
  kd : Str → Option (List (Str × MV))
  sub : Str → Str → Option Bool
  cl : Str → Str → Bool
  fuel : Nat

/-- the elements of a comprehension, from the left -/
def mapR (f : MV → Mem → Res (Option MV)) : List MV → Mem → Res (List MV)
  | [], M => .ok [] M
  | x :: xs, M => (f x M).bind fun o M1 => (mapR f xs M1).bind fun ys M2 => .ok (match o with
    | some y => y :: ys
    | none => ys) M2
/-- no exception leaves -/
def calm {α : Type} (r : Res α) : Res α := match r with
  | .exn _ _ _ => .stuck
  | r => r
def intsFrom (lo : Int) : Nat → List MV
  | 0 => []
  | n + 1 => .int lo :: intsFrom (lo + 1) n
section
variable (g : Cfg)
mutual
def evE (r : List (Option MV)) : CE → Mem → Res MV
  | .con c, M => .ok c M
  | .var i, M => (match r[i]? with
    | some (some x) => .ok x M
    | _ => .stuck)
  | .glb x, M => .opt (g.glob x) M
  | .bin op a b, M => (evE r a M).bind fun x M1 => (evE r b M1).bind fun y M2 => .opt (binV op M2 x y) M2
  | .neg a, M => (evE r a M).bind fun x M1 => (match x with
    | .int i => .ok (.int (-i)) M1
    | _ => .stuck)
  | .not a, M => (evE r a M).bind fun x M1 => .opt ((truth M1 x).map fun b => .bl (!b)) M1
  | .and a b, M => (evE r a M).bind fun x M1 => (match truth M1 x with
    | some true => evE r b M1
    | some false => .ok x M1
    | none => .stuck)
  | .or a b, M => (evE r a M).bind fun x M1 => (match truth M1 x with
    | some true => .ok x M1
    | some false => evE r b M1
    | none => .stuck)
  | .cmp op a b, M => (evE r a M).bind fun x M1 => (evE r b M1).bind fun y M2 => .opt ((cmpV op M2 x y).map .bl) M2
  | .chn op op' a b c, M => (evE r a M).bind fun x M1 => (evE r b M1).bind fun y M2 => (match cmpV op M2 x y with
    | some true => (evE r c M2).bind fun z M3 => .opt ((cmpV op' M3 y z).map .bl) M3
    | some false => .ok (.bl false) M2
    | none => .stuck)
  | .ife c a b, M => (evE r c M).bind fun x M1 => (match truth M1 x with
    | some true => evE r a M1
    | some false => evE r b M1
    | none => .stuck)
  | .tup es, M => (evL r es M).bind fun xs M1 => if xs.length ≤ sizeLine then .ok (.tup xs) M1 else .stuck
  | .lst es, M => (evL r es M).bind fun xs M1 => if xs.length ≤ sizeLine then .ok (.lst xs) M1 else .stuck
  | .nwl es, M => (evL r es M).bind fun xs M1 => if xs.length ≤ sizeLine then .ok (.ref M1.length) (M1 ++ [.lst xs]) else .stuck
  | .ndd a b, M => (evE r a M).bind fun x M1 => (evE r b M1).bind fun y M2 => (match asL M2 x, asL M2 y with
    | some xs, some ys => if xs.length + ys.length ≤ sizeLine then .ok (.ref M2.length) (M2 ++ [.lst (xs ++ ys)]) else .stuck
    | _, _ => .stuck)
  | .idx a b, M => (evE r a M).bind fun x M1 => (evE r b M1).bind fun y M2 => .opt (idxV M2 g.kd x y) M2
  | .slc a lo hi, M => (evE r a M).bind fun x M1 => (evO r lo M1).bind fun l M2 => (evO r hi M2).bind fun h M3 => .opt (slcV M3 x l h) M3
  | .att a f, M => (evE r a M).bind fun x M1 => .opt (fldV g.cl M1 x f) M1
  | .cal f es, M => (evL r es M).bind fun xs M1 => g.call (f, none) xs M1
  | .mth c a m es, M => (evE r a M).bind fun x M1 => (match insV M1 x with
    | some (d, fs) => if d = c ∧ fs.lookup m = none then (evL r es M1).bind fun xs M2 => g.call (c, some m) (x :: xs) M2 else .stuck
    | none => .stuck)
  | .new c es, M => (evL r es M).bind fun xs M1 => (g.call (c, some "__init__") (.ref M1.length :: xs) (M1 ++ [.ins c []])).bind fun y M2 => (match y with
    | .non => .ok (.ref M1.length) M2
    | _ => .stuck)
  | .blt f es, M => (evL r es M).bind fun xs M1 => .opt (bltV f M1 xs) M1
  | .isi a ts, M => (evE r a M).bind fun x M1 => .opt ((isiA M1 x ts).map .bl) M1
  | .bmt b a es, M => (evE r a M).bind fun x M1 => if recV b M1 x then (evL r es M1).bind fun xs M2 => (match bmtV b M2 x xs with
    | some (y, M3) => .ok y M3
    | none => .stuck) else .stuck
  | .dsp ks es, M => (evL r es M).bind fun xs M1 => if xs.length = ks.length ∧ ks.Nodup ∧ ks.length ≤ 15 then .ok (.dck (ks.zip xs)) M1 else .stuck
  | .lcp tg one it t e, M => (evI r it M).bind fun xs M1 => (mapR (fun x M2 => match bind1 tg one x (wipeR r tg) with
      | none => .stuck
      | some r2 => calm ((evT r2 t M2).bind fun b M3 => if b then (evE r2 e M3).bind fun y M4 => .ok (some y) M4 else .ok none M3)) xs M1).bind fun ys M2 => if ys.length ≤ sizeLine then .ok (.lst ys) M2 else .stuck
  | .rev a, M => (evE r a M).bind fun x M1 => .opt ((asL M1 x).map fun xs => .lst xs.reverse) M1
  | .dd1 k v, M => (evE r k (M ++ [.dct []])).bind fun x M1 => (evE r v M1).bind fun y M2 => (match keyT x, M2[M.length]? with
    | some q, some (.dct []) => .ok (.ref M.length) (M2.set M.length (.dct [(q, y)]))
    | _, _ => .stuck)
  | .dix a k, M => (evE r a M).bind fun x M1 => (evE r k M1).bind fun y M2 => .opt ((dctV M2 x).bind fun kvs => (keyT y).bind fun q => lookT kvs q) M2
  | .cav f a es, M => (evE r a M).bind fun x M1 => (match x with
    | .glo h => if h = f then (evL r es M1).bind fun xs M2 => g.call (f, none) xs M2 else .stuck
    | _ => .stuck)
def evL (r : List (Option MV)) : CL → Mem → Res (List MV)
  | .nil, M => .ok [] M
  | .cons e es, M => (evE r e M).bind fun x M1 => (evL r es M1).bind fun xs M2 => .ok (x :: xs) M2
  | .star e es, M => (evE r e M).bind fun x M1 => (match x with
    | .tup ys => (evL r es M1).bind fun xs M2 => .ok (ys ++ xs) M2
    | .lst ys => (evL r es M1).bind fun xs M2 => .ok (ys ++ xs) M2
    | _ => .stuck)
def evO (r : List (Option MV)) : CO → Mem → Res (Option Int)
  | .none, M => .ok none M
  | .some e, M => (evE r e M).bind fun x M1 => (match x with
    | .int i => .ok (some i) M1
    | _ => .stuck)
/-- a comprehension's test -/
def evT (r : List (Option MV)) : CO → Mem → Res Bool
  | .none, M => .ok true M
  | .some e, M => (evE r e M).bind fun x M1 => .opt (truth M1 x) M1
/-- what is walked -/
def evI (r : List (Option MV)) : CI → Mem → Res (List MV)
  | .seq e, M => (evE r e M).bind fun x M1 => .opt (itemsV M1 x) M1
  | .rng e, M => (evE r e M).bind fun x M1 => (match x with
    | .int j => if -(2 ^ 62) ≤ j ∧ j < 2 ^ 62 then .ok (intsFrom 0 j.toNat) M1 else .stuck
    | _ => .stuck)
  | .rng2 a b, M => (evE r a M).bind fun x M1 => (evE r b M1).bind fun y M2 => (match x, y with
    | .int i, .int j => if -(2 ^ 62) ≤ i ∧ i < 2 ^ 62 ∧ -(2 ^ 62) ≤ j ∧ j < 2 ^ 62 then .ok (intsFrom i (j - i).toNat) M2 else .stuck
    | _, _ => .stuck)
  | .chr e, M => (evE r e M).bind fun x M1 => (match x with
    | .str s => .ok (s.cps.toList.map fun c => .str ⟨#[c]⟩) M1
    | _ => .stuck)
end
end

/-! ### statements -/
/-- what an except suite returns: of the error's own value, and constants -/
inductive Atm where
  | pay
  | con (c : MV)
  | rpr
inductive Hx where
  | one (a : Atm)
  | lst (as : List Atm)
  | tup (as : List Atm)
def reprV : MV → Option Str
  | .int i => if i.natAbs.log2 < 1920 then some (toString i) else none
  | _ => none
def Atm.val (x : MV) : Atm → Option MV
  | .pay => some x
  | .con c => some c
  | .rpr => (reprV x).map .str
def Hx.val (x : MV) : Hx → Option MV
  | .one a => a.val x
  | .lst as => (mapO (Atm.val x) as).map .lst
  | .tup as => (mapO (Atm.val x) as).map .tup
mutual
inductive CS where
  | asg (i : Nat) (e : CE)
  | asgT (is : List Nat) (e : CE)
  | asgP (is : List Nat) (es : CL)
  | sat (o : CE) (f : Str) (e : CE)
  | sub (o k e : CE)
  | augA (o : CE) (f : Str) (op : Operator) (e : CE)
  | augV (i : Nat) (op : Operator) (e : CE)
  | exp (e : CE)
  | ret (e : CE)
  | retN
  | ite (c : CE) (a b : CB)
  | forr (tg : List Nat) (one : Bool) (it : CI) (body : CB)
  | whl (c : CE) (body : CB)
  | rse (c : Str) (e : CE)
  | tryA (body : CB) (hs : CH)
  | pas
  | brk
  | cnt
inductive CB where
  | nil
  | cons (s : CS) (b : CB)
inductive CH where
  | nil
  | cons (c : Str) (i : Nat) (b : Hx) (hs : CH)
  | con0 (c : Str) (b : Hx) (hs : CH)
end
abbrev Rho := List (Option MV)
inductive Flw where
  | next (r : Rho)
  | ret (x : MV)
  | brk (r : Rho)
  | cnt (r : Rho)
/-- a walk: one turn after another -/
def forV (f : MV → Rho → Mem → Res Flw) : List MV → Rho → Mem → Res Flw
  | [], r, M => .ok (.next r) M
  | x :: xs, r, M => (f x r M).bind fun w M1 => match w with
    | .next r1 => forV f xs r1 M1
    | .cnt r1 => forV f xs r1 M1
    | .brk r1 => .ok (.next r1) M1
    | .ret y => .ok (.ret y) M1
def whlV (t : Rho → Mem → Res Bool) (f : Rho → Mem → Res Flw) : Nat → Rho → Mem → Res Flw
  | 0, _, _ => .stuck
  | n + 1, r, M => (t r M).bind fun b M1 => if b then (f r M1).bind fun w M2 => (match w with
    | .next r1 => whlV t f n r1 M2
    | .cnt r1 => whlV t f n r1 M2
    | .brk r1 => .ok (.next r1) M2
    | .ret y => .ok (.ret y) M2) else .ok (.next r) M1
def satV (cl : Str → Str → Bool) (M : Mem) (x : MV) (f : Str) (y : MV) : Option Mem := match x with
  | .ref n => (match M[n]? with
    | some (.ins c fs) => if cl c f ∧ fs.length < 1000 then some (M.set n (.ins c (putL f y fs))) else none
    | _ => none)
  | _ => none
def subV (M : Mem) (x k y : MV) : Option Mem := match x, k with
  | .ref n, .int i => (match M[n]? with
    | some (.lst xs) => (ixN xs.length i).map fun j => M.set n (.lst (xs.set j y))
    | _ => none)
  | _, _ => none
/-- op= on ints -/
def augI (op : Operator) (x y : MV) : Option MV := match op, x, y with
  | .Add, .int i, .int j => some (.int (i + j))
  | .Sub, .int i, .int j => some (.int (i - j))
  | _, _, _ => none
section
variable (g : Cfg)
def bitV (r : Rho) (e : CE) (M : Mem) : Res Bool := (evE g r e M).bind fun x M1 => .opt (truth M1 x) M1
mutual
def evS (s : CS) (r : Rho) (M : Mem) : Res Flw := match s with
  | .asg i e => (evE g r e M).bind fun x M1 => .ok (.next (r.set i (some x))) M1
  | .asgT is e => (evE g r e M).bind fun x M1 => (match bind1 is false x r with
    | some r1 => .ok (.next r1) M1
    | none => .stuck)
  | .asgP is es => (evL g r es M).bind fun xs M1 => (match bind1 is false (.tup xs) r with
    | some r1 => .ok (.next r1) M1
    | none => .stuck)
  | .sat o f e => (evE g r e M).bind fun y M1 => (evE g r o M1).bind fun x M2 => (match satV g.cl M2 x f y with
    | some M3 => .ok (.next r) M3
    | none => .stuck)
  | .sub o k e => (evE g r e M).bind fun y M1 => (evE g r o M1).bind fun x M2 => (evE g r k M2).bind fun z M3 => (match subV M3 x z y with
    | some M4 => .ok (.next r) M4
    | none => .stuck)
  | .augA o f op e => (evE g r o M).bind fun x M1 => (match fldV g.cl M1 x f with
    | none => .stuck
    | some z => (evE g r e M1).bind fun y M2 => if (insV M1 x).map (·.1) = (insV M2 x).map (·.1) then (match augI op z y with
      | none => .stuck
      | some u => (match satV g.cl M2 x f u with
        | some M3 => .ok (.next r) M3
        | none => .stuck)) else .stuck)
  | .augV i op e => (match r[i]? with
    | some (some z) => (evE g r e M).bind fun y M1 => (match augI op z y with
      | none => .stuck
      | some u => .ok (.next (r.set i (some u))) M1)
    | _ => .stuck)
  | .exp e => (evE g r e M).bind fun _ M1 => .ok (.next r) M1
  | .ret e => (evE g r e M).bind fun x M1 => .ok (.ret x) M1
  | .retN => .ok (.ret .non) M
  | .ite c a b => (bitV g r c M).bind fun k M1 => if k then evB a r M1 else evB b r M1
  | .forr tg one it body => (evI g r it M).bind fun xs M1 => forV (fun x r1 M2 => match bind1 tg one x r1 with
    | none => .stuck
    | some r2 => evB body r2 M2) xs r M1
  | .whl c body => whlV (fun r1 M1 => bitV g r1 c M1) (fun r1 M1 => evB body r1 M1) g.fuel r M
  | .rse c e => (evE g r e M).bind fun x M1 => .exn c x M1
  | .tryA body hs => (match evB body r M with
    | .exn c x M1 => evH hs r.length c x M1
    | w => w)
  | .pas => .ok (.next r) M
  | .brk => .ok (.brk r) M
  | .cnt => .ok (.cnt r) M
def evB (b : CB) (r : Rho) (M : Mem) : Res Flw := match b with
  | .nil => .ok (.next r) M
  | .cons s b => (evS s r M).bind fun w M1 => (match w with
    | .next r1 => evB b r1 M1
    | w => .ok w M1)
/-- the clauses, from the first -/
def evH (hs : CH) (n : Nat) (c : Str) (x : MV) (M : Mem) : Res Flw := match hs with
  | .nil => .exn c x M
  | .cons d i b hs => (match g.sub c d with
    | some true => if i < n then (match b.val x with
      | some y => .ok (.ret y) M
      | none => .stuck) else .stuck
    | some false => evH hs n c x M
    | none => .stuck)
  | .con0 d b hs => (match g.sub c d with
    | some true => (match b.val x with
      | some y => .ok (.ret y) M
      | none => .stuck)
    | some false => evH hs n c x M
    | none => .stuck)
end
end

/-! ### functions -/
mutual
/-- no cell from n on is named -/
def clean (n : Nat) : MV → Bool
  | .ref k => decide (k < n)
  | .tup xs => cleanL n xs
  | .lst xs => cleanL n xs
  | .dck kvs => cleanK n kvs
  | .obj _ fs => cleanF n fs
  | .non => true
  | .bl _ => true
  | .int _ => true
  | .str _ => true
  | .scr _ => true
  | .glo _ => true
  | .txt _ => true
def cleanL (n : Nat) : List MV → Bool
  | [] => true
  | x :: xs => clean n x && cleanL n xs
def cleanK (n : Nat) : List (Key × MV) → Bool
  | [] => true
  | p :: xs => clean n p.2 && cleanK n xs
def cleanF (n : Nat) : List (Str × MV) → Bool
  | [] => true
  | p :: xs => clean n p.2 && cleanF n xs
end
/-- the cells from n on, within a value, become values -/
def frz (M : Mem) (n : Nat) : Nat → MV → Option MV
  | 0, _ => none
  | k + 1, x => if clean n x then some x else match x with
    | .ref j => (match M[j]? with
      | some (.lst xs) => (mapO (frz M n k) xs).map .lst
      | some (.ins c fs) => (mapO (fun p : Str × MV => (frz M n k p.2).map fun y => (p.1, y)) fs).map (.obj c)
      | some (.dct _) => none
      | none => none)
    | .tup xs => (mapO (frz M n k) xs).map .tup
    | .lst xs => (mapO (frz M n k) xs).map .lst
    | _ => none
open Classical in
/-- the end of a call: cells made by it that nothing else names become values -/
noncomputable def fin (keep : Bool) (M : Mem) (w : Res MV) : Res MV := match w with
  | .ok v M1 => if keep = true ∨ M1.length = M.length then .ok v M1 else if M1.take M.length = M then (match frz M1 M.length 64 v with
    | some u => .ok u M
    | none => .stuck) else .ok v M1
  | .exn c v M1 => if keep = true ∨ M1.length = M.length then .exn c v M1 else if M1.take M.length = M then (match frz M1 M.length 64 v with
    | some u => .exn c u M
    | none => .stuck) else .exn c v M1
  | .stuck => .stuck
structure FD where
  np : Nat
  ns : Nat
  body : CB
  keep : Bool := false
structure Env where
  tab : FK → Option FD
  glob : Str → Option MV
  kd : Str → Option (List (Str × MV))
  sub : Str → Str → Option Bool
  cl : Str → Str → Bool
  fuel : Nat
def start (d : FD) (xs : List MV) : Rho := xs.map some ++ List.replicate (d.ns - d.np) none
def outF (w : Res Flw) : Res MV := w.bind fun w M => match w with
  | .next _ => .ok .non M
  | .ret x => .ok x M
  | _ => .stuck
noncomputable def evG (t : Env) : Nat → FK → List MV → Mem → Res MV
  | 0, _, _, _ => .stuck
  | n + 1, f, xs, M => match t.tab f with
    | none => .stuck
    | some d => if xs.length = d.np then fin d.keep M (outF (evB ⟨evG t n, t.glob, t.kd, t.sub, t.cl, t.fuel⟩ d.body (start d xs) M)) else .stuck
@[irreducible] noncomputable def evF (t : Env) : Nat → FK → List MV → Mem → Res MV := evG t
theorem evF_eq : @evF = @evG := by
  funext t
  unfold evF
  rfl
theorem evF_zero {t : Env} {f : FK} {xs : List MV} {M : Mem} : evF t 0 f xs M = .stuck := by rw [evF_eq]; rfl
theorem evF_succ {t : Env} {n : Nat} {f : FK} {xs : List MV} {M : Mem} : evF t (n + 1) f xs M = (match t.tab f with
    | none => .stuck
    | some d => if xs.length = d.np then fin d.keep M (outF (evB ⟨evF t n, t.glob, t.kd, t.sub, t.cl, t.fuel⟩ d.body (start d xs) M)) else .stuck) := by
  rw [evF_eq]
  rfl
noncomputable abbrev Env.cfg (t : Env) (n : Nat) : Cfg := ⟨evF t n, t.glob, t.kd, t.sub, t.cl, t.fuel⟩
end Mini

set_option Elab.async false
set_option linter.all false
set_option maxRecDepth 100000
set_option maxHeartbeats 1000000
/-! MiB: how values and cells of the small interpreter stand in the abstract heap. -/
namespace Mini
open PySem L2

def hide (H : Hp) (l : List Addr) : Hp := fun a => if a ∈ l then none else H a
theorem hide_of {H : Hp} {l : List Addr} {a : Addr} (h : a ∉ l) : hide H l a = H a := if_neg h
theorem hide_in {H : Hp} {l : List Addr} {a : Addr} (h : a ∈ l) : hide H l a = none := if_pos h
theorem of_hide {H : Hp} {l : List Addr} {a : Addr} {o : HO} (h : hide H l a = some o) : a ∉ l ∧ H a = some o := by
  unfold hide at h
  split at h
  · cases h
  · exact ⟨by assumption, h⟩
theorem hide_same {H : Hp} {l : List Addr} : Same (hide H l) H := fun _ _ h => (of_hide h).2
theorem same_rd {H H' : Hp} {a : Addr} {u : HO} (e : Same H H') (h : Rd H a u) : Rd H' a u := by
  rcases h with h | ⟨o, h⟩
  · exact .inl (e _ _ h)
  · exact .inr ⟨o, e _ _ h⟩
theorem same_t {K : PySem.W.Frag} {H H' : Hp} {a : Addr} {xs : List V} (e : Same H H') (h : SqT K H a xs) : SqT K H' a xs := by
  rcases h with h | h
  · exact .inl (same_rd e h)
  · exact .inr h

mutual
inductive RepV (K : PySem.W.Frag) (G : Hp) (m : List Addr) : V → MV → Prop
  | non : RepV K G m .non .non
  | bl (b : Bool) : RepV K G m (.bl b) (.bl b)
  | int (i : Int) : RepV K G m (.int i) (.int i)
  | str (s : Str) : RepV K G m (.str s) (.str s)
  | tup {a : Addr} {vs : List V} {xs : List MV} : G a = some (.tup vs) → RepL K G m vs xs → RepV K G m (.ref a) (.tup xs)
  | lst {a : Addr} {vs : List V} {xs : List MV} : G a = some (.lst vs) → RepL K G m vs xs → RepV K G m (.ref a) (.lst xs)
  | dck {a : Addr} {ps : List (Key × V)} {kvs : List (Key × MV)} : G a = some (.dK ps) → RepK K G m ps kvs → RepV K G m (.ref a) (.dck kvs)
  | obj {a dx : Addr} {c : Str} {gs : List (Str × V)} {fs : List (Str × MV)} : G a = some (.ins (He.ga K c) dx gs) → RepF K G m gs fs → RepV K G m (.ref a) (.obj c fs)
  | scr {a : Addr} {ns : List Int} : SqL K G a (ns.map V.int) → RepV K G m (.ref a) (.scr ns)
  | ref {n : Nat} {a : Addr} : m[n]? = some a → RepV K G m (.ref a) (.ref n)
  | glo (x : Str) : RepV K G m (.ref (He.ga K x)) (.glo x)
  | txt {s : Str} {b : Nat} : s.length ≤ b → RepV K G m (.str s) (.txt b)
inductive RepL (K : PySem.W.Frag) (G : Hp) (m : List Addr) : List V → List MV → Prop
  | nil : RepL K G m [] []
  | cons {v : V} {vs : List V} {x : MV} {xs : List MV} : RepV K G m v x → RepL K G m vs xs → RepL K G m (v :: vs) (x :: xs)
inductive RepK (K : PySem.W.Frag) (G : Hp) (m : List Addr) : List (Key × V) → List (Key × MV) → Prop
  | nil : RepK K G m [] []
  | cons {k : Key} {v : V} {vs : List (Key × V)} {x : MV} {xs : List (Key × MV)} : RepV K G m v x → RepK K G m vs xs → RepK K G m ((k, v) :: vs) ((k, x) :: xs)
inductive RepF (K : PySem.W.Frag) (G : Hp) (m : List Addr) : List (Str × V) → List (Str × MV) → Prop
  | nil : RepF K G m [] []
  | cons {f : Str} {v : V} {vs : List (Str × V)} {x : MV} {xs : List (Str × MV)} : RepV K G m v x → RepF K G m vs xs → RepF K G m ((f, v) :: vs) ((f, x) :: xs)
end

section
variable {K : PySem.W.Frag} {G G' : Hp} {m m' : List Addr}
theorem pre_get {n : Nat} {a : Addr} (p : m <+: m') (h : m[n]? = some a) : m'[n]? = some a := by
  obtain ⟨t, rfl⟩ := p
  rw [List.getElem?_append_left (List.getElem?_eq_some_iff.mp h).1]
  exact h
mutual
theorem RepV.mono (e : Same G G') (p : m <+: m') : ∀ (x : MV) (v : V), RepV K G m v x → RepV K G' m' v x
  | .non, _, h => by cases h; exact .non
  | .bl _, _, h => by cases h; exact .bl _
  | .int _, _, h => by cases h; exact .int _
  | .str _, _, h => by cases h; exact .str _
  | .tup xs, _, h => by
    cases h with
    | tup hs ha => exact .tup (e _ _ hs) (RepL.mono e p xs _ ha)
  | .lst xs, _, h => by
    cases h with
    | lst hs ha => exact .lst (e _ _ hs) (RepL.mono e p xs _ ha)
  | .dck kvs, _, h => by
    cases h with
    | dck hs ha => exact .dck (e _ _ hs) (RepK.mono e p kvs _ ha)
  | .obj _ fs, _, h => by
    cases h with
    | obj hs ha => exact .obj (e _ _ hs) (RepF.mono e p fs _ ha)
  | .scr _, _, h => by
    cases h with
    | scr hs => exact .scr (e.seq hs)
  | .ref _, _, h => by
    cases h with
    | ref hs => exact .ref (pre_get p hs)
  | .glo _, _, h => by cases h; exact .glo _
  | .txt _, _, h => by
    cases h with
    | txt hs => exact .txt hs
theorem RepL.mono (e : Same G G') (p : m <+: m') : ∀ (xs : List MV) (vs : List V), RepL K G m vs xs → RepL K G' m' vs xs
  | [], _, h => by cases h; exact .nil
  | x :: xs, _, h => by
    cases h with
    | cons h1 h2 => exact .cons (RepV.mono e p x _ h1) (RepL.mono e p xs _ h2)
theorem RepK.mono (e : Same G G') (p : m <+: m') : ∀ (xs : List (Key × MV)) (vs : List (Key × V)), RepK K G m vs xs → RepK K G' m' vs xs
  | [], _, h => by cases h; exact .nil
  | (k, x) :: xs, _, h => by
    cases h with
    | cons h1 h2 => exact .cons (RepV.mono e p x _ h1) (RepK.mono e p xs _ h2)
theorem RepF.mono (e : Same G G') (p : m <+: m') : ∀ (xs : List (Str × MV)) (vs : List (Str × V)), RepF K G m vs xs → RepF K G' m' vs xs
  | [], _, h => by cases h; exact .nil
  | (k, x) :: xs, _, h => by
    cases h with
    | cons h1 h2 => exact .cons (RepV.mono e p x _ h1) (RepF.mono e p xs _ h2)
end
theorem RepL.len : ∀ {vs : List V} {xs : List MV}, RepL K G m vs xs → vs.length = xs.length
  | [], [], _ => rfl
  | _ :: _, _ :: _, .cons _ h => by rw [List.length_cons, List.length_cons, h.len]
theorem RepL.get : ∀ {vs : List V} {xs : List MV} {i : Nat} {x : MV}, RepL K G m vs xs → xs[i]? = some x → ∃ v, vs[i]? = some v ∧ RepV K G m v x
  | _ :: _, _ :: _, 0, x, .cons h _, e => by
    have e' := Option.some.inj e
    subst e'
    exact ⟨_, rfl, h⟩
  | _ :: _, _ :: _, i + 1, x, .cons _ h, e => h.get (i := i) e
  | [], [], _, _, _, e => by simp at e
theorem RepL.append : ∀ {vs ws : List V} {xs ys : List MV}, RepL K G m vs xs → RepL K G m ws ys → RepL K G m (vs ++ ws) (xs ++ ys)
  | [], _, [], _, _, h => h
  | _ :: _, _, _ :: _, _, .cons h1 h2, h => .cons h1 (h2.append h)
theorem RepL.drop : ∀ (n : Nat) {vs : List V} {xs : List MV}, RepL K G m vs xs → RepL K G m (vs.drop n) (xs.drop n)
  | 0, _, _, h => h
  | _ + 1, [], [], h => .nil
  | n + 1, _ :: _, _ :: _, .cons _ h => h.drop n
theorem RepL.take : ∀ (n : Nat) {vs : List V} {xs : List MV}, RepL K G m vs xs → RepL K G m (vs.take n) (xs.take n)
  | 0, _, _, _ => .nil
  | _ + 1, [], [], h => .nil
  | n + 1, _ :: _, _ :: _, .cons h1 h => .cons h1 (h.take n)
theorem RepL.set : ∀ (n : Nat) {vs : List V} {xs : List MV} {v : V} {x : MV}, RepL K G m vs xs → RepV K G m v x → RepL K G m (vs.set n v) (xs.set n x)
  | _, [], [], _, _, _, _ => .nil
  | 0, _ :: _, _ :: _, _, _, .cons _ h, r => .cons r h
  | n + 1, _ :: _, _ :: _, _, _, .cons h1 h, r => .cons h1 (h.set n r)
theorem RepL.dropLast : ∀ {vs : List V} {xs : List MV}, RepL K G m vs xs → RepL K G m vs.dropLast xs.dropLast
  | [], [], _ => .nil
  | [_], [_], _ => .nil
  | _ :: _ :: _, _ :: _ :: _, .cons h1 h => .cons h1 h.dropLast
theorem RepF.look : ∀ {vs : List (Str × V)} {xs : List (Str × MV)} {f : Str} {x : MV}, RepF K G m vs xs → xs.lookup f = some x → ∃ v, vs.lookup f = some v ∧ RepV K G m v x
  | [], [], _, _, _, e => by cases e
  | (g, v) :: vs, (_, y) :: xs, f, x, .cons h h', e => by
    rw [List.lookup_cons] at e ⊢
    cases q : f == g with
    | true =>
      rw [q] at e
      have e' := Option.some.inj e
      subst e'
      exact ⟨v, rfl, h⟩
    | false =>
      rw [q] at e
      exact h'.look e
theorem RepF.none : ∀ {vs : List (Str × V)} {xs : List (Str × MV)} {f : Str}, RepF K G m vs xs → xs.lookup f = Option.none → vs.lookup f = Option.none
  | [], [], _, _, _ => rfl
  | (g, v) :: vs, (_, y) :: xs, f, .cons h h', e => by
    rw [List.lookup_cons] at e ⊢
    cases q : f == g with
    | true =>
      rw [q] at e
      cases e
    | false =>
      rw [q] at e
      exact h'.none e
theorem RepF.len : ∀ {vs : List (Str × V)} {xs : List (Str × MV)}, RepF K G m vs xs → vs.length = xs.length
  | [], [], _ => rfl
  | _ :: _, _ :: _, .cons _ h => by rw [List.length_cons, List.length_cons, h.len]
theorem RepF.put {f : Str} {v : V} {x : MV} (r : RepV K G m v x) : ∀ {vs : List (Str × V)} {xs : List (Str × MV)}, RepF K G m vs xs → RepF K G m (putF f v vs) (putL f x xs)
  | [], [], _ => .cons r .nil
  | (g, w) :: vs, (_, y) :: xs, .cons h h' => by
    show RepF K G m (putF f v ((g, w) :: vs)) (if g = f then (g, x) :: xs else (g, y) :: putL f x xs)
    unfold putF
    split
    · exact .cons r h'
    · exact .cons h (RepF.put r h')
theorem RepL.strL : ∀ {xs : List MV} {vs : List V} {ss : List Str}, RepL K G m vs xs → strL xs = some ss → vs = ss.map V.str
  | [], [], ss, _, e => by
    cases e
    rfl
  | .str s :: xs, _ :: vs, ss, .cons h h', e => by
    cases h
    unfold Mini.strL at e
    cases q : Mini.strL xs with
    | none => rw [q] at e; cases e
    | some t =>
      rw [q] at e
      cases e
      rw [h'.strL q]
      rfl
end

/-! ### dicts with tuples as keys -/
inductive RepT (K : PySem.W.Frag) (G : Hp) (m : List Addr) : List (List Key × V) → List (List Key × MV) → Prop
  | nil : RepT K G m [] []
  | cons {k : List Key} {v : V} {vs : List (List Key × V)} {x : MV} {xs : List (List Key × MV)} : RepV K G m v x → RepT K G m vs xs → RepT K G m ((k, v) :: vs) ((k, x) :: xs)
section
variable {K : PySem.W.Frag} {G G' : Hp} {m m' : List Addr}
theorem RepT.mono (e : Same G G') (p : m <+: m') : ∀ {vs : List (List Key × V)} {xs : List (List Key × MV)}, RepT K G m vs xs → RepT K G' m' vs xs
  | _, _, .nil => .nil
  | _, _, .cons h h' => .cons (h.mono e p) (h'.mono e p)
theorem RepT.len : ∀ {vs : List (List Key × V)} {xs : List (List Key × MV)}, RepT K G m vs xs → vs.length = xs.length
  | _, _, .nil => rfl
  | _, _, .cons _ h => by rw [List.length_cons, List.length_cons, h.len]
theorem RepT.look {k : List Key} : ∀ {ps : List (List Key × V)} {kvs : List (List Key × MV)}, RepT K G m ps kvs → (valV ps k = none ∧ lookT kvs k = none) ∨ ∃ v x, valV ps k = some v ∧ lookT kvs k = some x ∧ RepV K G m v x
  | [], [], _ => .inl ⟨rfl, rfl⟩
  | (k', v) :: ps, (_, x) :: kvs, .cons h h' => by
    unfold valV lookT
    rw [List.find?_cons, List.find?_cons]
    by_cases z : k' = k
    · rw [decide_eq_true z]
      exact .inr ⟨v, x, rfl, rfl, h⟩
    · rw [decide_eq_false z]
      exact RepT.look h'
theorem RepT.drop (k : List Key) : ∀ {ps : List (List Key × V)} {kvs : List (List Key × MV)}, RepT K G m ps kvs → RepT K G m (dropK ps k) (dropT kvs k)
  | _, _, .nil => .nil
  | (k', v) :: ps, (_, x) :: kvs, .cons h h' => by
    unfold dropK dropT
    rw [List.filter_cons, List.filter_cons]
    by_cases z : k' = k
    · rw [if_neg (by simp [z]), if_neg (by simp [z])]
      exact RepT.drop k h'
    · rw [if_pos (by simp [z]), if_pos (by simp [z])]
      exact .cons h (RepT.drop k h')
theorem RepT.snoc {k : List Key} {v : V} {x : MV} (r : RepV K G m v x) : ∀ {ps : List (List Key × V)} {kvs : List (List Key × MV)}, RepT K G m ps kvs → RepT K G m (ps ++ [(k, v)]) (kvs ++ [(k, x)])
  | _, _, .nil => .cons r .nil
  | _, _, .cons h h' => .cons h (RepT.snoc r h')
theorem look_any {kvs : List (List Key × MV)} {k : List Key} (h : lookT kvs k = none) : (kvs.any fun kv => decide (kv.1 = k)) = false := by
  unfold lookT at h
  rw [Option.map_eq_none_iff, List.find?_eq_none] at h
  rw [List.any_eq_false]
  exact h
theorem val_any {kvs : List (List Key × V)} {k : List Key} (h : valV kvs k = none) : (kvs.any fun kv => decide (kv.1 = k)) = false := by
  unfold valV at h
  rw [Option.map_eq_none_iff, List.find?_eq_none] at h
  rw [List.any_eq_false]
  exact h
theorem RepT.put {k : List Key} {v : V} {x : MV} {ps : List (List Key × V)} {kvs : List (List Key × MV)} (r : RepV K G m v x) (h : RepT K G m ps kvs) (h1 : valV ps k = none) (h2 : lookT kvs k = none) : RepT K G m (putK ps k v) (putT kvs k x) := by
  unfold putK putT
  rw [look_any h2, val_any h1]
  exact h.snoc r
end
/-! ### cells -/
def RepC (K : PySem.W.Frag) (G : Hp) (m : List Addr) (H : Hp) (a : Addr) : Cell → Prop
  | .lst xs => ∃ vs, H a = some (.lst vs) ∧ RepL K G m vs xs
  | .ins c fs => ∃ dx gs, H a = some (.ins (He.ga K c) dx gs) ∧ RepF K G m gs fs
  | .dct kvs => ∃ ps, H a = some (.dT ps) ∧ RepT K G m ps kvs
structure Sim (K : PySem.W.Frag) (O m : List Addr) (M : Mem) (H : Hp) : Prop where
  len : m.length = M.length
  nd : m.Nodup
  dis : ∀ a ∈ m, a ∉ O
  cel : ∀ (i : Nat) (c : Cell), M[i]? = some c → ∃ a, m[i]? = some a ∧ RepC K (hide H (O ++ m)) m H a c
  otr : ∀ a ∈ O, H a ≠ none
abbrev gr (O m : List Addr) (H : Hp) : Hp := hide H (O ++ m)
def EnvR (K : PySem.W.Frag) (G : Hp) (m : List Addr) (s : St) (r : Rho) : Prop := s.length = r.length ∧ ∀ (i : Nat) (x : MV), r[i]? = some (some x) → ∃ v, s[i]? = some (some v) ∧ RepV K G m v x
/-- from one heap to a later one: what is no cell stays -/
structure Ext (m : List Addr) (H : Hp) (m' : List Addr) (H' : Hp) : Prop where
  pre : m <+: m'
  keep : ∀ a o, a ∉ m → H a = some o → H' a = some o
  new : ∀ a ∈ m', a ∈ m ∨ H a = none
  there : ∀ a o, H a = some o → ∃ o', H' a = some o'
section
variable {K : PySem.W.Frag} {O m m' m'' : List Addr} {M M' : Mem} {H H' H'' : Hp} {s : St} {r : Rho}
theorem Ext.refl : Ext m H m H := ⟨List.prefix_refl m, fun _ _ _ h => h, fun _ h => .inl h, fun _ o h => ⟨o, h⟩⟩
theorem pre_mem {a : Addr} (p : m <+: m') (h : a ∈ m) : a ∈ m' := by
  obtain ⟨t, rfl⟩ := p
  exact List.mem_append_left _ h
theorem Ext.trans (a : Ext m H m' H') (b : Ext m' H' m'' H'') : Ext m H m'' H'' := by
  refine ⟨a.pre.trans b.pre, fun c o hc h => ?_, fun c hc => ?_, fun c o h => ?_⟩
  · refine b.keep c o (fun z => ?_) (a.keep c o hc h)
    rcases a.new c z with z | z
    · exact hc z
    · rw [z] at h; cases h
  · rcases b.new c hc with z | z
    · exact a.new c z
    · by_cases hm : c ∈ m
      · exact .inl hm
      · refine .inr ?_
        cases q : H c with
        | none => rfl
        | some o => rw [a.keep c o hm q] at z; cases z
  · obtain ⟨o', h'⟩ := a.there c o h
    exact b.there c o' h'
theorem Ext.sub (e : Ext m H m' H') : Same (gr O m H) (gr O m' H') := fun a o h => by
  obtain ⟨hn, h⟩ := of_hide h
  have h1 : a ∉ m := fun z => hn (List.mem_append_right _ z)
  show hide _ _ _ = _
  rw [hide_of]
  · exact e.keep a o h1 h
  · intro z
    rcases List.mem_append.mp z with z | z
    · exact hn (List.mem_append_left _ z)
    · rcases e.new a z with z | z
      · exact h1 z
      · rw [z] at h; cases h
theorem RepV.ext {v : V} {x : MV} (e : Ext m H m' H') (h : RepV K (gr O m H) m v x) : RepV K (gr O m' H') m' v x := h.mono e.sub e.pre
theorem RepL.ext {v : List V} {x : List MV} (e : Ext m H m' H') (h : RepL K (gr O m H) m v x) : RepL K (gr O m' H') m' v x := h.mono e.sub e.pre
theorem EnvR.ext (e : Ext m H m' H') (h : EnvR K (gr O m H) m s r) : EnvR K (gr O m' H') m' s r := ⟨h.1, fun i x q => by
  obtain ⟨v, h1, h2⟩ := h.2 i x q
  exact ⟨v, h1, h2.ext e⟩⟩
theorem EnvR.set {i : Nat} {v : V} {x : MV} {G : Hp} (h : EnvR K G m s r) (q : RepV K G m v x) : EnvR K G m (s.set i (some v)) (r.set i (some x)) := by
  refine ⟨by rw [List.length_set, List.length_set, h.1], fun j y e => ?_⟩
  rw [List.getElem?_set] at e ⊢
  by_cases hij : i = j
  · subst hij
    rw [if_pos rfl] at e ⊢
    by_cases hl : i < r.length
    · rw [if_pos hl] at e
      have e' := Option.some.inj (Option.some.inj e)
      subst e'
      rw [h.1, if_pos hl]
      exact ⟨v, rfl, q⟩
    · rw [if_neg hl] at e; cases e
  · rw [if_neg hij] at e ⊢
    exact h.2 j y e
theorem EnvR.unset {i : Nat} {G : Hp} (h : EnvR K G m s r) : EnvR K G m (s.set i none) (r.set i none) := by
  refine ⟨by rw [List.length_set, List.length_set, h.1], fun j y e => ?_⟩
  rw [List.getElem?_set] at e ⊢
  by_cases hij : i = j
  · subst hij
    rw [if_pos rfl] at e
    split at e
    · cases e
    · cases e
  · rw [if_neg hij] at e ⊢
    exact h.2 j y e
theorem EnvR.wipe {G : Hp} (h : EnvR K G m s r) : ∀ vs : List Nat, EnvR K G m (L2.wipe s vs) (wipeR r vs)
  | [] => h
  | v :: vs => (h.wipe vs).unset
theorem gr_upd {p : Addr} {o : HO} (hn : H p = none) (hm : p ∉ m) (ho : ∀ a ∈ O, H a ≠ none) : gr O m (upd H p o) p = some o := by
  show hide _ _ _ = _
  rw [hide_of, upd_same]
  intro z
  rcases List.mem_append.mp z with z | z
  · exact ho p z hn
  · exact hm z
theorem Sim.tracked (S : Sim K O m M H) {a : Addr} (h : a ∈ m) : ∃ o, H a = some o := by
  obtain ⟨i, hi⟩ := List.getElem?_of_mem h
  have hl : i < M.length := by rw [← S.len]; exact (List.getElem?_eq_some_iff.mp hi).1
  obtain ⟨b, h1, h2⟩ := S.cel i _ (List.getElem?_eq_getElem hl)
  rw [hi] at h1
  cases h1
  cases q : M[i] with
  | lst xs => rw [q] at h2; obtain ⟨vs, e, _⟩ := h2; exact ⟨_, e⟩
  | ins c fs => rw [q] at h2; obtain ⟨dx, gs, e, _⟩ := h2; exact ⟨_, e⟩
  | dct kvs => rw [q] at h2; obtain ⟨ps, e, _⟩ := h2; exact ⟨_, e⟩
theorem Sim.fresh (S : Sim K O m M H) {p : Addr} (hn : H p = none) : p ∉ m := fun z => by
  obtain ⟨o, e⟩ := S.tracked z
  rw [hn] at e; cases e
theorem Ext.alloc (S : Sim K O m M H) {p : Addr} {o : HO} (hn : H p = none) : Ext m H m (upd H p o) :=
  ⟨List.prefix_refl m, fun a u _ h => by rw [upd_ne (ne_of_none h hn)]; exact h, fun _ h => .inl h, fun a u h => ⟨u, by rw [upd_ne (ne_of_none h hn)]; exact h⟩⟩
/-- a heap in which the cells are as they were, and all else stays -/
theorem Sim.keep (S : Sim K O m M H) (e : Ext m H m H') (hc : ∀ a ∈ m, H' a = H a) : Sim K O m M H' := by
  refine ⟨S.len, S.nd, S.dis, fun i c q => ?_, fun a ha z => ?_⟩
  · obtain ⟨a, h1, h2⟩ := S.cel i c q
    have ha : H' a = H a := hc a (List.mem_of_getElem? h1)
    refine ⟨a, h1, ?_⟩
    cases c with
    | lst xs =>
      obtain ⟨vs, e1, e2⟩ := h2
      exact ⟨vs, by rw [ha]; exact e1, e2.ext e⟩
    | ins c fs =>
      obtain ⟨dx, gs, e1, e2⟩ := h2
      exact ⟨dx, gs, by rw [ha]; exact e1, e2.mono e.sub e.pre⟩
    | dct kvs =>
      obtain ⟨ps, e1, e2⟩ := h2
      exact ⟨ps, by rw [ha]; exact e1, e2.mono e.sub e.pre⟩
  · cases q : H a with
    | none => exact S.otr a ha q
    | some o =>
      obtain ⟨o', h'⟩ := e.there a o q
      rw [z] at h'; cases h'
theorem Sim.alloc (S : Sim K O m M H) {p : Addr} {o : HO} (hn : H p = none) : Sim K O m M (upd H p o) := S.keep (Ext.alloc S hn) fun a ha => by
  obtain ⟨u, e⟩ := S.tracked ha
  exact upd_ne (ne_of_none e hn)
/-- a new cell -/
theorem Ext.cell (S : Sim K O m M H) {p : Addr} {o : HO} (hn : H p = none) : Ext m H (m ++ [p]) (upd H p o) :=
  ⟨List.prefix_append m [p], fun a u _ h => by rw [upd_ne (ne_of_none h hn)]; exact h, fun a h => by
    rcases List.mem_append.mp h with h | h
    · exact .inl h
    · rw [List.mem_singleton.mp h]; exact .inr hn, fun a u h => ⟨u, by rw [upd_ne (ne_of_none h hn)]; exact h⟩⟩
theorem Sim.otr' (S : Sim K O m M H) (e : Ext m H m' H') : ∀ a ∈ O, H' a ≠ none := fun a ha z => by
  cases q : H a with
  | none => exact S.otr a ha q
  | some o =>
    obtain ⟨o', h'⟩ := e.there a o q
    rw [z] at h'; cases h'
theorem RepC.step {a : Addr} {c : Cell} (e : Same (gr O m H) (gr O m' H')) (p : m <+: m') (ha : H' a = H a) (h : RepC K (gr O m H) m H a c) : RepC K (gr O m' H') m' H' a c := by
  cases c with
  | lst xs =>
    obtain ⟨vs, e1, e2⟩ := h
    exact ⟨vs, by rw [ha]; exact e1, e2.mono e p⟩
  | ins c fs =>
    obtain ⟨dx, gs, e1, e2⟩ := h
    exact ⟨dx, gs, by rw [ha]; exact e1, e2.mono e p⟩
  | dct kvs =>
    obtain ⟨ps, e1, e2⟩ := h
    exact ⟨ps, by rw [ha]; exact e1, e2.mono e p⟩
theorem Sim.cell (S : Sim K O m M H) {p : Addr} {o : HO} {c : Cell} (hn : H p = none) (hc : RepC K (gr O (m ++ [p]) (upd H p o)) (m ++ [p]) (upd H p o) p c) : Sim K O (m ++ [p]) (M ++ [c]) (upd H p o) := by
  have e := Ext.cell (o := o) S hn
  refine ⟨by simp [S.len], ?_, fun a ha => ?_, fun i d q => ?_, S.otr' e⟩
  · refine List.nodup_append.mpr ⟨S.nd, by simp, fun a ha b hb => ?_⟩
    rw [List.mem_singleton.mp hb]
    exact fun z => S.fresh hn (z ▸ ha)
  · rcases List.mem_append.mp ha with ha | ha
    · exact S.dis a ha
    · rw [List.mem_singleton.mp ha]
      exact fun z => S.otr p z hn
  · by_cases hi : i < M.length
    · rw [List.getElem?_append_left hi] at q
      obtain ⟨a, h1, h2⟩ := S.cel i d q
      obtain ⟨u, eu⟩ := S.tracked (List.mem_of_getElem? h1)
      exact ⟨a, pre_get e.pre h1, h2.step e.sub e.pre (upd_ne (ne_of_none eu hn))⟩
    · have hl : M.length ≤ i := Nat.le_of_not_lt hi
      rw [List.getElem?_append_right hl] at q
      have hz : i - M.length = 0 := by
        cases z : i - M.length with
        | zero => rfl
        | succ k => rw [z] at q; simp at q
      rw [hz] at q
      have q' : c = d := Option.some.inj q
      subst q'
      refine ⟨p, ?_, hc⟩
      have hi' : i = m.length := by rw [S.len]; omega
      rw [hi', List.getElem?_append_right (Nat.le_refl _), Nat.sub_self]
      rfl
/-- a cell changed -/
theorem Ext.write {n : Nat} {a : Addr} {o : HO} (ha : m[n]? = some a) : Ext m H m (upd H a o) :=
  ⟨List.prefix_refl m, fun b u hb h => by rw [upd_ne (fun z => hb (by rw [z]; exact List.mem_of_getElem? ha))]; exact h, fun _ h => .inl h, fun b u h => by
    by_cases z : b = a
    · exact ⟨o, by rw [z, upd_same]⟩
    · exact ⟨u, by rw [upd_ne z]; exact h⟩⟩
theorem Sim.write (S : Sim K O m M H) {n : Nat} {a : Addr} {o : HO} {c : Cell} (ha : m[n]? = some a) (hc : RepC K (gr O m (upd H a o)) m (upd H a o) a c) : Sim K O m (M.set n c) (upd H a o) := by
  have e : Ext m H m (upd H a o) := Ext.write ha
  refine ⟨by rw [List.length_set]; exact S.len, S.nd, S.dis, fun i d q => ?_, S.otr' e⟩
  rw [List.getElem?_set] at q
  by_cases hi : n = i
  · subst hi
    rw [if_pos rfl] at q
    split at q
    · have q' := Option.some.inj q
      subst q'
      exact ⟨a, ha, hc⟩
    · cases q
  · rw [if_neg hi] at q
    obtain ⟨b, h1, h2⟩ := S.cel i d q
    refine ⟨b, h1, h2.step e.sub e.pre (upd_ne fun z => hi ?_)⟩
    subst z
    exact nd_ix S.nd ha h1
theorem gr_write {a : Addr} {o : HO} (ha : a ∈ m) : gr O m (upd H a o) = gr O m H := by
  funext b
  show hide _ _ _ = hide _ _ _
  unfold hide
  split
  · rfl
  · rename_i hb
    exact upd_ne fun z => hb (List.mem_append_right _ (z ▸ ha))
end
end Mini

set_option Elab.async false
set_option linter.all false
set_option maxRecDepth 100000
set_option maxHeartbeats 2000000
/-! MiS: str(t) of a tuple of flat values and tuples: some text of at most so many signs, whatever is under way. -/
namespace Mini
open PySem
section
variable {prog : Program} {w : World} {h₀ : Heap}
/-- repr of x: some text of at most L signs -/
def RepLe (prog : Program) (w : World) (h₀ : Heap) (d : Nat) (x : Value) (L : Nat) : Prop :=
  ∀ (b : Nat), b + L ≤ sizeLine → ∀ (A : Around) (E : Value → Shared → Prop) (s : Shared) (Q : Str → Shared → Prop), A.units + d < cLine → (∀ c o, h₀.get? c = some o → s.heap.get? c = some o) →
    (∀ t tk, t.length ≤ L → Q t { s with toks := tk }) → wpAny (model prog w) A (pyReprUnder b x) Q E s
inductive RepAllLe (prog : Program) (w : World) (h₀ : Heap) (d : Nat) : List Value → List Nat → Prop
  | nil : RepAllLe prog w h₀ d [] []
  | cons {x : Value} {L : Nat} {l : List Value} {Ls : List Nat} : RepLe prog w h₀ d x L → RepAllLe prog w h₀ d l Ls → RepAllLe prog w h₀ d (x :: l) (L :: Ls)
theorem repLe_int {d : Nat} {i : Int} {t : Tok} (h : i.natAbs.log2 < 1920) : RepLe prog w h₀ d (.int i t) (Str.ofString (toString i)).length := by
  intro b hb A E s Q hu hk hQ
  rw [pyReprUnder_leaf (by omega) (fun a z => by cases z)]
  unfold pyRepr
  exact wpAny_bind (pyReprObj_int h (wpAny_pure (hQ _ _ (Nat.le_refl _))))
theorem repLe_str {d : Nat} {x : Str} {t : Tok} : RepLe prog w h₀ d (.str x t) (reprText x).length := by
  intro b hb A E s Q hu hk hQ
  rw [pyReprUnder_leaf (by omega) (fun a z => by cases z)]
  unfold pyRepr
  exact wpAny_bind (pyReprObj_str (wpAny_pure (hQ _ _ (Nat.le_refl _))) (by omega))
theorem tupFoldLe {A : Around} {E : Value → Shared → Prop} {d : Nat} (hu : A.units + d < cLine) : ∀ (l : List Value) (Ls : List Nat) (acc : Array Str) (n : Nat) (s : Shared) (Q : (Array Str × Nat) → Shared → Prop), RepAllLe prog w h₀ d l Ls → n + pileL Ls ≤ sizeLine → (∀ c o, h₀.get? c = some o → s.heap.get? c = some o) →
    (∀ (ts : List Str) (n' tk : Nat), ts.length = l.length → piled ts ≤ pileL Ls → Q ⟨acc ++ ts.toArray, n'⟩ { s with toks := tk }) → wpAny (model prog w) A (forIn l (⟨acc, n⟩ : (Array Str × Nat)) tupBody) Q E s := by
  intro l
  induction l with
  | nil =>
    intro Ls acc n s Q hT hn hk h
    cases hT
    have h0 := h [] n s.toks rfl (Nat.le_refl _)
    simp only [List.forIn_nil]
    exact wpAny_pure (by simpa using h0)
  | cons x l ih =>
    intro Ls acc n s Q hT hn hk h
    cases hT with
    | cons hx hl =>
      rename_i L Ls'
      have e : pileL (L :: Ls') = (L + 2) + pileL Ls' := by simp [pileL]
      rw [e] at hn
      rw [List.forIn_cons]
      refine wpAny_bind (wpAny_bind (hx (n + 1) (by omega) _ _ _ _ hu hk fun t tk ht => wpAny_pure ?_))
      refine ih Ls' (acc.push t) (n + (t.length + 2)) _ Q hl (by omega) hk fun ts n' tk' hl2 hp => ?_
      have h1 := h (t :: ts) n' tk' (by simp [hl2]) (by rw [piled_cons, e]; omega)
      simpa using h1
theorem tupRestLe {A : Around} {E : Value → Shared → Prop} {d n b : Nat} {s : Shared} {a : Addr} {o : Obj} {items : Array Value} {Ls : List Nat} {Q : Fin → Shared → Prop} (hu : A.units + d < cLine) (ha : h₀.get? a = some o) (hd : o.data = .seq items n) (hk : ∀ c o, h₀.get? c = some o → s.heap.get? c = some o)
    (hT : RepAllLe prog w h₀ d items.toList Ls) (h : ∀ t u tk, t.length ≤ pileL Ls + 7 → Q (.done (.ret (.str t u))) { s with toks := tk }) (hsz : b + (pileL Ls + 7) ≤ sizeLine) :
    wpAny (model prog w) A (tupleReprRest b (.ref a)) Q E s := by
  unfold tupleReprRest Builtin.Tuple.tupleItemsOf
  refine wpAny_bind (wpAny_bind (wpAny_seqItems (hk _ _ ha) hd (wpAny_pure ?_)))
  rw [← Array.forIn_toList]
  refine wpAny_bind (tupFoldLe hu _ Ls _ _ _ _ hT (by omega) hk fun ts n' tk hl hp => ?_)
  have hb : ((("(" : Str) ++ Str.join ", " (#[] ++ ts.toArray).toList ++ (if items.size == 1 then ",)" else ")" : String)) : Str).length ≤ pileL Ls + 7 := by
    rw [strLen_append, strLen_append]
    have e1 : ((("(" : String) : Str)).length = 1 := rfl
    have e3 : (((if items.size == 1 then ",)" else ")" : String) : Str)).length ≤ 2 := by split <;> decide
    rw [e1]
    have e4 : (#[] ++ ts.toArray).toList = ts := by simp
    rw [e4]
    by_cases h : ts = []
    · subst h
      have : (Str.join ", " ([] : List Str)).length = 0 := rfl
      omega
    · have := join_length_add ts h
      omega
  exact wpAny_bind (wpAny_mkStr (wpAny_pure (h _ _ _ hb)) (Nat.le_trans hb (by omega)))
theorem way5 : ("(...)" : Str).length ≤ 7 := by decide +kernel
theorem tupAtLe {A : Around} {E : Value → Shared → Prop} {d n b : Nat} {s : Shared} {a : Addr} {o : Obj} {items : Array Value} {Ls : List Nat} {Q : Fin → Shared → Prop} (hu : A.units + d < cLine) (ha : h₀.get? a = some o) (hd : o.data = .seq items n) (hk : ∀ c o, h₀.get? c = some o → s.heap.get? c = some o)
    (hT : RepAllLe prog w h₀ d items.toList Ls) (h : ∀ t u tk, t.length ≤ pileL Ls + 7 → Q (.done (.ret (.str t u))) { s with toks := tk }) (hsz : b + (pileL Ls + 7) ≤ sizeLine) :
    wpAny (model prog w) A (Builtin.tupleReprAt b ⟨[.ref a], []⟩) Q E s := by
  rw [tuple_repr_tree]
  refine wpAny_bind (fmt_underWay fun k => ?_)
  cases k with
  | true =>
    refine PySem.W.KFB.if_so rfl ?_
    refine wpAny_bind (wpAny_rule ?_)
    exact wpAny_bind (wpAny_mkStr (wpAny_pure (h _ _ _ (Nat.le_trans way5 (Nat.le_add_left _ _)))) (by decide +kernel))
  | false =>
    refine PySem.W.KFB.if_not rfl ?_
    exact tupRestLe hu ha hd hk hT h hsz
theorem repLe_tup {d n : Nat} {a : Addr} {o : Obj} {items : Array Value} {Ls : List Nat} (ha : h₀.get? a = some o) (hc : o.cls = .type "tuple") (hd : o.data = .seq items n) (hT : RepAllLe prog w h₀ d items.toList Ls) : RepLe prog w h₀ (d + 1) (.ref a) (pileL Ls + 7) := by
  intro b hb A E s Q hu hk hQ
  refine wpAny_pyReprUnder_ref (by omega) (wpAny_pyReprObjUnder_twin (twin := "tuple.__repr__.under") ⟨o, hk _ _ ha, hc⟩ F.slot_tuple_repr rfl (by omega) ?_)
  refine call_twin_own (F.quiet_tuple_repr_under _) F.entry_tuple_repr_under F.check_tuple_repr_under ⟨o, hk _ _ ha, hc⟩ F.slot_tuple_repr (F.args_tuple_repr_1 _) (wpOwn_of_wpAny ?_)
  refine tupAtLe (d := d) ?_ ha hd hk hT (fun t u tk ht => ?_) (by omega)
  · rw [units_under_tuple_repr_under]
    omega
  · exact ⟨⟨_, _, rfl⟩, t, u, rfl, hQ t tk ht⟩
/-- str(t) -/
theorem strLe_tup {A : Around} {E : Value → Shared → Prop} {d n : Nat} {s : Shared} {a : Addr} {o : Obj} {items : Array Value} {Ls : List Nat} {Q : Value → Shared → Prop} (hu : A.units + (d + 4) < cLine) (ha : s.heap.get? a = some o) (hc : o.cls = .type "tuple") (hd : o.data = .seq items n) (hT : ∀ prog w, RepAllLe prog w s.heap d items.toList Ls)
    (hsz : pileL Ls + 7 ≤ sizeLine) (h : ∀ t u tk, t.length ≤ pileL Ls + 7 → Q (.str t u) { s with toks := tk }) : wpAny (model prog w) A (call (.type "str") [.ref a]) Q E s := by
  refine callType_new F.called_str (by decide) (F.typeCall_str_1 _) (F.newCall_str_1 _) (fun obj => F.args_object_init_2 obj _) F.entry_str_new
    (meets_str_new (S := fun A' R s' => A'.units + (d + 3) < cLine ∧ s' = s ∧ ∀ t u tk, t.length ≤ pileL Ls + 7 → R (.ok (.ret (.str t u))) { s' with toks := tk }) fun prog' w' A' R s' hh => ?_) ⟨by show A.units + 1 + (d + 3) < cLine; omega, rfl, fun t u tk ht => ⟨typeIs_str _ _ _, h t u tk ht⟩⟩
  obtain ⟨hu', rfl, hR⟩ := hh
  refine wpAny_strOf_slot rfl (by show A'.units + 1 + 1 < cLine; omega) ⟨o, ha, hc⟩ F.slot_tuple_str F.slot_tuple_repr ?_
  refine wpAny_call (codeAny_call_builtin_own (Code.quiet_builtin _ (by decide +kernel)) F.entry_tuple_repr (F.slot_tuple_repr.check _ _ _ _ _ _ _ _ ⟨o, ha, hc⟩ (F.args_tuple_repr_1 _) (wpOwn_of_wpAny ?_)))
  refine tupAtLe (b := 0) (d := d) ?_ ha hd (fun _ _ z => z) (hT prog' w') (fun t u tk ht => ⟨t, u, rfl, hR t u tk ht⟩) (by omega)
  rw [units_under_tuple_repr]
  show A'.units + 1 + 1 + 1 + d < cLine
  omega
end
end Mini

set_option Elab.async false
set_option linter.all false
set_option maxRecDepth 100000
set_option maxHeartbeats 1000000
/-! MiC: the operations on values are those of the model. -/
namespace Mini
open PySem L2

/-- behind an operation that changes no cell -/
def Fin (K : PySem.W.Frag) (O m : List Addr) (M : Mem) (H : Hp) (z : MV) (Q : VK) : Prop := ∀ u H', Ext m H m H' → Sim K O m M H' → RepV K (gr O m H') m u z → Q u H'
def rV2 (K : PySem.W.Frag) (f : Mem → MV → MV → Option MV) : R2 := fun v w H Q => ∃ O m M x y z, Sim K O m M H ∧ RepV K (gr O m H) m v x ∧ RepV K (gr O m H) m w y ∧ f M x y = some z ∧ Fin K O m M H z Q
def rV1 (K : PySem.W.Frag) (f : Mem → MV → Option MV) : V → Hp → VK → Prop := fun v H Q => ∃ O m M x z, Sim K O m M H ∧ RepV K (gr O m H) m v x ∧ f M x = some z ∧ Fin K O m M H z Q
def rVL (K : PySem.W.Frag) (f : Mem → List MV → Option MV) : List V → Hp → VK → Prop := fun vs H Q => ∃ O m M xs z, Sim K O m M H ∧ RepL K (gr O m H) m vs xs ∧ f M xs = some z ∧ Fin K O m M H z Q
section
variable {K : PySem.W.Frag} {O m : List Addr} {M : Mem} {H : Hp} {v w : V} {x y z : MV} {Q : VK}
theorem Fin.here (h : Fin K O m M H z Q) (S : Sim K O m M H) (r : RepV K (gr O m H) m v z) : Q v H := h v H Ext.refl S r
theorem Fin.new {p : Addr} {o : HO} (h : Fin K O m M H z Q) (S : Sim K O m M H) (hn : H p = none) (r : RepV K (gr O m (upd H p o)) m (.ref p) z) : Q (.ref p) (upd H p o) := h _ _ (Ext.alloc S hn) (S.alloc hn) r
theorem Fin.tup {p : Addr} {vs : List V} {xs : List MV} (h : Fin K O m M H (.tup xs) Q) (S : Sim K O m M H) (hn : H p = none) (r : RepL K (gr O m H) m vs xs) : Q (.ref p) (upd H p (.tup vs)) :=
  h.new S hn (.tup (gr_upd hn (S.fresh hn) S.otr) (r.ext (Ext.alloc S hn)))
theorem Fin.lst {p : Addr} {vs : List V} {xs : List MV} (h : Fin K O m M H (.lst xs) Q) (S : Sim K O m M H) (hn : H p = none) (r : RepL K (gr O m H) m vs xs) : Q (.ref p) (upd H p (.lst vs)) :=
  h.new S hn (.lst (gr_upd hn (S.fresh hn) S.otr) (r.ext (Ext.alloc S hn)))
theorem tup_of {xs : List MV} (r : RepV K (gr O m H) m v (.tup xs)) : ∃ a vs, v = .ref a ∧ SqT K H a vs ∧ RepL K (gr O m H) m vs xs := by
  cases r with
  | tup h1 h2 => exact ⟨_, _, rfl, .inl (.inl (hide_same _ _ h1)), h2⟩
theorem tup_at {xs : List MV} (r : RepV K (gr O m H) m v (.tup xs)) : ∃ a vs, v = .ref a ∧ H a = some (.tup vs) ∧ RepL K (gr O m H) m vs xs := by
  cases r with
  | tup h1 h2 => exact ⟨_, _, rfl, hide_same _ _ h1, h2⟩
theorem asL_of (S : Sim K O m M H) {xs : List MV} (r : RepV K (gr O m H) m v x) (e : asL M x = some xs) : ∃ a vs, v = .ref a ∧ H a = some (.lst vs) ∧ RepL K (gr O m H) m vs xs := by
  unfold asL at e
  cases x with
  | lst ys =>
    have e' := Option.some.inj e
    subst e'
    cases r with
    | lst h1 h2 => exact ⟨_, _, rfl, hide_same _ _ h1, h2⟩
  | ref n =>
    simp only at e
    cases q : M[n]? with
    | none => rw [q] at e; cases e
    | some c =>
      rw [q] at e
      cases c with
      | lst ys =>
        have e' := Option.some.inj e
        subst e'
        cases r with
        | ref h1 =>
          obtain ⟨a, h2, vs, h3, h4⟩ := S.cel n _ q
          rw [h1] at h2
          cases h2
          exact ⟨_, vs, rfl, h3, h4⟩
      | ins _ _ => cases e
      | dct _ => cases e
  | _ => cases e
theorem mapO_rep {f : MV → Option PyData} {K : PySem.W.Frag} {H : Hp} {G : Hp} {m : List Addr} (hf : ∀ v x d, RepV K G m v x → f x = some d → Dp K H v d) : ∀ {xs : List MV} {vs : List V} {ds : List PyData}, RepL K G m vs xs → mapO f xs = some ds → DpAll K H vs ds
  | [], [], ds, _, e => by
    cases e
    exact .nil
  | x :: xs, v :: vs, ds, .cons h h', e => by
    unfold mapO at e
    cases q : f x with
    | none => rw [q] at e; cases e
    | some d =>
      rw [q] at e
      cases q' : mapO f xs with
      | none => rw [q'] at e; cases e
      | some es =>
        rw [q'] at e
        cases e
        exact .cons (hf v x d h q) (mapO_rep hf h' q')
theorem toD_rep (S : Sim K O m M H) : ∀ (n : Nat) (v : V) (x : MV) (d : PyData), RepV K (gr O m H) m v x → toD n M x = some d → Dp K H v d
  | 0, _, _, _, _, e => by cases e
  | n + 1, v, x, d, r, e => by
    have ih := toD_rep S n
    unfold toD at e
    cases x with
    | non => cases e; cases r; exact .non
    | bl b => cases e; cases r; exact .bl b
    | int b => cases e; cases r; exact .int b
    | str b => cases e; cases r; exact .str b
    | tup xs =>
      simp only at e
      cases q : mapO (toD n M) xs with
      | none => rw [q] at e; cases e
      | some ds =>
        rw [q] at e
        cases e
        obtain ⟨a, vs, rfl, h1, h2⟩ := tup_of r
        exact .tup h1 (mapO_rep ih h2 q)
    | lst xs =>
      simp only at e
      cases q : mapO (toD n M) xs with
      | none => rw [q] at e; cases e
      | some ds =>
        rw [q] at e
        cases e
        obtain ⟨a, vs, rfl, h1, h2⟩ := asL_of S r (show asL M (.lst xs) = some xs from rfl)
        exact .lst (SqL.of h1) (mapO_rep ih h2 q)
    | ref k =>
      simp only at e
      cases qc : M[k]? with
      | none => rw [qc] at e; cases e
      | some c =>
        rw [qc] at e
        cases c with
        | ins _ _ => cases e
        | dct _ => cases e
        | lst xs =>
          simp only at e
          cases q : mapO (toD n M) xs with
          | none => rw [q] at e; cases e
          | some ds =>
            rw [q] at e
            cases e
            obtain ⟨a, vs, rfl, h1, h2⟩ := asL_of S r (show asL M (.ref k) = some xs by unfold asL; simp only [qc])
            exact .lst (SqL.of h1) (mapO_rep ih h2 q)
    | _ => cases e
theorem eqD_rep (S : Sim K O m M H) {b : Bool} (r : RepV K (gr O m H) m v x) (r' : RepV K (gr O m H) m w y) (e : eqD M x y = some b) : ∃ d d', Dp K H v d ∧ Dp K H w d' ∧ SeqAt.shaped d = true ∧ SeqAt.shaped d' = true ∧ PyData.eqv d d' = b := by
  unfold eqD at e
  cases q : toD 64 M x with
  | none => rw [q] at e; cases e
  | some d =>
    cases q' : toD 64 M y with
    | none => rw [q, q'] at e; cases e
    | some d' =>
      rw [q, q'] at e
      simp only at e
      split at e
      · rename_i hs
        obtain ⟨h1, h2⟩ := Bool.and_eq_true_iff.mp hs
        exact ⟨d, d', toD_rep S _ _ _ _ r q, toD_rep S _ _ _ _ r' q', h1, h2, Option.some.inj e⟩
      · cases e
theorem ite_some {α : Type} {c : Prop} [Decidable c] {a b : α} (h : (if c then some a else none) = some b) : c ∧ a = b := by
  split at h
  · exact ⟨by assumption, Option.some.inj h⟩
  · cases h
theorem map_some {α β : Type} {f : α → β} {o : Option α} {b : β} (h : o.map f = some b) : ∃ a, o = some a ∧ f a = b := by
  cases o with
  | none => cases h
  | some a => exact ⟨a, rfl, Option.some.inj h⟩
theorem bind_some {α β : Type} {f : α → Option β} {o : Option α} {b : β} (h : o.bind f = some b) : ∃ a, o = some a ∧ f a = some b := by
  cases o with
  | none => cases h
  | some a => exact ⟨a, rfl, h⟩
end

section
variable {X : Cx}
/-! ### binary operators -/
theorem op_addM : OpR X (binaryOp .Add) (rV2 X.K addV) := by
  intro pins s σ H v w vv ww Q I rv rz ⟨O, m, M, x, y, z, S, r1, r2, e, fin⟩
  have lists : ∀ xs ys, asL M x = some xs → asL M y = some ys → xs.length + ys.length ≤ sizeLine → z = .lst (xs ++ ys) → wpAny (model X.prog X.w) X.A (binaryOp .Add vv ww) (EP X pins σ Q) X.xe s := by
    intro xs ys h1 h2 hz ez
    subst ez
    obtain ⟨a, vs, rfl, ha, la⟩ := asL_of S r1 h1
    obtain ⟨b, ws, rfl, hb, lb⟩ := asL_of S r2 h2
    exact op_cat pins s σ H _ _ vv ww Q I rv rz ⟨a, b, vs, ws, rfl, rfl, ha, hb, by rw [la.len, lb.len]; exact hz, fun p hp => fin.lst S hp (la.append lb)⟩
  have rest : (match asL M x, asL M y with
    | some xs, some ys => if xs.length + ys.length ≤ sizeLine then some (MV.lst (xs ++ ys)) else none
    | _, _ => none) = some z → wpAny (model X.prog X.w) X.A (binaryOp .Add vv ww) (EP X pins σ Q) X.xe s := by
    intro e
    cases h1 : asL M x with
    | none => rw [h1] at e; cases e
    | some xs =>
      cases h2 : asL M y with
      | none => rw [h1, h2] at e; cases e
      | some ys =>
        rw [h1, h2] at e
        obtain ⟨hz, ez⟩ := ite_some e
        exact lists xs ys h1 h2 hz ez.symm
  unfold addV at e
  split at e
  · cases r1; cases r2
    cases e
    exact op_add pins s σ H _ _ vv ww Q I rv rz ⟨_, _, rfl, rfl, fin.here S (.int _)⟩
  · cases r1; cases r2
    obtain ⟨hz, ez⟩ := ite_some e
    subst ez
    exact op_add_str pins s σ H _ _ vv ww Q I rv rz ⟨_, _, rfl, rfl, hz, fin.here S (.str _)⟩
  · obtain ⟨hz, ez⟩ := ite_some e
    subst ez
    rename_i xs ys
    obtain ⟨a, vs, rfl, ha, la⟩ := tup_of r1
    obtain ⟨b, ws, rfl, hb, lb⟩ := tup_of r2
    refine op_catA pins s σ H _ _ vv ww Q I rv rz ⟨a, b, vs, ws, rfl, rfl, ha, hb, by rw [la.len, lb.len]; exact hz, fun h0 => ?_, fun h0 h1 => ?_, fun h0 h1 p hp => fin.tup S hp (la.append lb)⟩
    · subst h0
      cases la
      exact fin.here S r2
    · subst h1
      cases lb
      refine fin.here S ?_
      rw [List.append_nil]
      exact r1
  · cases r1
    cases r2 with
    | txt hs =>
      obtain ⟨hz, ez⟩ := ite_some e
      subst ez
      exact op_add_str pins s σ H _ _ vv ww Q I rv rz ⟨_, _, rfl, rfl, Nat.le_trans (Nat.add_le_add_left hs _) hz, fin.here S (.txt (by rw [strLen_append]; exact Nat.add_le_add_left hs _))⟩
  · cases r2
    cases r1 with
    | txt hs =>
      obtain ⟨hz, ez⟩ := ite_some e
      subst ez
      exact op_add_str pins s σ H _ _ vv ww Q I rv rz ⟨_, _, rfl, rfl, Nat.le_trans (Nat.add_le_add_right hs _) hz, fin.here S (.txt (by rw [strLen_append]; exact Nat.add_le_add_right hs _))⟩
  · exact rest e
theorem op_binM (op : Operator) : OpR X (binaryOp op) (rV2 X.K (binV op)) := by
  intro pins s σ H v w vv ww Q I rv rz h
  cases op with
  | Add => exact op_addM pins s σ H v w vv ww Q I rv rz h
  | Sub =>
    obtain ⟨O, m, M, x, y, z, S, r1, r2, e, fin⟩ := h
    simp only [binV] at e
    split at e
    · cases r1; cases r2; cases e
      exact op_sub pins s σ H _ _ vv ww Q I rv rz ⟨_, _, rfl, rfl, fin.here S (.int _)⟩
    · cases e
  | Mult =>
    obtain ⟨O, m, M, x, y, z, S, r1, r2, e, fin⟩ := h
    simp only [binV] at e
    split at e
    · obtain ⟨hz, ez⟩ := ite_some e
      subst ez
      cases r1; cases r2
      rcases hz with hz | ⟨hz0, hz1⟩
      · exact op_mulW pins s σ H _ _ vv ww Q I rv rz ⟨_, _, rfl, rfl, hz, fin.here S (.int _)⟩
      · exact op_mul pins s σ H _ _ vv ww Q I rv rz ⟨_, _, rfl, rfl, .inr ⟨by omega, by omega⟩, fin.here S (.int _)⟩
    · cases e
  | Mod =>
    obtain ⟨O, m, M, x, y, z, S, r1, r2, e, fin⟩ := h
    simp only [binV] at e
    split at e
    · obtain ⟨hz, ez⟩ := ite_some e
      subst ez
      cases r1; cases r2
      exact op_mod pins s σ H _ _ vv ww Q I rv rz ⟨_, _, rfl, rfl, hz, fin.here S (.int _)⟩
    · cases e
  | FloorDiv =>
    obtain ⟨O, m, M, x, y, z, S, r1, r2, e, fin⟩ := h
    simp only [binV] at e
    split at e
    · obtain ⟨hz, ez⟩ := ite_some e
      subst ez
      cases r1; cases r2
      exact op_fdivW pins s σ H _ _ vv ww Q I rv rz ⟨_, _, rfl, rfl, hz, fin.here S (.int _)⟩
    · cases e
  | Pow =>
    obtain ⟨O, m, M, x, y, z, S, r1, r2, e, fin⟩ := h
    simp only [binV] at e
    split at e
    · obtain ⟨hz, ez⟩ := ite_some e
      subst ez
      cases r1; cases r2
      exact op_pow pins s σ H _ _ vv ww Q I rv rz ⟨_, _, rfl, rfl, hz, fin.here S (.int _)⟩
    · cases e
  | _ =>
    obtain ⟨O, m, M, x, y, z, S, r1, r2, e, fin⟩ := h
    cases e
/-! ### comparisons -/
theorem str_one {a : Str} (h : a.length = 1) : a = ⟨#[a.cps.getD 0 0]⟩ := by
  obtain ⟨⟨l⟩⟩ := a
  have h' : l.length = 1 := h
  match l, h' with
  | [c], _ => rfl
theorem is_non {K : PySem.W.Frag} {G : Hp} {m : List Addr} {v : V} {x : MV} (r : RepV K G m v x) : decide (v = .non) = isNon x := by
  cases r <;> rfl
theorem non_of {K : PySem.W.Frag} {G : Hp} {m : List Addr} {v : V} {x : MV} (r : RepV K G m v x) (h : isNon x = true) : v = .non := by
  cases r <;> first | rfl | cases h
theorem isB_of {x y : MV} {b : Bool} (e : isB x y = some b) : ∃ a c, x = .bl a ∧ y = .bl c ∧ decide (a = c) = b := by
  unfold isB at e
  split at e
  · exact ⟨_, _, rfl, rfl, Option.some.inj e⟩
  · cases e
theorem num_of {f : Int → Int → Bool} {x y : MV} {b : Bool} (e : numB f x y = some b) : ∃ i j, x = .int i ∧ y = .int j ∧ f i j = b := by
  unfold numB at e
  split at e
  · exact ⟨_, _, rfl, rfl, Option.some.inj e⟩
  · cases e
theorem in_cases {M : Mem} {x y : MV} {b : Bool} (e : inV2 M x y = some b) : (∃ c z, x = .str ⟨#[c]⟩ ∧ y = .str z ∧ decide (c ∈ z.cps.toList) = b) ∨ ∃ ys v vs, y = .tup ys ∧ flM x = some v ∧ mapO flM ys = some vs ∧ inV v vs = b := by
  unfold inV2 at e
  split at e
  · split at e
    · obtain ⟨hz, ez⟩ := ite_some e
      exact .inl ⟨_, _, congrArg MV.str (str_one hz), rfl, ez⟩
    · cases e
  · unfold inSq at e
    split at e
    · rename_i v vs q1 q2
      exact .inr ⟨_, v, vs, rfl, q1, q2, Option.some.inj e⟩
    · cases e
  · cases e
theorem flM_rep {G : Hp} {m : List Addr} {x : MV} {v u : V} (r : RepV K G m u x) (e : flM x = some v) : u = v ∧ flatV v = true := by
  cases r <;> first | (cases e; exact ⟨rfl, rfl⟩) | cases e
theorem flMs_rep {G : Hp} {m : List Addr} : ∀ {xs : List MV} {vs us : List V}, RepL K G m us xs → mapO flM xs = some vs → us = vs ∧ vs.all flatV = true
  | [], vs, us, r, e => by
    cases r
    obtain rfl := Option.some.inj e
    exact ⟨rfl, rfl⟩
  | x :: xs, vs, us, r, e => by
    cases r with
    | cons r1 r2 =>
      unfold mapO at e
      cases q1 : flM x with
      | none => rw [q1] at e; cases e
      | some y1 =>
        cases q2 : mapO flM xs with
        | none => rw [q1, q2] at e; cases e
        | some ys =>
          rw [q1, q2] at e
          obtain rfl := Option.some.inj e
          obtain ⟨rfl, f1⟩ := flM_rep r1 q1
          obtain ⟨rfl, f2⟩ := flMs_rep r2 q2
          exact ⟨rfl, by rw [List.all_cons, f1, f2]; rfl⟩
theorem op_cmpM (hu : X.A.units + 64 < cLine) (op : CmpOp) : OpR X (compareOp op) (rV2 X.K fun M x y => (cmpV op M x y).map .bl) := by
  intro pins s σ H v w vv ww Q I rv rz ⟨O, m, M, x, y, z, S, r1, r2, e0, fin⟩
  obtain ⟨b, e, ez⟩ := map_some e0
  clear e0
  subst ez
  have fb : ∀ k : Bool, k = b → Q (.bl k) H := fun k hk => by
    subst hk
    exact fin.here S (.bl _)
  have nums : ∀ {o : CmpOp} {f : Int → Int → Bool}, OpR X (compareOp o) (rI0 fun i j => .bl (f i j)) → numB f x y = some b → wpAny (model X.prog X.w) X.A (compareOp o vv ww) (EP X pins σ Q) X.xe s := by
    intro o f ho e
    obtain ⟨i, j, rfl, rfl, ef⟩ := num_of e
    cases r1; cases r2
    exact ho pins s σ H _ _ vv ww Q I rv rz ⟨_, _, rfl, rfl, fb _ ef⟩
  cases op with
  | Eq =>
    obtain ⟨d, d', h1, h2, h3, h4, h5⟩ := eqD_rep S r1 r2 e
    exact op_eqD hu pins s σ H _ _ vv ww Q I rv rz ⟨d, d', h1, h2, h3, h4, fb _ h5⟩
  | NotEq =>
    obtain ⟨c, e, ez⟩ := map_some e
    obtain ⟨d, d', h1, h2, h3, h4, h5⟩ := eqD_rep S r1 r2 e
    exact op_neD hu pins s σ H _ _ vv ww Q I rv rz ⟨d, d', h1, h2, h3, h4, fb _ (by rw [h5]; exact ez)⟩
  | Lt => exact nums (f := fun i j => decide (i < j)) op_lt e
  | LtE => exact nums (f := fun i j => decide (i ≤ j)) op_le e
  | Gt => exact nums (f := fun i j => decide (j < i)) op_gt e
  | GtE => exact nums (f := fun i j => decide (j ≤ i)) op_ge e
  | Is =>
    replace e : (if isNon y = true then some (isNon x) else isB x y) = some b := e
    split at e
    · rename_i hn
      exact op_isN pins s σ H _ _ vv ww Q I rv rz ⟨non_of r2 hn, fb _ (by rw [is_non r1]; exact Option.some.inj e)⟩
    · obtain ⟨a', b', rfl, rfl, ez⟩ := isB_of e
      cases r1; cases r2
      exact op_isBl pins s σ H _ _ vv ww Q I rv rz ⟨_, _, rfl, rfl, fb _ ez⟩
  | IsNot =>
    replace e : (if isNon y = true then some (!isNon x) else (isB x y).map (!·)) = some b := e
    split at e
    · rename_i hn
      exact op_notN pins s σ H _ _ vv ww Q I rv rz ⟨non_of r2 hn, fb _ (by rw [is_non r1]; exact Option.some.inj e)⟩
    · obtain ⟨c, e, ez⟩ := map_some e
      obtain ⟨a', b', rfl, rfl, ec⟩ := isB_of e
      cases r1; cases r2
      exact op_notBl pins s σ H _ _ vv ww Q I rv rz ⟨_, _, rfl, rfl, fb _ (by rw [ec]; exact ez)⟩
  | In =>
    rcases in_cases (M := M) e with ⟨c, z, rfl, rfl, ez⟩ | ⟨ys, a, as, rfl, q1, q2, ez⟩
    · cases r1; cases r2
      exact op_in_sign pins s σ H _ _ vv ww Q I rv rz ⟨_, _, rfl, rfl, fb _ ez⟩
    · obtain ⟨p, us, rfl, hq, r3⟩ := tup_of r2
      obtain ⟨rfl, f1⟩ := flM_rep r1 q1
      obtain ⟨rfl, f2⟩ := flMs_rep r3 q2
      exact op_in_seq pins s σ H _ _ vv ww Q I rv rz ⟨p, _, rfl, .inr hq, f1, f2, fb _ ez⟩
  | NotIn =>
    obtain ⟨k, e, ek⟩ := map_some e
    rcases in_cases (M := M) e with ⟨c, z, rfl, rfl, ez⟩ | ⟨ys, a, as, rfl, q1, q2, ez⟩
    · cases r1; cases r2
      exact op_notIn_sign pins s σ H _ _ vv ww Q I rv rz ⟨_, _, rfl, rfl, fb _ (by rw [ez]; exact ek)⟩
    · obtain ⟨p, us, rfl, hq, r3⟩ := tup_of r2
      obtain ⟨rfl, f1⟩ := flM_rep r1 q1
      obtain ⟨rfl, f2⟩ := flMs_rep r3 q2
      exact op_notIn_seq pins s σ H _ _ vv ww Q I rv rz ⟨p, _, rfl, .inr hq, f1, f2, fb _ (by rw [ez]; exact ek)⟩
/-! ### subscripts -/
theorem atI_rep {K : PySem.W.Frag} {G : Hp} {m : List Addr} {vs : List V} {xs : List MV} {i : Int} {x : MV} (r : RepL K G m vs xs) (e : atI xs i = some x) : ∃ v, atI vs i = some v ∧ RepV K G m v x := by
  unfold atI at e ⊢
  obtain ⟨j, h1, h2⟩ := bind_some e
  obtain ⟨v, h3, h4⟩ := r.get h2
  exact ⟨v, by rw [r.len, h1]; exact h3, h4⟩
/-- what the module's dicts say -/
def KdOk (K : PySem.W.Frag) (w : World) (kd : Str → Option (List (Str × MV))) : Prop := ∀ d kvs k x, kd d = some kvs → kvs.lookup k = some x → ∃ v, KDct K w (He.ga K d) k v ∧ ∀ G m, RepV K G m v x
theorem ix_M {kd : Str → Option (List (Str × MV))} (hk : KdOk X.K X.w kd) : IxR X (rV2 X.K fun M x y => idxV M kd x y) := by
  intro value slice pins s σ H v w vv ww Q I rv rz ⟨O, m, M, x, y, z, S, r1, r2, e, fin⟩ hs
  simp only [idxV] at e
  split at e
  · obtain ⟨a, vs, rfl, ha, la⟩ := tup_of r1
    cases r2
    obtain ⟨u, h1, h2⟩ := atI_rep la e
    exact ix_tup value slice pins s σ H _ _ vv ww Q I rv rz ⟨a, vs, _, u, rfl, rfl, ha, h1, fin.here S h2⟩ hs
  · split at e
    · rename_i hz
      obtain ⟨c, h1, h2⟩ := map_some e
      subst h2
      cases r1; cases r2
      exact ix_str value slice pins s σ H _ _ vv ww Q I rv rz ⟨_, _, c, rfl, rfl, hz, h1, fin.here S (.str _)⟩ hs
    · cases e
  · obtain ⟨c, h1, h2⟩ := map_some e
    subst h2
    cases r1 with
    | scr hl =>
      cases r2
      refine ix_list value slice pins s σ H _ _ vv ww Q I rv rz ⟨_, _, _, .int c, rfl, rfl, hide_same.seq hl, ?_, fin.here S (.int _)⟩ hs
      unfold atI at h1 ⊢
      obtain ⟨j, q1, q2⟩ := bind_some h1
      rw [List.length_map, q1]
      show (List.map V.int _)[j]? = _
      rw [List.getElem?_map, q2]
      rfl
  · obtain ⟨kvs, h1, h2⟩ := bind_some e
    obtain ⟨u, h3, h4⟩ := hk _ _ _ _ h1 h2
    cases r1; cases r2
    exact ix_kdict value slice pins s σ H _ _ vv ww Q I rv rz ⟨_, _, u, rfl, rfl, h3, fin.here S (h4 _ _)⟩ hs
  · obtain ⟨xs, h1, h2⟩ := bind_some e
    obtain ⟨a, vs, rfl, ha, la⟩ := asL_of S r1 h1
    cases r2
    obtain ⟨u, h3, h4⟩ := atI_rep la h2
    exact ix_list value slice pins s σ H _ _ vv ww Q I rv rz ⟨a, vs, _, u, rfl, rfl, SqL.of ha, h3, fin.here S h4⟩ hs
  · cases e
theorem cut_whole {α : Type} (xs : List α) (lo hi : Option Int) (h : HT.sIx xs.length 0 lo = 0 ∧ HT.sIx xs.length xs.length hi = xs.length) : cutL xs lo hi = xs := by
  unfold cutL
  rw [h.1, h.2]
  simp
def rSl (K : PySem.W.Frag) : V → Option Int → Option Int → Hp → VK → Prop := fun v lo hi H Q => ∃ O m M x z, Sim K O m M H ∧ RepV K (gr O m H) m v x ∧ slcV M x lo hi = some z ∧ Fin K O m M H z Q
theorem RepL.cut {K : PySem.W.Frag} {G : Hp} {m : List Addr} {vs : List V} {xs : List MV} (r : RepL K G m vs xs) (lo hi : Option Int) : RepL K G m (cutV vs lo hi) (cutL xs lo hi) := by
  unfold cutV cutL
  rw [r.len]
  exact (r.drop _).take _
theorem sl_M : SlR X (rSl X.K) := by
  intro pins s σ H v vv vl vu lo hi sl Q I rv hs pl pu ⟨O, m, M, x, z, S, r1, e, fin⟩
  unfold slcV at e
  split at e
  · obtain ⟨hz, ez⟩ := ite_some e
    subst ez
    cases r1
    exact sl_str pins s σ H _ vv vl vu lo hi sl Q I rv hs pl pu ⟨_, rfl, hz, fin.here S (.str _)⟩
  · have e' := Option.some.inj e
    subst e'
    rename_i xs
    obtain ⟨a, vs, rfl, ha, la⟩ := tup_of r1
    refine sl_tupA pins s σ H _ vv vl vu lo hi sl Q I rv hs pl pu ⟨a, vs, rfl, ha, fun hw => fin.here S ?_, fun _ p hp => fin.tup S hp (la.cut lo hi)⟩
    rw [la.len] at hw
    rw [cut_whole xs lo hi hw]
    exact r1
  · obtain ⟨xs, h1, h2⟩ := map_some e
    subst h2
    obtain ⟨a, vs, rfl, ha, la⟩ := asL_of S r1 h1
    exact sl_list pins s σ H _ vv vl vu lo hi sl Q I rv hs pl pu ⟨a, vs, rfl, SqL.of ha, fun p hp => fin.lst S hp (la.cut lo hi)⟩
/-! ### built-ins -/
theorem RepL.one {K : PySem.W.Frag} {G : Hp} {m : List Addr} {vs : List V} {x : MV} (r : RepL K G m vs [x]) : ∃ v, vs = [v] ∧ RepV K G m v x := by
  cases r with
  | cons h h' =>
    cases h'
    exact ⟨_, rfl, h⟩
theorem RepL.two {K : PySem.W.Frag} {G : Hp} {m : List Addr} {vs : List V} {x y : MV} (r : RepL K G m vs [x, y]) : ∃ v w, vs = [v, w] ∧ RepV K G m v x ∧ RepV K G m w y := by
  cases r with
  | cons h h' =>
    obtain ⟨w, rfl, h2⟩ := h'.one
    exact ⟨_, w, rfl, h, h2⟩
theorem lenV_rep {K : PySem.W.Frag} {O m : List Addr} {M : Mem} {H : Hp} {v : V} {x : MV} {n : Nat} (S : Sim K O m M H) (r : RepV K (gr O m H) m v x) (e : lenV M x = some n) : LenV K v H n := by
  have rest : (asL M x).map List.length = some n → LenV K v H n := fun e => by
    obtain ⟨xs, h1, h2⟩ := map_some e
    subst h2
    obtain ⟨a, vs, rfl, ha, la⟩ := asL_of S r h1
    exact .inl ⟨vs, SqL.of ha, la.len.symm⟩
  cases x with
  | str t =>
    obtain ⟨hz, ez⟩ := ite_some e
    cases r
    exact ⟨hz, ez.symm⟩
  | tup xs =>
    have e' := Option.some.inj e
    subst e'
    obtain ⟨a, vs, rfl, ha, la⟩ := tup_of r
    exact .inr ⟨vs, ha, la.len.symm⟩
  | scr ns =>
    have e' := Option.some.inj e
    subst e'
    cases r with
    | scr hl => exact .inl ⟨_, hide_same.seq hl, by rw [List.length_map]⟩
  | _ => exact rest e
theorem call_lenM : CallR X (.builtin "len") (rVL X.K (bltV .len)) := by
  intro pins s σ H vs us Q I rv ⟨O, m, M, xs, z, S, r1, e, fin⟩
  replace e : biLen M xs = some z := e
  unfold biLen at e
  split at e
  · obtain ⟨n, h1, h2⟩ := map_some e
    subst h2
    obtain ⟨v, rfl, r⟩ := r1.one
    exact call_len pins s σ H _ us Q I rv ⟨v, n, rfl, lenV_rep S r h1, fin.here S (.int _)⟩
  · cases e
theorem call_intM : CallR X (.type "int") (rVL X.K (bltV .int)) := by
  intro pins s σ H vs us Q I rv ⟨O, m, M, xs, z, S, r1, e, fin⟩
  replace e : biInt xs = some z := e
  unfold biInt at e
  split at e
  · have e' := Option.some.inj e
    subst e'
    obtain ⟨v, rfl, r⟩ := r1.one
    cases r
    exact call_int1 pins s σ H _ us Q I rv (.inl ⟨_, rfl, fin.here S (.int _)⟩)
  · have e' := Option.some.inj e
    subst e'
    obtain ⟨v, rfl, r⟩ := r1.one
    cases r
    exact call_int1 pins s σ H _ us Q I rv (.inr ⟨_, rfl, fin.here S (.int _)⟩)
  · split at e
    · obtain ⟨n, h1, h2⟩ := map_some e
      subst h2
      obtain ⟨v, rfl, r⟩ := r1.one
      cases r
      exact call_int_str pins s σ H _ us Q I rv ⟨_, n, rfl, h1, by assumption, fin.here S (.int _)⟩
    · cases e
  · cases e
mutual
theorem shw_le {X : Cx} {pins : List (Addr × Obj)} {σ : St} {H : Hp} {s : Shared} {O m : List Addr} (I : L2.Inv X pins σ H s) : ∀ (n : Nat) {x : MV} {v : V} {u : Value} {L : Nat}, RepV X.K (gr O m H) m v x → RelV v u → shw n x = some L → ∀ P w, RepLe P w s.heap n u L
  | 0, x, v, u, L, r, rv, e => by cases e
  | n + 1, x, v, u, L, r, rv, e => by
    intro P w
    unfold shw at e
    cases r with
    | int i =>
      obtain ⟨t, rfl⟩ := rv
      obtain ⟨h, rfl⟩ := ite_some e
      exact repLe_int h
    | str z =>
      obtain ⟨t, rfl⟩ := rv
      obtain rfl := Option.some.inj e
      exact repLe_str
    | @tup a vs xs hq r3 =>
      obtain ⟨Ls, q, rfl⟩ := map_some e
      obtain rfl : u = Value.ref a := rv
      obtain ⟨its, r4, ⟨o, h1, h2, k, h3⟩, _⟩ := I.tuple (.inl (.inl (hide_same _ _ hq)))
      exact repLe_tup h1 h2 h3 (shwL_le I n r3 (by simpa using r4) q P w)
    | _ => cases e
theorem shwL_le {X : Cx} {pins : List (Addr × Obj)} {σ : St} {H : Hp} {s : Shared} {O m : List Addr} (I : L2.Inv X pins σ H s) : ∀ (n : Nat) {xs : List MV} {vs : List V} {us : List Value} {Ls : List Nat}, RepL X.K (gr O m H) m vs xs → Vals vs us → mapO (shw n) xs = some Ls → ∀ P w, RepAllLe P w s.heap n us Ls
  | n, [], vs, us, Ls, r, rv, e => by
    intro P w
    cases r
    cases rv
    obtain rfl := Option.some.inj e
    exact .nil
  | n, x :: xs, vs, us, Ls, r, rv, e => by
    intro P w
    cases r with
    | cons r1 r2 =>
      cases rv with
      | cons v1 v2 =>
        unfold mapO at e
        cases q1 : shw n x with
        | none => rw [q1] at e; cases e
        | some y1 =>
          cases q2 : mapO (shw n) xs with
          | none => rw [q1, q2] at e; cases e
          | some ys =>
            rw [q1, q2] at e
            obtain rfl := Option.some.inj e
            exact .cons (shw_le I n r1 v1 q1 P w) (shwL_le I n r2 v2 q2 P w)
end
theorem call_strM (hu : X.A.units + 64 < cLine) : CallR X (.type "str") (rVL X.K (bltV .str)) := by
  intro pins s σ H vs us Q I rv ⟨O, m, M, xs, z, S, r1, e, fin⟩
  replace e : biStr xs = some z := e
  unfold biStr at e
  split at e
  · obtain ⟨hz, e'⟩ := ite_some e
    subst e'
    obtain ⟨v, rfl, r⟩ := r1.one
    cases r
    exact call_str_int pins s σ H _ us Q I rv ⟨_, rfl, hz, fin.here S (.str _)⟩
  · have e' := Option.some.inj e
    subst e'
    obtain ⟨v, rfl, r⟩ := r1.one
    cases r
    exact SkE.call_str_str pins s σ H _ us Q I rv ⟨_, rfl, fin.here S (.str _)⟩
  · obtain ⟨v, rfl, r⟩ := r1.one
    split at e
    · rename_i Ls q
      obtain ⟨hz, e'⟩ := ite_some e
      subst e'
      obtain ⟨a, vs, rfl, hq, r3⟩ := tup_of r
      obtain ⟨u, rfl, rx⟩ := vals1 rv
      obtain rfl : u = Value.ref a := rx
      obtain ⟨its, r4, ⟨o, h1, h2, n, h3⟩, _⟩ := I.tuple hq
      refine strLe_tup (d := 16) (by omega) h1 h2 h3 (fun P w => shwL_le I 16 r3 (by simpa using r4) q P w) hz fun t u tk ht => ?_
      exact ⟨.str t, H, I.tok tk, ⟨u, rfl⟩, fin.here S (.txt ht)⟩
    · cases e
  · cases e
theorem call_maxM (hc : X.calm = true) : CallR X (.builtin "max") (rVL X.K (bltV .max)) := by
  intro pins s σ H vs us Q I rv ⟨O, m, M, xs, z, S, r1, e, fin⟩
  replace e : biMax xs = some z := e
  unfold biMax at e
  split at e
  · have e' := Option.some.inj e
    subst e'
    obtain ⟨v, w, rfl, r, r'⟩ := r1.two
    cases r; cases r'
    exact call_max2 hc pins s σ H _ us Q I rv ⟨_, _, rfl, fin.here S (.int _)⟩
  · cases e
theorem call_minM (hc : X.calm = true) : CallR X (.builtin "min") (rVL X.K (bltV .min)) := by
  intro pins s σ H vs us Q I rv ⟨O, m, M, xs, z, S, r1, e, fin⟩
  replace e : biMin xs = some z := e
  unfold biMin at e
  split at e
  · have e' := Option.some.inj e
    subst e'
    obtain ⟨v, w, rfl, r, r'⟩ := r1.two
    cases r; cases r'
    exact call_min2 hc pins s σ H _ us Q I rv ⟨_, _, rfl, fin.here S (.int _)⟩
  · cases e
theorem call_tupleM : CallR X (.type "tuple") (rVL X.K (bltV .tuple)) := by
  intro pins s σ H vs us Q I rv ⟨O, m, M, xs, z, S, r1, e, fin⟩
  replace e : biTup M xs = some z := e
  unfold biTup at e
  split at e
  · have e' := Option.some.inj e
    subst e'
    obtain ⟨v, rfl, r⟩ := r1.one
    obtain ⟨a, ws, rfl, ha, la⟩ := tup_of r
    exact call_tuple_of pins s σ H _ us Q I rv ⟨a, ws, rfl, .inr ⟨ha, fin.here S r⟩⟩
  · obtain ⟨ys, h1, h2⟩ := map_some e
    subst h2
    obtain ⟨v, rfl, r⟩ := r1.one
    obtain ⟨a, ws, rfl, ha, la⟩ := asL_of S r h1
    exact call_tuple_of pins s σ H _ us Q I rv ⟨a, ws, rfl, .inl ⟨SqL.of ha, fun l hl => fin.tup S hl la⟩⟩
  · cases e
theorem call_listM : CallR X (.type "list") (rVL X.K (bltV .list)) := by
  intro pins s σ H vs us Q I rv ⟨O, m, M, xs, z, S, r1, e, fin⟩
  replace e : biLst M xs = some z := e
  unfold biLst at e
  split at e
  · have e' := Option.some.inj e
    subst e'
    obtain ⟨v, rfl, r⟩ := r1.one
    obtain ⟨a, ws, rfl, ha, la⟩ := tup_of r
    exact call_list_of pins s σ H _ us Q I rv ⟨a, ws, rfl, .inr ha, fun l hl => fin.lst S hl la⟩
  · obtain ⟨ys, h1, h2⟩ := map_some e
    subst h2
    obtain ⟨v, rfl, r⟩ := r1.one
    obtain ⟨a, ws, rfl, ha, la⟩ := asL_of S r h1
    exact call_list_of pins s σ H _ us Q I rv ⟨a, ws, rfl, .inl (SqL.of ha), fun l hl => fin.lst S hl la⟩
  · cases e
/-! ### isinstance -/
theorem ty_rep {K : PySem.W.Frag} {O m : List Addr} {M : Mem} {H : Hp} {v : V} {x : MV} {t : String} (S : Sim K O m M H) (r : RepV K (gr O m H) m v x) (e : tyV2 M x = some t) : TyX K H v (.type t) := by
  cases x with
  | non => cases r; cases e; exact .base .non
  | bl b => cases r; cases e; exact .base (.bl b)
  | int b => cases r; cases e; exact .base (.int b)
  | str b => cases r; cases e; exact .base (.str b)
  | tup xs =>
    cases e
    obtain ⟨a, vs, rfl, ha, la⟩ := tup_of r
    rcases ha with (h | ⟨o, h⟩) | ⟨o, its, n, h1, h2, _⟩
    · exact .base (.tup h)
    · exact .fTuple h
    · exact .kTuple h1 h2
  | lst xs =>
    cases e
    obtain ⟨a, vs, rfl, ha, la⟩ := asL_of S r (show asL M (.lst xs) = some xs from rfl)
    exact .base (.lst ha)
  | dck kvs =>
    cases e
    cases r with
    | dck h1 h2 => exact .base (.dK (hide_same _ _ h1))
  | ref n =>
    unfold tyV2 at e
    simp only at e
    cases q : M[n]? with
    | none => rw [q] at e; cases e
    | some c =>
      rw [q] at e
      cases c with
      | ins _ _ => cases e
      | dct _ => cases e
      | lst xs =>
        cases e
        obtain ⟨a, vs, rfl, ha, la⟩ := asL_of S r (show asL M (.ref n) = some xs by unfold asL; simp only [q])
        exact .base (.lst ha)
  | _ => cases e
end
end Mini

set_option Elab.async false
set_option linter.all false
set_option maxRecDepth 100000
set_option maxHeartbeats 1000000
/-! MiD: expressions: a term of the small interpreter, checked rule by rule against the text. -/
namespace Mini
open PySem L2

/-- the field of an error in which its value stands -/
def fo (c : Str) : Str := if c = "TooMany" then "most" else "told"
def PostE (K : PySem.W.Frag) (O m : List Addr) (H : Hp) (W : WX) (s : St) (Q : VK) : Res MV → Prop
  | .ok x M' => ∀ v m' H', Ext m H m' H' → Sim K O m' M' H' → RepV K (gr O m' H') m' v x → Q v H'
  | .exn c x M' => ∀ d v m' H', Ext m H m' H' → Sim K O m' M' H' → RepV K (gr O m' H') m' v x → H' d = some (.xd [(fo c, v)]) → W (.ref (He.ga K c)) (some d) s H'
  | .stuck => False
def PostL (K : PySem.W.Frag) (O m : List Addr) (H : Hp) (W : WX) (s : St) (Q : List V → Hp → Prop) : Res (List MV) → Prop
  | .ok x M' => ∀ v m' H', Ext m H m' H' → Sim K O m' M' H' → RepL K (gr O m' H') m' v x → Q v H'
  | .exn c x M' => ∀ d v m' H', Ext m H m' H' → Sim K O m' M' H' → RepV K (gr O m' H') m' v x → H' d = some (.xd [(fo c, v)]) → W (.ref (He.ga K c)) (some d) s H'
  | .stuck => False
/-- a result without a heap: a truth, an index -/
def PostB {α : Type} (K : PySem.W.Frag) (O m : List Addr) (H : Hp) (W : WX) (s : St) (Q : α → Hp → Prop) : Res α → Prop
  | .ok x M' => ∀ m' H', Ext m H m' H' → Sim K O m' M' H' → Q x H'
  | .exn c x M' => ∀ d v m' H', Ext m H m' H' → Sim K O m' M' H' → RepV K (gr O m' H') m' v x → H' d = some (.xd [(fo c, v)]) → W (.ref (He.ga K c)) (some d) s H'
  | .stuck => False
def tE (K : PySem.W.Frag) (W : WX) (g : Cfg) (c : CE) : TE := fun s H Q => ∃ O m M r, Sim K O m M H ∧ EnvR K (gr O m H) m s r ∧ PostE K O m H W s Q (evE g r c M)
def tA (K : PySem.W.Frag) (W : WX) (g : Cfg) (c : CL) : TA := fun s H Q => ∃ O m M r, Sim K O m M H ∧ EnvR K (gr O m H) m s r ∧ PostL K O m H W s Q (evL g r c M)
def tT (K : PySem.W.Frag) (W : WX) (g : Cfg) (c : CE) : TT := fun s H Q => ∃ O m M r, Sim K O m M H ∧ EnvR K (gr O m H) m s r ∧ PostB K O m H W s Q (bitV g r c M)
def tP (K : PySem.W.Frag) (W : WX) (g : Cfg) (c : CO) : TO := fun s H Q => ∃ O m M r, Sim K O m M H ∧ EnvR K (gr O m H) m s r ∧ PostB K O m H W s Q (evO g r c M)
section
variable {K : PySem.W.Frag} {O m m1 : List Addr} {H H1 : Hp} {W : WX} {s : St} {M : Mem}
theorem PostE.later {Q : VK} {R : Res MV} (h : PostE K O m H W s Q R) (e : Ext m H m1 H1) : PostE K O m1 H1 W s Q R := by
  cases R with
  | ok x M' => exact fun v m' H' e' S' r' => h v m' H' (e.trans e') S' r'
  | exn c x M' => exact fun d v m' H' e' S' r' q => h d v m' H' (e.trans e') S' r' q
  | stuck => exact h
theorem PostL.later {Q : List V → Hp → Prop} {R : Res (List MV)} (h : PostL K O m H W s Q R) (e : Ext m H m1 H1) : PostL K O m1 H1 W s Q R := by
  cases R with
  | ok x M' => exact fun v m' H' e' S' r' => h v m' H' (e.trans e') S' r'
  | exn c x M' => exact fun d v m' H' e' S' r' q => h d v m' H' (e.trans e') S' r' q
  | stuck => exact h
theorem PostB.later {α : Type} {Q : α → Hp → Prop} {R : Res α} (h : PostB K O m H W s Q R) (e : Ext m H m1 H1) : PostB K O m1 H1 W s Q R := by
  cases R with
  | ok x M' => exact fun m' H' e' S' => h m' H' (e.trans e') S'
  | exn c x M' => exact fun d v m' H' e' S' r' q => h d v m' H' (e.trans e') S' r' q
  | stuck => exact h
/-- behind a first part: what is left -/
def Aft (K : PySem.W.Frag) (O m : List Addr) (H : Hp) (v : V) (H1 : Hp) (P : MV → List Addr → Mem → Prop) : Prop := ∃ x m1 M1, Ext m H m1 H1 ∧ Sim K O m1 M1 H1 ∧ RepV K (gr O m1 H1) m1 v x ∧ P x m1 M1
theorem PostE.bindE {Q : VK} {R : Res MV} {k : MV → Mem → Res MV} (h : PostE K O m H W s Q (R.bind k)) : PostE K O m H W s (fun v H1 => Aft K O m H v H1 fun x m1 M1 => PostE K O m1 H1 W s Q (k x M1)) R := by
  cases R with
  | ok x M' => exact fun v m' H' e' S' r' => ⟨x, m', M', e', S', r', PostE.later (R := k x M') h e'⟩
  | exn c x M' => exact h
  | stuck => exact h
theorem PostE.bindL {Q : VK} {R : Res (List MV)} {k : List MV → Mem → Res MV} (h : PostE K O m H W s Q (R.bind k)) : PostL K O m H W s (fun v H1 => ∃ x m1 M1, Ext m H m1 H1 ∧ Sim K O m1 M1 H1 ∧ RepL K (gr O m1 H1) m1 v x ∧ PostE K O m1 H1 W s Q (k x M1)) R := by
  cases R with
  | ok x M' => exact fun v m' H' e' S' r' => ⟨x, m', M', e', S', r', PostE.later (R := k x M') h e'⟩
  | exn c x M' => exact h
  | stuck => exact h
theorem PostL.bindE {Q : List V → Hp → Prop} {R : Res MV} {k : MV → Mem → Res (List MV)} (h : PostL K O m H W s Q (R.bind k)) : PostE K O m H W s (fun v H1 => Aft K O m H v H1 fun x m1 M1 => PostL K O m1 H1 W s Q (k x M1)) R := by
  cases R with
  | ok x M' => exact fun v m' H' e' S' r' => ⟨x, m', M', e', S', r', PostL.later (R := k x M') h e'⟩
  | exn c x M' => exact h
  | stuck => exact h
theorem PostL.bindL {Q : List V → Hp → Prop} {R : Res (List MV)} {k : List MV → Mem → Res (List MV)} (h : PostL K O m H W s Q (R.bind k)) : PostL K O m H W s (fun v H1 => ∃ x m1 M1, Ext m H m1 H1 ∧ Sim K O m1 M1 H1 ∧ RepL K (gr O m1 H1) m1 v x ∧ PostL K O m1 H1 W s Q (k x M1)) R := by
  cases R with
  | ok x M' => exact fun v m' H' e' S' r' => ⟨x, m', M', e', S', r', PostL.later (R := k x M') h e'⟩
  | exn c x M' => exact h
  | stuck => exact h
theorem PostB.bindE {α : Type} {Q : α → Hp → Prop} {R : Res MV} {k : MV → Mem → Res α} (h : PostB K O m H W s Q (R.bind k)) : PostE K O m H W s (fun v H1 => Aft K O m H v H1 fun x m1 M1 => PostB K O m1 H1 W s Q (k x M1)) R := by
  cases R with
  | ok x M' => exact fun v m' H' e' S' r' => ⟨x, m', M', e', S', r', PostB.later (R := k x M') h e'⟩
  | exn c x M' => exact h
  | stuck => exact h
theorem PostE.bindB {α : Type} {Q : VK} {R : Res α} {k : α → Mem → Res MV} (h : PostE K O m H W s Q (R.bind k)) : PostB K O m H W s (fun x H1 => ∃ m1 M1, Ext m H m1 H1 ∧ Sim K O m1 M1 H1 ∧ PostE K O m1 H1 W s Q (k x M1)) R := by
  cases R with
  | ok x M' => exact fun m' H' e' S' => ⟨m', M', e', S', PostE.later (R := k x M') h e'⟩
  | exn c x M' => exact h
  | stuck => exact h
theorem PostE.imp {Q Q' : VK} {R : Res MV} (h : PostE K O m H W s Q R) (i : ∀ v H', Q v H' → Q' v H') : PostE K O m H W s Q' R := by
  cases R with
  | ok x M' => exact fun v m' H' e' S' r' => i _ _ (h v m' H' e' S' r')
  | exn c x M' => exact h
  | stuck => exact h
theorem PostL.imp {Q Q' : List V → Hp → Prop} {R : Res (List MV)} (h : PostL K O m H W s Q R) (i : ∀ v H', Q v H' → Q' v H') : PostL K O m H W s Q' R := by
  cases R with
  | ok x M' => exact fun v m' H' e' S' r' => i _ _ (h v m' H' e' S' r')
  | exn c x M' => exact h
  | stuck => exact h
theorem PostB.imp {α : Type} {Q Q' : α → Hp → Prop} {R : Res α} (h : PostB K O m H W s Q R) (i : ∀ v H', Q v H' → Q' v H') : PostB K O m H W s Q' R := by
  cases R with
  | ok x M' => exact fun m' H' e' S' => i _ _ (h m' H' e' S')
  | exn c x M' => exact h
  | stuck => exact h
/-- a plain operation's end -/
theorem PostE.opt {Q : VK} {o : Option MV} (h : PostE K O m H W s Q (.opt o M)) : ∃ z, o = some z ∧ Fin K O m M H z Q := by
  cases o with
  | none => exact h.elim
  | some z => exact ⟨z, rfl, fun u H' e' S' r' => h u m H' e' S' r'⟩
theorem PostB.opt {α : Type} {Q : α → Hp → Prop} {o : Option α} (h : PostB K O m H W s Q (.opt o M)) (S : Sim K O m M H) : ∃ z, o = some z ∧ Q z H := by
  cases o with
  | none => exact h.elim
  | some z => exact ⟨z, rfl, h m H Ext.refl S⟩
end
theorem PE_imp {X : Cx} {e : Expr} {t t' : TE} (h : PE X e t) (i : ∀ s H Q, t' s H Q → t s H Q) : PE X e t' := ⟨fun pins s σ H Q I q => h.run pins s σ H Q I (i _ _ _ q)⟩
theorem PT_imp {X : Cx} {e : Expr} {t t' : TT} (h : PT X e t) (i : ∀ s H Q, t' s H Q → t s H Q) : PT X e t' := ⟨fun pins s σ H Q I q => h.run pins s σ H Q I (i _ _ _ q)⟩
theorem PA_imp {X : Cx} {e : List Expr} {t t' : TA} (h : PA X e t) (i : ∀ s H Q, t' s H Q → t s H Q) : PA X e t' := ⟨fun pos pins s σ H Q I q => h.run pos pins s σ H Q I (i _ _ _ q)⟩

/-! ### rules -/
section
variable {X : Cx} {W : WX} {g : Cfg} {a b c e : Expr} {es : List Expr} {ca cb cc ce : CE} {cs : CL} {pos : Pos}
abbrev ME (X : Cx) (W : WX) (g : Cfg) (e : Expr) (c : CE) : Prop := PE X e (tE X.K W g c)
abbrev MT (X : Cx) (W : WX) (g : Cfg) (e : Expr) (c : CE) : Prop := PT X e (tT X.K W g c)
abbrev MA (X : Cx) (W : WX) (g : Cfg) (es : List Expr) (c : CL) : Prop := PA X es (tA X.K W g c)
theorem m_int {i j} : ME X W g (.Constant (.int i) j pos) (.con (.int i)) := PE_imp pe_int fun s H Q ⟨O, m, M, r, S, R, h⟩ => h _ m H Ext.refl S (.int i)
theorem m_bl {i j} : ME X W g (.Constant (.bool i) j pos) (.con (.bl i)) := PE_imp pe_bl fun s H Q ⟨O, m, M, r, S, R, h⟩ => h _ m H Ext.refl S (.bl i)
theorem m_str {i j} : ME X W g (.Constant (.str i) j pos) (.con (.str i)) := PE_imp pe_str fun s H Q ⟨O, m, M, r, S, R, h⟩ => h _ m H Ext.refl S (.str i)
theorem m_non {j} : ME X W g (.Constant .none j pos) (.con .non) := PE_imp pe_non fun s H Q ⟨O, m, M, r, S, R, h⟩ => h _ m H Ext.refl S .non
theorem m_var (i : Nat) {x : Str} (hN : X.N[i]? = some x := by rfl) (hv : Vis X.env.scope x := by first | exact Or.inl rfl | exact Or.inr (Or.inl rfl) | exact Or.inr (Or.inr rfl)) (hd : (x == ("__debug__" : Str)) = false := by decide)
    (hcd : (x == ("__classdict__" : Str)) = false := by decide) : ME X W g (.Name x pos) (.var i) := PE_imp (pe_var hN hv hd hcd) fun s H Q ⟨O, m, M, r, S, R, h⟩ => by
  simp only [evE] at h
  cases q : r[i]? with
  | none => rw [q] at h; exact h.elim
  | some o =>
    rw [q] at h
    cases o with
    | none => exact h.elim
    | some x =>
      obtain ⟨v, h1, h2⟩ := R.2 i x q
      exact ⟨v, h1, h v m H Ext.refl S h2⟩
/-- a module's constant -/
def GlOk (K : PySem.W.Frag) (mg : Str → Option Value) (gl : Str → Option MV) : Prop := ∀ x z, gl x = some z → ∃ v u, mg x = some u ∧ RelV v u ∧ ∀ G m, RepV K G m v z
theorem m_glb {x : Str} (hG : GlOk X.K X.mg g.glob) (hs : (g.glob x).isSome = true) (hg : Gl X x) (hd : (x == ("__debug__" : Str)) = false := by decide) : ME X W g (.Name x pos) (.glb x) := by
  obtain ⟨z, hz⟩ := Option.isSome_iff_exists.mp hs
  obtain ⟨v, u, h1, h2, h3⟩ := hG x z hz
  refine PE_imp (pe_glob hg h1 h2 hd) fun s H Q ⟨O, m, M, r, S, R, h⟩ => ?_
  simp only [evE, hz] at h
  exact h v m H Ext.refl S (h3 _ _)
/-- two parts, then an operation on their values -/
theorem two {O m : List Addr} {M : Mem} {r : Rho} {H : Hp} {s : St} {Q : VK} {f : Mem → MV → MV → Option MV} (S : Sim X.K O m M H) (R : EnvR X.K (gr O m H) m s r)
    (h : PostE X.K O m H W s Q ((evE g r ca M).bind fun x M1 => (evE g r cb M1).bind fun y M2 => .opt (f M2 x y) M2)) : tE X.K W g ca s H fun v H1 => tE X.K W g cb s H1 fun w H2 => rV2 X.K f v w H2 Q := by
  refine ⟨O, m, M, r, S, R, h.bindE.imp fun v H1 ⟨x, m1, M1, e1, S1, r1, h1⟩ => ⟨O, m1, M1, r, S1, R.ext e1, h1.bindE.imp fun w H2 ⟨y, m2, M2, e2, S2, r2, h2⟩ => ?_⟩⟩
  obtain ⟨z, hz, fin⟩ := h2.opt
  exact ⟨O, m2, M2, x, y, z, S2, r1.ext e2, r2, hz, fin⟩
theorem m_bin {op : Operator} (ha : ME X W g a ca) (hb : ME X W g b cb) : ME X W g (.BinOp a op b pos) (.bin op ca cb) :=
  PE_imp (pe_op (op_binM op) ha hb) fun s H Q ⟨O, m, M, r, S, R, h⟩ => two S R (by simp only [evE] at h; exact h)
theorem m_cmp {op : CmpOp} (hu : X.A.units + 64 < cLine) (ha : ME X W g a ca) (hb : ME X W g b cb) (hm : behindInMarks op b = false) : ME X W g (.Compare a [op] [b] pos) (.cmp op ca cb) :=
  PE_imp (pe_cmpR (op_cmpM hu op) ha hb hm) fun s H Q ⟨O, m, M, r, S, R, h⟩ => two S R (by simp only [evE] at h; exact h)
theorem m_idx (hk : KdOk X.K X.w g.kd) (ha : ME X W g a ca) (hb : ME X W g b cb) (hs : PlainIx b) : ME X W g (.Subscript a b pos) (.idx ca cb) :=
  PE_imp (pe_ix (ix_M hk) ha hb hs) fun s H Q ⟨O, m, M, r, S, R, h⟩ => two S R (by simp only [evE] at h; exact h)
theorem un_negM : UnR X (unaryOp .USub) (rV1 X.K fun _ x => match x with | .int i => some (.int (-i)) | _ => none) := by
  intro pins s σ H v vv Q I rv ⟨O, m, M, x, z, S, r1, e, fin⟩
  simp only at e
  split at e
  · have e' := Option.some.inj e
    subst e'
    cases r1
    exact un_neg pins s σ H _ vv Q I rv ⟨_, rfl, fin.here S (.int _)⟩
  · cases e
theorem m_neg (ha : ME X W g a ca) : ME X W g (.UnaryOp .USub a pos) (.neg ca) := PE_imp (pe_un un_negM ha) fun s H Q ⟨O, m, M, r, S, R, h⟩ => by
  simp only [evE] at h
  refine ⟨O, m, M, r, S, R, h.bindE.imp fun v H1 ⟨x, m1, M1, e1, S1, r1, h1⟩ => ?_⟩
  cases x with
  | int i => exact ⟨O, m1, M1, _, _, S1, r1, rfl, fun u H' e' S' r' => h1 u m1 H' e' S' r'⟩
  | _ => exact h1.elim
/-! ### truth -/
theorem tru_rep {K : PySem.W.Frag} {O m : List Addr} {M : Mem} {H : Hp} {v : V} {x : MV} {k : Bool} (S : Sim K O m M H) (r : RepV K (gr O m H) m v x) (e : truth M x = some k) : TruV K v H k := by
  cases x with
  | non => cases r; exact (Option.some.inj e).symm
  | bl b => cases r; exact (Option.some.inj e).symm
  | int b => cases r; exact (Option.some.inj e).symm
  | str b => cases r; obtain ⟨h1, h2⟩ := ite_some e; exact ⟨h1, h2.symm⟩
  | tup xs =>
    obtain ⟨a, vs, rfl, ha, la⟩ := tup_of r
    refine .inr (.inl ⟨vs, ha, ?_⟩)
    rw [← Option.some.inj e]
    cases la <;> rfl
  | lst xs =>
    obtain ⟨a, vs, rfl, ha, la⟩ := asL_of S r (show asL M (.lst xs) = some xs from rfl)
    refine .inl ⟨vs, SqL.of ha, ?_⟩
    rw [← Option.some.inj e]
    cases la <;> rfl
  | ref n =>
    unfold truth at e
    simp only at e
    cases q : M[n]? with
    | none => rw [q] at e; cases e
    | some c =>
      rw [q] at e
      cases c with
      | ins _ _ => cases e
      | dct _ => cases e
      | lst xs =>
        obtain ⟨a, vs, rfl, ha, la⟩ := asL_of S r (show asL M (.ref n) = some xs by unfold asL; simp only [q])
        refine .inl ⟨vs, SqL.of ha, ?_⟩
        rw [← Option.some.inj e]
        cases la <;> rfl
  | _ => cases e
/-- an expression as a test, where its node has no test of its own -/
theorem t_of (ha : ME X W g a ca) (he : ∀ whole, isTrue a X.env whole = (do let v ← whole; standAt a.pos; holding [v] (truthy v)) := by intro _; rfl) : MT X W g a ca := PT_imp (pt_truth ha he) fun s H Q ⟨O, m, M, r, S, R, h⟩ => by
  refine ⟨O, m, M, r, S, R, (PostB.bindE h).imp fun v H1 ⟨x, m1, M1, e1, S1, r1, h1⟩ => ?_⟩
  obtain ⟨k, hk, q⟩ := h1.opt S1
  exact ⟨k, tru_rep S1 r1 hk, q⟩
end
end Mini

set_option Elab.async false
set_option linter.all false
set_option maxRecDepth 100000
set_option maxHeartbeats 1000000
/-! MiE: expressions, further. -/
namespace Mini
open PySem L2
theorem Res.assoc {α β γ : Type} (R : Res α) (f : α → Mem → Res β) (k : β → Mem → Res γ) : (R.bind f).bind k = R.bind fun x M => (f x M).bind k := by
  cases R <;> rfl
section
variable {X : Cx} {W : WX} {g : Cfg} {a b c e o : Expr} {es rest : List Expr} {ca cb cc ce co : CE} {cs : CL} {pos : Pos}
/-! ### and, or, not -/
theorem m_not (ha : ME X W g a ca) : ME X W g (.UnaryOp .Not a pos) (.not ca) := PE_imp (pe_notT ha) fun s H Q ⟨O, m, M, r, S, R, h⟩ => by
  simp only [evE] at h
  refine ⟨O, m, M, r, S, R, h.bindE.imp fun v H1 ⟨x, m1, M1, e1, S1, r1, h1⟩ => ?_⟩
  obtain ⟨z, hz, fin⟩ := h1.opt
  obtain ⟨k, hk, ez⟩ := map_some hz
  subst ez
  exact ⟨k, tru_rep S1 r1 hk, fin.here S1 (.bl _)⟩
theorem m_one {op} (ha : ME X W g a ca) : ME X W g (.BoolOp op [a] pos) ca := pe_one ha
theorem m_and (ha : ME X W g a ca) (hb : ME X W g (.BoolOp .And (b :: rest) pos) cb) : ME X W g (.BoolOp .And (a :: b :: rest) pos) (.and ca cb) := PE_imp (pe_andT ha hb) fun s H Q ⟨O, m, M, r, S, R, h⟩ => by
  simp only [evE] at h
  refine ⟨O, m, M, r, S, R, h.bindE.imp fun v H1 ⟨x, m1, M1, e1, S1, r1, h1⟩ => ?_⟩
  dsimp only at h1
  cases q : truth M1 x with
  | none => rw [q] at h1; exact h1.elim
  | some k =>
    rw [q] at h1
    refine ⟨k, tru_rep S1 r1 q, ?_⟩
    cases k with
    | true => exact ⟨O, m1, M1, r, S1, R.ext e1, h1⟩
    | false => exact h1 v m1 H1 Ext.refl S1 r1
theorem m_or (ha : ME X W g a ca) (hb : ME X W g (.BoolOp .Or (b :: rest) pos) cb) : ME X W g (.BoolOp .Or (a :: b :: rest) pos) (.or ca cb) := PE_imp (pe_orT ha hb) fun s H Q ⟨O, m, M, r, S, R, h⟩ => by
  simp only [evE] at h
  refine ⟨O, m, M, r, S, R, h.bindE.imp fun v H1 ⟨x, m1, M1, e1, S1, r1, h1⟩ => ?_⟩
  dsimp only at h1
  cases q : truth M1 x with
  | none => rw [q] at h1; exact h1.elim
  | some k =>
    rw [q] at h1
    refine ⟨k, tru_rep S1 r1 q, ?_⟩
    cases k with
    | true => exact h1 v m1 H1 Ext.refl S1 r1
    | false => exact ⟨O, m1, M1, r, S1, R.ext e1, h1⟩
/-! ### tests -/
theorem bit_ok {r : Rho} {M : Mem} : bitV g r ca M = (evE g r ca M).bind fun x M1 => .opt (truth M1 x) M1 := rfl
theorem t_not (ha : MT X W g a ca) : MT X W g (.UnaryOp .Not a pos) (.not ca) := PT_imp (pt_not ha) fun s H Q ⟨O, m, M, r, S, R, h⟩ => by
  refine ⟨O, m, M, r, S, R, ?_⟩
  rw [bit_ok] at h ⊢
  simp only [evE] at h
  rw [Res.assoc] at h
  cases q : evE g r ca M with
  | stuck => rw [q] at h; exact h.elim
  | exn d y M1 => rw [q] at h; exact h
  | ok x M1 =>
    rw [q] at h
    simp only [Res.bind_ok] at h ⊢
    cases q2 : truth M1 x with
    | none => rw [q2] at h; exact h.elim
    | some k =>
      rw [q2] at h
      exact h
theorem t_and1 (ha : MT X W g a ca) : PW X (.BoolOp .And [a] pos) (tT X.K W g ca) := pw_and1 ha
theorem t_or1 (ha : MT X W g a ca) : PW X (.BoolOp .Or [a] pos) (tT X.K W g ca) := pw_or1 ha
theorem PW_imp {X : Cx} {e : Expr} {t t' : TT} (h : PW X e t) (i : ∀ s H Q, t' s H Q → t s H Q) : PW X e t' := ⟨fun wh pins s σ H Q I q => h.run wh pins s σ H Q I (i _ _ _ q)⟩
theorem t_and (ha : MT X W g a ca) (hb : PW X (.BoolOp .And (b :: rest) pos) (tT X.K W g cb)) : PW X (.BoolOp .And (a :: b :: rest) pos) (tT X.K W g (.and ca cb)) := PW_imp (pw_and ha hb) fun s H Q ⟨O, m, M, r, S, R, h⟩ => by
  refine ⟨O, m, M, r, S, R, ?_⟩
  rw [bit_ok] at h ⊢
  simp only [evE] at h
  rw [Res.assoc] at h
  cases q : evE g r ca M with
  | stuck => rw [q] at h; exact h.elim
  | exn d y M1 => rw [q] at h; exact h
  | ok x M1 =>
    rw [q] at h
    simp only [Res.bind_ok] at h ⊢
    cases q2 : truth M1 x with
    | none => rw [q2] at h; exact h.elim
    | some k =>
      rw [q2] at h
      intro m1 H1 e1 S1
      cases k with
      | true => exact ⟨O, m1, M1, r, S1, R.ext e1, PostB.later (R := bitV g r cb M1) h e1⟩
      | false =>
        have h' : PostB X.K O m H W s Q (.opt (truth M1 x) M1) := h
        rw [q2] at h'
        exact h' m1 H1 e1 S1
theorem t_or (ha : MT X W g a ca) (hb : PW X (.BoolOp .Or (b :: rest) pos) (tT X.K W g cb)) : PW X (.BoolOp .Or (a :: b :: rest) pos) (tT X.K W g (.or ca cb)) := PW_imp (pw_or ha hb) fun s H Q ⟨O, m, M, r, S, R, h⟩ => by
  refine ⟨O, m, M, r, S, R, ?_⟩
  rw [bit_ok] at h ⊢
  simp only [evE] at h
  rw [Res.assoc] at h
  cases q : evE g r ca M with
  | stuck => rw [q] at h; exact h.elim
  | exn d y M1 => rw [q] at h; exact h
  | ok x M1 =>
    rw [q] at h
    simp only [Res.bind_ok] at h ⊢
    cases q2 : truth M1 x with
    | none => rw [q2] at h; exact h.elim
    | some k =>
      rw [q2] at h
      intro m1 H1 e1 S1
      cases k with
      | true =>
        have h' : PostB X.K O m H W s Q (.opt (truth M1 x) M1) := h
        rw [q2] at h'
        exact h' m1 H1 e1 S1
      | false => exact ⟨O, m1, M1, r, S1, R.ext e1, PostB.later (R := bitV g r cb M1) h e1⟩
theorem twoT {O m : List Addr} {M : Mem} {r : Rho} {H : Hp} {s : St} {Q : Bool → Hp → Prop} {op : CmpOp} (S : Sim X.K O m M H) (R : EnvR X.K (gr O m H) m s r) (h : PostB X.K O m H W s Q (bitV g r (.cmp op ca cb) M)) :
    tE X.K W g ca s H fun v H1 => tE X.K W g cb s H1 fun w H2 => rV2 X.K (fun M x y => (cmpV op M x y).map .bl) v w H2 fun z H3 => ∃ k, z = .bl k ∧ Q k H3 := by
  rw [bit_ok] at h
  simp only [evE] at h
  rw [Res.assoc] at h
  refine ⟨O, m, M, r, S, R, h.bindE.imp fun v H1 ⟨x, m1, M1, e1, S1, r1, h1⟩ => ?_⟩
  simp only at h1
  rw [Res.assoc] at h1
  refine ⟨O, m1, M1, r, S1, R.ext e1, h1.bindE.imp fun w H2 ⟨y, m2, M2, e2, S2, r2, h2⟩ => ?_⟩
  dsimp only at h2
  cases q : cmpV op M2 x y with
  | none => rw [q] at h2; exact h2.elim
  | some k =>
    rw [q] at h2
    refine ⟨O, m2, M2, x, y, .bl k, S2, r1.ext e2, r2, by simp only [q]; rfl, fun u H' e' S' r' => ?_⟩
    cases r'
    exact ⟨k, rfl, h2 m2 H' e' S'⟩
theorem t_cmp {op : CmpOp} (hu : X.A.units + 64 < cLine) (ha : ME X W g a ca) (hb : ME X W g b cb) (hm : behindInMarks op b = false) : MT X W g (.Compare a [op] [b] pos) (.cmp op ca cb) :=
  PT_imp (pt_cmpR (op_cmpM hu op) ha hb hm) fun s H Q ⟨O, m, M, r, S, R, h⟩ => twoT S R h
/-! ### chains -/
theorem chn_of {O m : List Addr} {M : Mem} {r : Rho} {H : Hp} {s : St} {Q : VK} {op op' : CmpOp} (S : Sim X.K O m M H) (R : EnvR X.K (gr O m H) m s r) (h : PostE X.K O m H W s Q (evE g r (.chn op op' ca cb cc) M)) :
    tChain (rV2 X.K fun M x y => (cmpV op M x y).map .bl) (rV2 X.K fun M x y => (cmpV op' M x y).map .bl) (tE X.K W g ca) (tE X.K W g cb) (tE X.K W g cc) s H Q := by
  simp only [evE] at h
  refine ⟨O, m, M, r, S, R, h.bindE.imp fun v H1 ⟨x, m1, M1, e1, S1, r1, h1⟩ => ⟨O, m1, M1, r, S1, R.ext e1, h1.bindE.imp fun w H2 ⟨y, m2, M2, e2, S2, r2, h2⟩ => ?_⟩⟩
  dsimp only at h2
  cases q : cmpV op M2 x y with
  | none => rw [q] at h2; exact h2.elim
  | some k =>
    rw [q] at h2
    refine ⟨O, m2, M2, x, y, .bl k, S2, r1.ext e2, r2, by simp only [q]; rfl, fun u H' e' S' r' => ?_⟩
    cases r'
    refine ⟨k, rfl, ?_⟩
    have R2 := (R.ext e1).ext e2
    cases k with
    | false => exact h2 _ m2 H' e' S' (.bl _)
    | true =>
      refine ⟨O, m2, M2, r, S', R2.ext e', (PostE.later h2 e').bindE.imp fun z H3 ⟨zz, m3, M3, e3, S3, r3, h3⟩ => ?_⟩
      obtain ⟨u, hz, fin⟩ := h3.opt
      exact ⟨O, m3, M3, y, zz, u, S3, (r2.ext e').ext e3, r3, hz, fin⟩
theorem m_chn {op op' : CmpOp} (hu : X.A.units + 64 < cLine) (ha : ME X W g a ca) (hb : ME X W g b cb) (hc : ME X W g c cc) (hm : lastMarks [op, op'] [b, c] = false := by with_unfolding_all rfl) : ME X W g (.Compare a [op, op'] [b, c] pos) (.chn op op' ca cb cc) :=
  PE_imp (pe_chain (op_cmpM hu op) (op_cmpM hu op') ha hb hc hm) fun s H Q ⟨O, m, M, r, S, R, h⟩ => chn_of S R h
/-- the value of a chain is a bool -/
theorem chn_bl {op op' : CmpOp} {r : Rho} {M M' : Mem} {x : MV} (h : evE g r (.chn op op' ca cb cc) M = .ok x M') : ∃ k, x = .bl k := by
  simp only [evE] at h
  cases q1 : evE g r ca M with
  | stuck => rw [q1] at h; cases h
  | exn d y M1 => rw [q1] at h; cases h
  | ok x1 M1 =>
    rw [q1] at h
    simp only [Res.bind_ok] at h
    cases q2 : evE g r cb M1 with
    | stuck => rw [q2] at h; cases h
    | exn d y M1 => rw [q2] at h; cases h
    | ok x2 M2 =>
      rw [q2] at h
      simp only [Res.bind_ok] at h
      cases q3 : cmpV op M2 x1 x2 with
      | none => rw [q3] at h; cases h
      | some k =>
        rw [q3] at h
        cases k with
        | false => cases h; exact ⟨_, rfl⟩
        | true =>
          simp only at h
          cases q4 : evE g r cc M2 with
          | stuck => rw [q4] at h; cases h
          | exn d y M1 => rw [q4] at h; cases h
          | ok x3 M3 =>
            rw [q4] at h
            simp only [Res.bind_ok] at h
            cases q5 : cmpV op' M3 x2 x3 with
            | none => rw [q5] at h; cases h
            | some k => rw [q5] at h; cases h; exact ⟨_, rfl⟩
theorem t_chn {op op' : CmpOp} (hu : X.A.units + 64 < cLine) (ha : ME X W g a ca) (hb : ME X W g b cb) (hc : ME X W g c cc) (hm : lastMarks [op, op'] [b, c] = false := by with_unfolding_all rfl) : MT X W g (.Compare a [op, op'] [b, c] pos) (.chn op op' ca cb cc) :=
  PT_imp (pt_chain (op_cmpM hu op) (op_cmpM hu op') ha hb hc hm) fun s H Q ⟨O, m, M, r, S, R, h⟩ => by
    refine chn_of S R ?_
    rw [bit_ok] at h
    cases q : evE g r (.chn op op' ca cb cc) M with
    | stuck => rw [q] at h; exact h.elim
    | exn d y M1 => rw [q] at h; exact h
    | ok x M1 =>
      obtain ⟨k, rfl⟩ := chn_bl q
      rw [q] at h
      intro v m' H' e' S' r'
      cases r'
      exact ⟨k, rfl, h m' H' e' S'⟩
theorem m_ife (hc : MT X W g c cc) (ha : ME X W g a ca) (hb : ME X W g b cb) : ME X W g (.IfExp c a b pos) (.ife cc ca cb) := PE_imp (pe_ifExp hc ha hb) fun s H Q ⟨O, m, M, r, S, R, h⟩ => by
  simp only [evE] at h
  refine ⟨O, m, M, r, S, R, ?_⟩
  rw [bit_ok]
  cases q : evE g r cc M with
  | stuck => rw [q] at h; exact h.elim
  | exn d y M1 => rw [q] at h; exact h
  | ok x M1 =>
    rw [q] at h
    simp only [Res.bind_ok] at h ⊢
    cases q2 : truth M1 x with
    | none => rw [q2] at h; exact h.elim
    | some k =>
      rw [q2] at h
      intro m1 H1 e1 S1
      cases k with
      | true => exact ⟨O, m1, M1, r, S1, R.ext e1, PostE.later (R := evE g r ca M1) h e1⟩
      | false => exact ⟨O, m1, M1, r, S1, R.ext e1, PostE.later (R := evE g r cb M1) h e1⟩
/-! ### argument lists, displays -/
theorem a_nil : MA X W g [] .nil := PA_imp pa_nil fun s H Q ⟨O, m, M, r, S, R, h⟩ => h [] m H Ext.refl S .nil
theorem a_cons (ha : ME X W g e ce) (hr : MA X W g es cs) (hs : starEach (e :: es) X.env = (false, eval e X.env) :: starEach es X.env := by rfl) : MA X W g (e :: es) (.cons ce cs) := PA_imp (pa_cons ha hr hs) fun s H Q ⟨O, m, M, r, S, R, h⟩ => by
  simp only [evL] at h
  refine ⟨O, m, M, r, S, R, h.bindE.imp fun v H1 ⟨x, m1, M1, e1, S1, r1, h1⟩ => ⟨O, m1, M1, r, S1, R.ext e1, h1.bindL.imp fun w H2 ⟨y, m2, M2, e2, S2, r2, h2⟩ => ?_⟩⟩
  exact h2 _ m2 H2 Ext.refl S2 (.cons (r1.ext e2) r2)
theorem a_star {p : Pos} (ha : ME X W g e ce) (hr : MA X W g es cs) (hs : starEach (.Starred e p :: es) X.env = (true, eval e X.env) :: starEach es X.env := by rfl) : MA X W g (.Starred e p :: es) (.star ce cs) := PA_imp (StX.pa_star ha hr hs) fun s H Q ⟨O, m, M, r, S, R, h⟩ => by
  simp only [evL] at h
  refine ⟨O, m, M, r, S, R, h.bindE.imp fun v H1 ⟨x, m1, M1, e1, S1, r1, h1⟩ => ?_⟩
  cases x with
  | tup ys =>
    obtain ⟨a, vs, rfl, ha, la⟩ := tup_of r1
    refine ⟨a, vs, rfl, .inl ha, O, m1, M1, r, S1, R.ext e1, h1.bindL.imp fun w H2 ⟨y, m2, M2, e2, S2, r2, h2⟩ => ?_⟩
    exact h2 _ m2 H2 Ext.refl S2 ((la.ext e2).append r2)
  | lst ys =>
    obtain ⟨a, vs, rfl, ha, la⟩ := asL_of S1 r1 (show asL M1 (.lst ys) = some ys from rfl)
    refine ⟨a, vs, rfl, .inr (SqL.of ha), O, m1, M1, r, S1, R.ext e1, h1.bindL.imp fun w H2 ⟨y, m2, M2, e2, S2, r2, h2⟩ => ?_⟩
    exact h2 _ m2 H2 Ext.refl S2 ((la.ext e2).append r2)
  | _ => exact h1.elim
theorem m_tup {k} (h : MA X W g es cs) : ME X W g (.Tuple es k pos) (.tup cs) := PE_imp (pe_tup h) fun s H Q ⟨O, m, M, r, S, R, h⟩ => by
  simp only [evE] at h
  refine ⟨O, m, M, r, S, R, h.bindL.imp fun v H1 ⟨x, m1, M1, e1, S1, r1, h1⟩ => ?_⟩
  split at h1
  · refine ⟨by rw [r1.len]; assumption, fun p hp => ?_⟩
    exact Fin.tup (fun u H' e' S' r' => h1 u m1 H' e' S' r') S1 hp r1
  · exact h1.elim
theorem m_lst (h : MA X W g es cs) : ME X W g (.List es pos) (.lst cs) := PE_imp (pe_lst h) fun s H Q ⟨O, m, M, r, S, R, h⟩ => by
  simp only [evE] at h
  refine ⟨O, m, M, r, S, R, h.bindL.imp fun v H1 ⟨x, m1, M1, e1, S1, r1, h1⟩ => ?_⟩
  split at h1
  · refine ⟨by rw [r1.len]; assumption, fun p hp => ?_⟩
    exact Fin.lst (fun u H' e' S' r' => h1 u m1 H' e' S' r') S1 hp r1
  · exact h1.elim
theorem m_nwl (h : MA X W g es cs) : ME X W g (.List es pos) (.nwl cs) := PE_imp (pe_lst h) fun s H Q ⟨O, m, M, r, S, R, h⟩ => by
  simp only [evE] at h
  refine ⟨O, m, M, r, S, R, h.bindL.imp fun v H1 ⟨x, m1, M1, e1, S1, r1, h1⟩ => ?_⟩
  split at h1
  · refine ⟨by rw [r1.len]; assumption, fun p hp => ?_⟩
    have e2 : Ext m1 H1 (m1 ++ [p]) (upd H1 p (.lst v)) := Ext.cell S1 hp
    refine h1 (.ref p) (m1 ++ [p]) _ e2 (S1.cell hp ⟨v, upd_same, r1.ext e2⟩) (.ref ?_)
    rw [← S1.len, List.getElem?_append_right (Nat.le_refl _), Nat.sub_self]
    rfl
  · exact h1.elim
/-! ### slices -/
abbrev MP (X : Cx) (W : WX) (g : Cfg) (e : Option Expr) (c : CO) : Prop := PO X e (tP X.K W g c)
theorem PO_imp {X : Cx} {e : Option Expr} {t t' : TO} (h : PO X e t) (i : ∀ s H Q, t' s H Q → t s H Q) : PO X e t' := ⟨fun pins s σ H Q I q => h.run pins s σ H Q I (i _ _ _ q)⟩
theorem m_ndd (ha : ME X W g a ca) (hb : ME X W g b cb) : ME X W g (.BinOp a .Add b pos) (.ndd ca cb) :=
  PE_imp (pe_op op_cat ha hb) fun s H Q ⟨O, m, M, r, S, R, h⟩ => by
    simp only [evE] at h
    refine ⟨O, m, M, r, S, R, h.bindE.imp fun v H1 ⟨x, m1, M1, e1, S1, r1, h1⟩ => ?_⟩
    refine ⟨O, m1, M1, r, S1, R.ext e1, (PostE.bindE h1).imp fun w H2 ⟨y, m2, M2, e2, S2, r2, h2⟩ => ?_⟩
    dsimp only at h2
    cases q1 : asL M2 x with
    | none => rw [q1] at h2; exact h2.elim
    | some xs =>
      cases q2 : asL M2 y with
      | none => rw [q1, q2] at h2; exact h2.elim
      | some ys =>
        rw [q1, q2] at h2
        dsimp only at h2
        split at h2
        · rename_i hz
          obtain ⟨a1, vs, rfl, ha1, la⟩ := asL_of S2 (r1.ext e2) q1
          obtain ⟨b1, ws, rfl, hb1, lb⟩ := asL_of S2 r2 q2
          refine ⟨a1, b1, vs, ws, rfl, rfl, ha1, hb1, by rw [la.len, lb.len]; exact hz, fun p hp => ?_⟩
          have e3 : Ext m2 H2 (m2 ++ [p]) (upd H2 p (.lst (vs ++ ws))) := Ext.cell S2 hp
          refine h2 (.ref p) (m2 ++ [p]) _ e3 (S2.cell hp ⟨_, upd_same, (la.append lb).ext e3⟩) (.ref ?_)
          rw [← S2.len, List.getElem?_append_right (Nat.le_refl _), Nat.sub_self]
          rfl
        · exact h2.elim
theorem p_none : MP X W g none .none := PO_imp po_none fun s H Q ⟨O, m, M, r, S, R, h⟩ => h m H Ext.refl S
theorem p_some (h : ME X W g e ce) : MP X W g (some e) (.some ce) := PO_imp (po_some h) fun s H Q ⟨O, m, M, r, S, R, h⟩ => by
  simp only [evO] at h
  refine ⟨O, m, M, r, S, R, (PostB.bindE h).imp fun v H1 ⟨x, m1, M1, e1, S1, r1, h1⟩ => ?_⟩
  cases x with
  | int i =>
    cases r1
    exact ⟨i, rfl, h1 m1 H1 Ext.refl S1⟩
  | _ => exact h1.elim
theorem m_slc {lo hi : Option Expr} {cl ch : CO} {p2 : Pos} (ha : ME X W g a ca) (hl : MP X W g lo cl) (hh : MP X W g hi ch) : ME X W g (.Subscript a (.Slice lo hi none p2) pos) (.slc ca cl ch) :=
  PE_imp (pe_slice sl_M ha hl hh) fun s H Q ⟨O, m, M, r, S, R, h⟩ => by
    simp only [evE] at h
    refine ⟨O, m, M, r, S, R, h.bindE.imp fun v H1 ⟨x, m1, M1, e1, S1, r1, h1⟩ => ⟨O, m1, M1, r, S1, R.ext e1, (PostE.bindB h1).imp fun l H2 ⟨m2, M2, e2, S2, h2⟩ => ⟨O, m2, M2, r, S2, (R.ext e1).ext e2, (PostE.bindB h2).imp fun u H3 ⟨m3, M3, e3, S3, h3⟩ => ?_⟩⟩⟩
    obtain ⟨z, hz, fin⟩ := h3.opt
    exact ⟨O, m3, M3, x, z, S3, (r1.ext e2).ext e3, hz, fin⟩
/-! ### attributes -/
theorem ins_of {K : PySem.W.Frag} {O m : List Addr} {M : Mem} {H : Hp} {v : V} {x : MV} {d : Str} {fs : List (Str × MV)} (S : Sim K O m M H) (r : RepV K (gr O m H) m v x) (e : insV M x = some (d, fs)) :
    ∃ a dx gs, v = .ref a ∧ H a = some (.ins (He.ga K d) dx gs) ∧ RepF K (gr O m H) m gs fs := by
  unfold insV at e
  cases x with
  | obj c ys =>
    have e' := Option.some.inj e
    cases e'
    cases r with
    | obj h1 h2 => exact ⟨_, _, _, rfl, hide_same _ _ h1, h2⟩
  | ref n =>
    simp only at e
    cases q : M[n]? with
    | none => rw [q] at e; cases e
    | some c =>
      rw [q] at e
      cases c with
      | lst _ => cases e
      | dct _ => cases e
      | ins c ys =>
        have e' := Option.some.inj e
        cases e'
        cases r with
        | ref h1 =>
          obtain ⟨a, h2, dx, gs, h3, h4⟩ := S.cel n _ q
          rw [h1] at h2
          cases h2
          exact ⟨_, dx, gs, rfl, h3, h4⟩
  | _ => cases e
/-- the classes of the text, by their fields -/
def ClOk (K : PySem.W.Frag) (cl : Str → Str → Bool) : Prop := ∀ c f, cl c f = true → Cls K (He.ga K c) ∧ NoAttr K (He.ga K c) f
theorem m_att {f : Str} (hC : ClOk X.K g.cl) (ha : ME X W g a ca) (hb : attributeBase a f X.env (eval a X.env) = eval a X.env := by rfl) : ME X W g (.Attribute a f pos) (.att ca f) := PE_imp (pe_fld ha hb) fun s H Q ⟨O, m, M, r, S, R, h⟩ => by
  simp only [evE] at h
  refine ⟨O, m, M, r, S, R, h.bindE.imp fun v H1 ⟨x, m1, M1, e1, S1, r1, h1⟩ => ?_⟩
  obtain ⟨z, hz, fin⟩ := h1.opt
  obtain ⟨⟨d, fs⟩, hi, hz⟩ := bind_some hz
  simp only at hz
  split at hz
  · rename_i hc
    obtain ⟨a, dx, gs, rfl, h2, h3⟩ := ins_of S1 r1 hi
    obtain ⟨u, h4, h5⟩ := h3.look hz
    obtain ⟨c1, c2⟩ := hC _ _ hc
    exact ⟨a, _, dx, gs, u, rfl, h2, c1, c2, h4, fin.here S1 h5⟩
  · cases hz
end
end Mini

set_option Elab.async false
set_option linter.all false
set_option maxRecDepth 100000
set_option maxHeartbeats 1000000
/-! MiF: calls of defs, methods, classes, built-ins; comprehensions. -/
namespace Mini
open PySem L2
/-- the promise of a def: what the small interpreter says -/
def spF (K : PySem.W.Frag) (call : FK → List MV → Mem → Res MV) (f : FK) : Sp := fun vs H Q E => ∃ O m M xs, Sim K O m M H ∧ RepL K (gr O m H) m vs xs ∧ PostE K O m H (fun c d _ H => E c d H) [] Q (call f xs M)
section
variable {X : Cx} {W : WX} {g : Cfg} {a b c e o : Expr} {es rest : List Expr} {ca cb cc ce co : CE} {cs : CL} {pos p apos : Pos} {k : Nat} {fa : Addr} {fd : FuncData} {ps : List Str} {f m : Str}
theorem PostE.wish {K : PySem.W.Frag} {O m : List Addr} {H : Hp} {s : St} {Q : VK} {R : Res MV} (h : PostE K O m H W s Q R) : PostE K O m H (fun c d _ H => W c d s H) [] Q R := by
  cases R with
  | ok x M' => exact h
  | exn c x M' => exact h
  | stuck => exact h
theorem m_cal (F : FnOk X.prog X.w X.K X.mg X.base (L2.CX X.prog X.w) k fa fd ps (spF X.K g.call (f, none))) (hr : Room k X.A) (tk : Takes X W) (hg : Gl X f) (hm : X.mg f = some (.ref fa)) (hk : PySem.W.keepIn X.K (.ref fa) = true) (hb : Binds X.K fd ps [])
    (ha : MA X W g (e :: es) cs) (hdb : (f == ("__debug__" : Str)) = false := by decide) (he : starEach (e :: es) X.env = (false, eval e X.env) :: starEach es X.env := by rfl) (hpl : (backTo pos (starEach es X.env)).any (·.1) = false := by rfl) :
    ME X W g (.Call (.Name f p) (e :: es) [] pos) (.cal f cs) := PE_imp (pe_callSD (E := fun σ => WE W σ) F hr hg hm hk hb .nil (fun σ => passAt tk σ) ha hdb he hpl) fun s H Q ⟨O, m, M, r, S, R, h⟩ => by
  simp only [evE] at h
  refine ⟨O, m, M, r, S, R, h.bindL.imp fun vs H1 ⟨xs, m1, M1, e1, S1, r1, h1⟩ => ?_⟩
  rw [List.append_nil]
  exact ⟨O, m1, M1, xs, S1, r1, h1.wish⟩
theorem m_cal0 (F : FnOk X.prog X.w X.K X.mg X.base (L2.CX X.prog X.w) k fa fd ps (spF X.K g.call (f, none))) (hr : Room k X.A) (tk : Takes X W) (hg : Gl X f) (hm : X.mg f = some (.ref fa)) (hk : PySem.W.keepIn X.K (.ref fa) = true) (hb : Binds X.K fd ps [])
    (hdb : (f == ("__debug__" : Str)) = false := by decide) : ME X W g (.Call (.Name f p) [] [] pos) (.cal f .nil) := by
  refine ⟨fun pins s σ H Q I h => ?_⟩
  obtain ⟨O, m, M, r, S, R, h⟩ := h
  simp only [evE, evL, Res.bind_ok] at h
  refine wpAny_Call_Name_kw (ld_glob I hg hm ?_ hdb)
  exact PySem.W.callWith_K0 I.kIn hk (run_fnSD (E := fun σ => WE W σ) (us := []) (vs := []) F hr hb .nil (passAt tk σ) I .nil ⟨O, m, M, [], S, .nil, h.wish⟩)
/-- the class and its method, as the text has them -/
structure MtOk (X : Cx) (g : Cfg) (k : Nat) (c m : Str) (fa : Addr) (fd : FuncData) (ps : List Str) : Prop where
  cls : Cls X.K (He.ga X.K c)
  meth : Meth X.K (He.ga X.K c) m fa
  ok : FnOk X.prog X.w X.K X.mg X.base (L2.CX X.prog X.w) k fa fd ps (spF X.K g.call (c, some m))
  bind : Binds X.K fd ps []
theorem m_mth {d : Str} {pl : Sem Bool} (T : MtOk X g k d m fa fd ps) (hr : Room k X.A) (tk : Takes X W) (ho : ME X W g o co) (ha : MA X W g (e :: es) cs)
    (hst : starEach (e :: es) X.env = (false, eval e X.env) :: starEach es X.env := by rfl) (hpl : (backTo pos (starEach es X.env)).any (·.1) = false := by rfl)
    (ht : eval (.Call (.Attribute o m apos) (e :: es) [] pos) X.env = (do
      let ov ← eval o X.env
      standAt apos.atName
      let (f, first) ← holding [ov] (getMethod ov m pl)
      callWith pos f first (backTo pos (starEach (e :: es) X.env)) (backToKw pos (keywordEach [] X.env))) := by rfl) :
    ME X W g (.Call (.Attribute o m apos) (e :: es) [] pos) (.mth d co m cs) := by
  refine ⟨fun pins s σ H Q I h => ?_⟩
  obtain ⟨O, m0, M, r, S, R, h⟩ := h
  simp only [evE] at h
  refine PySem.W.methodCall_KW (pl := pl) (thn (ho.run pins s σ H _ I ⟨O, m0, M, r, S, R, h.bindE⟩) fun u s1 ⟨v, H1, I1, rx, x, m1, M1, e1, S1, r1, h1⟩ => ?_) ht
  dsimp only at h1
  cases q : insV M1 x with
  | none => rw [q] at h1; exact h1.elim
  | some df =>
    obtain ⟨dd, fs⟩ := df
    rw [q] at h1
    dsimp only at h1
    split at h1
    · rename_i hc
      obtain ⟨hc1, hc2⟩ := hc
      subst hc1
      obtain ⟨a, dx, gs, rfl, h2, h3⟩ := ins_of S1 r1 q
      obtain rfl : u = Value.ref a := rx
      refine getmeth_ok I1 h2 T.cls T.meth (h3.none hc2) ?_
      refine PySem.W.callWith_K (first := [.ref a]) (h₀ := X.base) I.ok.mod.kin T.meth.kp (thn (ha.run pos pins s1 σ H1 _ I1 ⟨O, m1, M1, r, S1, R.ext e1, h1.bindL⟩) fun us s2 ⟨vs, H2, I2, rr, xs, m2, M2, e2, S2, r2, hq⟩ => ⟨I2.kIn, ?_⟩) hst hpl
      exact run_fnSD (E := fun σ => WE W σ) (us := .ref a :: us) (vs := .ref a :: vs) T.ok hr T.bind .nil (passAt tk σ) I2 (.cons rfl rr) ⟨O, m2, M2, x :: xs, S2, by rw [List.append_nil]; exact .cons (r1.ext e2) r2, hq.wish⟩
    · exact h1.elim
theorem m_mth0 {d : Str} {pl : Sem Bool} (T : MtOk X g k d m fa fd ps) (hr : Room k X.A) (tk : Takes X W) (ho : ME X W g o co)
    (ht : eval (.Call (.Attribute o m apos) [] [] pos) X.env = (do
      let ov ← eval o X.env
      standAt apos.atName
      let (f, first) ← holding [ov] (getMethod ov m pl)
      callWith pos f first (backTo pos (starEach [] X.env)) (backToKw pos (keywordEach [] X.env))) := by rfl) :
    ME X W g (.Call (.Attribute o m apos) [] [] pos) (.mth d co m .nil) := by
  refine ⟨fun pins s σ H Q I h => ?_⟩
  obtain ⟨O, m0, M, r, S, R, h⟩ := h
  simp only [evE, evL, Res.bind_ok] at h
  refine PySem.W.methodCall_KW (pl := pl) (thn (ho.run pins s σ H _ I ⟨O, m0, M, r, S, R, h.bindE⟩) fun u s1 ⟨v, H1, I1, rx, x, m1, M1, e1, S1, r1, h1⟩ => ?_) ht
  dsimp only at h1
  cases q : insV M1 x with
  | none => rw [q] at h1; exact h1.elim
  | some df =>
    obtain ⟨dd, fs⟩ := df
    rw [q] at h1
    dsimp only at h1
    split at h1
    · rename_i hc
      obtain ⟨hc1, hc2⟩ := hc
      subst hc1
      obtain ⟨a, dx, gs, rfl, h2, h3⟩ := ins_of S1 r1 q
      obtain rfl : u = Value.ref a := rx
      refine getmeth_ok I1 h2 T.cls T.meth (h3.none hc2) ?_
      exact PySem.W.callWith_K0 (first := [.ref a]) I1.kIn T.meth.kp (run_fnSD (E := fun σ => WE W σ) (us := [.ref a]) (vs := [.ref a]) T.ok hr T.bind .nil (passAt tk σ) I1 (.cons rfl .nil) ⟨O, m1, M1, [x], S1, .cons r1 .nil, h1.wish⟩)
    · exact h1.elim
/-! ### a new instance, a cell -/
structure NwOk (X : Cx) (g : Cfg) (k : Nat) (c : Str) (fa : Addr) (fd : FuncData) (ps : List Str) : Prop where
  mkr : Mk X.K (He.ga X.K c) fa
  glob : X.mg c = some (.ref (He.ga X.K c))
  ok : FnOk X.prog X.w X.K X.mg X.base (L2.CX X.prog X.w) k fa fd ps (spF X.K g.call (c, some "__init__"))
  bind : Binds X.K fd ps []
theorem run_makeS {C : Addr} {sp : Sp} {E : St → XK} {pins : List (Addr × Obj)} {σ : St} {H : Hp} {s : Shared} {Q : VK} {us : List Value} {vs : List V} (M : Mk X.K C fa) (F : FnOk X.prog X.w X.K X.mg X.base (L2.CX X.prog X.w) k fa fd ps sp) (hr : Room (k + 1) X.A) (hb : Binds X.K fd ps [])
    (hx : PassesAt (L2.CX X.prog X.w) X σ (E σ)) (I : L2.Inv X pins σ H s) (r : Vals vs us)
    (h : ∀ x dx, H x = none → H dx = none → dx ≠ x → sp (.ref x :: vs) (upd (upd H dx (.own x)) x (.ins C dx [])) (fun v H2 => v = .non ∧ Q (.ref x) H2) (E σ)) :
    wpAny (model X.prog X.w) X.A (call (.ref C) us) (EP X pins σ Q) X.xe s := by
  have hq := h (s.heap.objs.size + 1) s.heap.objs.size (I.hok.fresh (Nat.le_succ _)) (I.hok.fresh (Nat.le_refl _)) (Nat.ne_of_lt (Nat.lt_succ_self _))
  have I2 := Inv.made (C := C) I
  have r2 : Vals (V.ref (s.heap.objs.size + 1) :: vs) (Value.ref (s.heap.objs.size + 1) :: us) := .cons rfl r
  have hl : (Value.ref (s.heap.objs.size + 1) :: us).length = ps.length := by
    have e := r2.length
    rw [F.len _ _ _ _ hq] at e
    exact e.symm
  refine wpAny_call (make_map (f := fa) I.kIn M.makes M.init (beq_iff_eq.mp M.fn) (codeAny_mono (F.run _ X.stack _ _ ⟨Value.ref (s.heap.objs.size + 1) :: us, []⟩ (Value.ref (s.heap.objs.size + 1) :: us) _ _ (E σ) (hr.make C us [])
    (I2.env0.make C us []) (by have z := hb _ (Value.ref (s.heap.objs.size + 1) :: us) I2.kIn (by rw [List.append_nil]; exact hl); rw [List.append_nil] at z; exact z) r2 hq) fun r s' hq' => ?_))
  cases r with
  | error e => exact hx pins _ _ e s' I2 hq'
  | ok fl =>
    cases fl with
    | ret u =>
      obtain ⟨v, H', I3, rv, ev, q3⟩ := I2.after hq'
      subst ev
      exact ⟨rv, ⟨V.ref (s.heap.objs.size + 1), H', I3, rfl, q3⟩⟩
    | next => exact False.elim hq'
    | brk => exact False.elim hq'
    | cont => exact False.elim hq'
theorem new_of {d : Str} {O m1 : List Addr} {M1 : Mem} {H1 : Hp} {σ : St} {Q : VK} {vs : List V} {xs : List MV} (S1 : Sim X.K O m1 M1 H1) (r1 : RepL X.K (gr O m1 H1) m1 vs xs)
    (h1 : PostE X.K O m1 H1 W σ Q ((g.call (d, some "__init__") (.ref M1.length :: xs) (M1 ++ [.ins d []])).bind fun y M2 => (match y with
      | .non => .ok (.ref M1.length) M2
      | _ => .stuck))) (x dx : Addr) (nx : H1 x = none) (ndx : H1 dx = none) (ne : dx ≠ x) :
    spF X.K g.call (d, some "__init__") (.ref x :: vs) (upd (upd H1 dx (.own x)) x (.ins (He.ga X.K d) dx [])) (fun v H2 => v = .non ∧ Q (.ref x) H2) (WE W σ) := by
  have S2 : Sim X.K O m1 M1 (upd H1 dx (.own x)) := S1.alloc ndx
  have nx2 : upd H1 dx (.own x) x = none := by rw [upd_ne (Ne.symm ne)]; exact nx
  have e2 : Ext m1 H1 (m1 ++ [x]) (upd (upd H1 dx (.own x)) x (.ins (He.ga X.K d) dx [])) := (Ext.alloc S1 ndx).trans (Ext.cell S2 nx2)
  have S3 : Sim X.K O (m1 ++ [x]) (M1 ++ [.ins d []]) (upd (upd H1 dx (.own x)) x (.ins (He.ga X.K d) dx [])) := S2.cell nx2 ⟨dx, [], upd_same, .nil⟩
  have hx : (m1 ++ [x])[M1.length]? = some x := by
    rw [← S1.len, List.getElem?_append_right (Nat.le_refl _), Nat.sub_self]
    rfl
  refine ⟨O, m1 ++ [x], M1 ++ [.ins d []], .ref M1.length :: xs, S3, .cons (.ref hx) (r1.ext e2), ?_⟩
  refine ((PostE.later h1 e2).wish.bindE).imp fun v H' ⟨y, m', M', e', S', r', h'⟩ => ?_
  cases y with
  | non =>
    cases r'
    exact ⟨rfl, h' (.ref x) m' H' Ext.refl S' (.ref (pre_get e'.pre hx))⟩
  | _ => exact h'.elim
theorem m_new {d : Str} (T : NwOk X g k d fa fd ps) (hr : Room (k + 1) X.A) (tk : Takes X W) (hg : Gl X d) (ha : MA X W g (e :: es) cs) (hdb : (d == ("__debug__" : Str)) = false := by decide)
    (he : starEach (e :: es) X.env = (false, eval e X.env) :: starEach es X.env := by rfl) (hpl : (backTo pos (starEach es X.env)).any (·.1) = false := by rfl) : ME X W g (.Call (.Name d p) (e :: es) [] pos) (.new d cs) := by
  refine ⟨fun pins s σ H Q I h => ?_⟩
  obtain ⟨O, m0, M, r, S, R, h⟩ := h
  simp only [evE] at h
  refine wpAny_Call_Name_kw (ld_glob I hg T.glob ?_ hdb)
  refine PySem.W.callWith_K (h₀ := X.base) I.ok.mod.kin T.mkr.kp (thn (ha.run pos pins s σ H _ I ⟨O, m0, M, r, S, R, h.bindL⟩) fun us s1 ⟨vs, H1, I1, rr, xs, m1, M1, e1, S1, r1, h1⟩ => ⟨I1.kIn, ?_⟩) he hpl
  exact run_makeS (E := fun σ => WE W σ) T.mkr T.ok hr T.bind (passAt tk σ) I1 rr (new_of S1 r1 h1)
theorem m_new0 {d : Str} (T : NwOk X g k d fa fd ps) (hr : Room (k + 1) X.A) (tk : Takes X W) (hg : Gl X d) (hdb : (d == ("__debug__" : Str)) = false := by decide) : ME X W g (.Call (.Name d p) [] [] pos) (.new d .nil) := by
  refine ⟨fun pins s σ H Q I h => ?_⟩
  obtain ⟨O, m0, M, r, S, R, h⟩ := h
  simp only [evE, evL, Res.bind_ok] at h
  refine wpAny_Call_Name_kw (ld_glob I hg T.glob ?_ hdb)
  exact PySem.W.callWith_K0 I.kIn T.mkr.kp (run_makeS (E := fun σ => WE W σ) (us := []) T.mkr T.ok hr T.bind (passAt tk σ) I .nil (new_of S .nil h))
/-! ### built-ins -/
theorem blt_of {f : Bi} {s : St} {H : Hp} {Q : VK} (h : tE X.K W g (.blt f cs) s H Q) : tCB (rVL X.K (bltV f)) (tA X.K W g cs) s H Q := by
  obtain ⟨O, m, M, r, S, R, h⟩ := h
  simp only [evE] at h
  refine ⟨O, m, M, r, S, R, h.bindL.imp fun vs H1 ⟨xs, m1, M1, e1, S1, r1, h1⟩ => ?_⟩
  obtain ⟨z, hz, fin⟩ := h1.opt
  exact ⟨O, m1, M1, xs, z, S1, r1, hz, fin⟩
theorem m_bltB {f : Bi} {x : Str} {id : String} (hc : CallR X (.builtin id) (rVL X.K (bltV f))) (hg : Gl X x) (hm : X.mg x = none) (hv : bootBuiltins x = some (.builtin id)) (ha : MA X W g (e :: es) cs) (hn : x ≠ "__name__" := by decide) (hd : (x == ("__debug__" : Str)) = false := by decide)
    (he : starEach (e :: es) X.env = (false, eval e X.env) :: starEach es X.env := by rfl) (hpl : (backTo pos (starEach es X.env)).any (·.1) = false := by rfl) : ME X W g (.Call (.Name x p) (e :: es) [] pos) (.blt f cs) :=
  PE_imp (pe_callB (hn := hn) (hdb := hd) (he := he) (hpl := hpl) hc hg hm hv ha) fun s H Q h => blt_of h
theorem m_bltT {f : Bi} {x : Str} {id : String} (hc : CallR X (.type id) (rVL X.K (bltV f))) (hg : Gl X x) (hm : X.mg x = none) (hv : bootBuiltins x = some (.type id)) (ha : MA X W g (e :: es) cs) (hn : x ≠ "__name__" := by decide) (hd : (x == ("__debug__" : Str)) = false := by decide)
    (he : starEach (e :: es) X.env = (false, eval e X.env) :: starEach es X.env := by rfl) (hpl : (backTo pos (starEach es X.env)).any (·.1) = false := by rfl) : ME X W g (.Call (.Name x p) (e :: es) [] pos) (.blt f cs) :=
  PE_imp (pe_callTy (hn := hn) (hdb := hd) (he := he) (hpl := hpl) hc hg hm hv ha) fun s H Q h => blt_of h
end
end Mini

set_option Elab.async false
set_option linter.all false
set_option maxRecDepth 100000
set_option maxHeartbeats 1000000
/-! MiG: isinstance, built-in methods, dicts, targets, what is walked, comprehensions. -/
namespace Mini
open PySem L2
section
variable {X : Cx} {W : WX} {g : Cfg} {a b c e o : Expr} {es rest : List Expr} {ca cb cc ce co : CE} {cs : CL} {pos p p' apos : Pos}
/-! ### isinstance -/
theorem m_isi {T : Str} {n : String} (hg : Gl X "isinstance") (hm : X.mg "isinstance" = none) (hgT : Gl X T) (hmT : X.mg T = none) (hvT : bootBuiltins T = some (.type n)) (ha : ME X W g a ca) (hnT : T ≠ "__name__" := by decide) (hdT : (T == ("__debug__" : Str)) = false := by decide)
    (he : starEach [a, .Name T p'] X.env = [(false, eval a X.env), (false, eval (.Name T p') X.env)] := by rfl) : ME X W g (.Call (.Name "isinstance" p) [a, .Name T p'] [] pos) (.isi ca [n]) := by
  have hT : PE X (.Name T p') (tC (.ty n)) := pe_bltn hgT hmT hvT rfl hnT hdT
  refine PE_imp (pe_callB (call_isi (X := X)) hg hm (by decide +kernel) (pa_cons ha (pa_cons hT pa_nil (by rfl)) (by rw [he]; rfl)) (he := by rw [he]; rfl) (hpl := by rfl)) fun s H Q ⟨O, m, M, r, S, R, h⟩ => ?_
  simp only [evE] at h
  refine ⟨O, m, M, r, S, R, h.bindE.imp fun v H1 ⟨x, m1, M1, e1, S1, r1, h1⟩ => ?_⟩
  obtain ⟨z, hz, fin⟩ := h1.opt
  obtain ⟨k, hk, ez⟩ := map_some hz
  subst ez
  have hi : ∃ t, tyV2 M1 x = some t ∧ kitB t n = some k := by
    unfold isiA isiT at hk
    cases q : tyV2 M1 x with
    | none => rw [q] at hk; cases hk
    | some t =>
      refine ⟨t, rfl, ?_⟩
      rw [q] at hk
      simp only [Option.bind_some] at hk
      cases q2 : kitB t n with
      | none => rw [q2] at hk; cases hk
      | some k2 =>
        rw [q2] at hk
        cases k2 <;> exact hk
  obtain ⟨t, h2, h3⟩ := hi
  exact ⟨v, .ty n, .type t, .type n, k, rfl, .ty n, ty_rep S1 r1 h2, kit_ty h3, fin.here S1 (.bl _)⟩
/-! ### built-in methods -/
theorem rec_lst {M : Mem} {x : MV} (h : (match x with
    | .ref n => (match M[n]? with
      | some (.lst _) => true
      | _ => false)
    | _ => false) = true) : ∃ n xs, x = .ref n ∧ M[n]? = some (.lst xs) := by
  cases x with
  | ref n =>
    simp only at h
    cases q : M[n]? with
    | none => rw [q] at h; cases h
    | some c =>
      cases c with
      | lst xs => exact ⟨n, xs, rfl, q⟩
      | ins _ _ => rw [q] at h; cases h
      | dct _ => rw [q] at h; cases h
  | _ => cases h
theorem cell_lst {K : PySem.W.Frag} {O m : List Addr} {M : Mem} {H : Hp} {v : V} {n : Nat} {xs : List MV} (S : Sim K O m M H) (r : RepV K (gr O m H) m v (.ref n)) (e : M[n]? = some (.lst xs)) : ∃ a vs, v = .ref a ∧ m[n]? = some a ∧ H a = some (.lst vs) ∧ RepL K (gr O m H) m vs xs := by
  cases r with
  | ref h1 =>
    obtain ⟨a, h2, vs, h3, h4⟩ := S.cel n _ e
    rw [h1] at h2
    cases h2
    exact ⟨_, vs, rfl, h1, h3, h4⟩
theorem m_append (ho : ME X W g o co) (ha : ME X W g e ce)
    (hbase : attributeBase o "append" X.env (eval o X.env) = eval o X.env := by rfl) (hfew : ((backTo pos (starEach [e] X.env)).all (fun x => !x.1) && (backToKw pos (keywordEach [] X.env)).all (fun x => x.1.isSome)
      && decide (([e] : List Expr).length + ([] : List Keyword).length + (if ([] : List Keyword).isEmpty then 0 else 1) < 30)) = true := by rfl) (hline : (apos.endLine == pos.line) = true := by rfl) (hs : starEach [e] X.env = [(false, eval e X.env)] := by rfl) :
    ME X W g (.Call (.Attribute o "append" apos) [e] [] pos) (.bmt .append co (.cons ce .nil)) := by
  have hA : MA X W g [e] (.cons ce .nil) := a_cons ha a_nil (by rw [hs]; rfl)
  refine PE_imp (pe_bm PySem.F.plainAttrs_list PySem.F.slot_list_append PySem.F.type_list_append mt_append ho hA hbase hfew hline (by rw [hs]; rfl) (by rfl)) fun s H Q ⟨O, m, M, r, S, R, h⟩ => ?_
  simp only [evE] at h
  refine ⟨O, m, M, r, S, R, h.bindE.imp fun v H1 ⟨x, m1, M1, e1, S1, r1, h1⟩ => ?_⟩
  dsimp only at h1
  split at h1
  · rename_i hr
    obtain ⟨n, xs, rfl, hn⟩ := rec_lst hr
    obtain ⟨a, vs, rfl, h2, h3, h4⟩ := cell_lst S1 r1 hn
    refine ⟨.inl ⟨rfl, vs, SqL.of h3⟩, O, m1, M1, r, S1, R.ext e1, h1.bindL.imp fun ws H2 ⟨ys, m2, M2, e2, S2, r2, hq⟩ => ?_⟩
    cases q : bmtV .append M2 (.ref n) ys with
    | none => rw [q] at hq; exact hq.elim
    | some ym =>
      obtain ⟨y, M3⟩ := ym
      rw [q] at hq
      simp only [bmtV] at q
      split at q
      · rename_i n' y' heq
        cases heq
        cases q2 : M2[n]? with
        | none => rw [q2] at q; cases q
        | some c =>
          rw [q2] at q
          cases c with
          | ins _ _ => cases q
          | dct _ => cases q
          | lst zs =>
            obtain ⟨hz, q⟩ := ite_some q
            cases q
            obtain ⟨w, rfl, rw'⟩ := r2.one
            obtain ⟨a', ws, ea, k2, k3, k4⟩ := cell_lst S2 (r1.ext e2) q2
            cases ea
            refine ⟨a, ws, w, rfl, rfl, k3, by rw [k4.len]; exact hz, ?_⟩
            refine hq .non m2 _ (Ext.write k2) (S2.write k2 ⟨_, upd_same, ?_⟩) .non
            rw [gr_write (List.mem_of_getElem? k2)]
            exact k4.append (.cons rw' .nil)
      · cases q
  · exact h1.elim
theorem m_pop (ho : ME X W g o co)
    (hbase : attributeBase o "pop" X.env (eval o X.env) = eval o X.env := by rfl) (hline : (apos.endLine == pos.line) = true := by rfl) :
    ME X W g (.Call (.Attribute o "pop" apos) [] [] pos) (.bmt .pop co .nil) := by
  refine PE_imp (pe_bm0 PySem.F.plainAttrs_list PySem.F.slot_list_pop PySem.F.type_list_pop mt_pop ho hbase hline) fun s H Q ⟨O, m, M, r, S, R, h⟩ => ?_
  simp only [evE] at h
  refine ⟨O, m, M, r, S, R, h.bindE.imp fun v H1 ⟨x, m1, M1, e1, S1, r1, h1⟩ => ?_⟩
  dsimp only at h1
  split at h1
  · rename_i hr
    obtain ⟨n, xs, rfl, hn⟩ := rec_lst hr
    obtain ⟨a, vs, rfl, h2, h3, h4⟩ := cell_lst S1 r1 hn
    refine ⟨.inl ⟨rfl, vs, SqL.of h3⟩, ?_⟩
    simp only [evL, Res.bind_ok] at h1
    simp only [bmtV, hn] at h1
    cases q : xs[xs.length - 1]? with
    | none => rw [q] at h1; exact h1.elim
    | some y =>
      rw [q] at h1
      obtain ⟨w, k1, k2⟩ := h4.get q
      refine ⟨a, vs, w, rfl, rfl, h3, by rw [h4.len]; exact k1, ?_⟩
      refine h1 w m1 _ (Ext.write h2) (S1.write h2 ⟨_, upd_same, ?_⟩) ?_
      · rw [gr_write (List.mem_of_getElem? h2)]
        exact h4.dropLast
      · rw [gr_write (List.mem_of_getElem? h2)]
        exact k2
  · exact h1.elim
theorem m_join (ho : ME X W g o co) (ha : ME X W g e ce)
    (hbase : attributeBase o "join" X.env (eval o X.env) = eval o X.env := by rfl) (hfew : ((backTo pos (starEach [e] X.env)).all (fun x => !x.1) && (backToKw pos (keywordEach [] X.env)).all (fun x => x.1.isSome)
      && decide (([e] : List Expr).length + ([] : List Keyword).length + (if ([] : List Keyword).isEmpty then 0 else 1) < 30)) = true := by rfl) (hline : (apos.endLine == pos.line) = true := by rfl) (hs : starEach [e] X.env = [(false, eval e X.env)] := by rfl) :
    ME X W g (.Call (.Attribute o "join" apos) [e] [] pos) (.bmt .join co (.cons ce .nil)) := by
  have hA : MA X W g [e] (.cons ce .nil) := a_cons ha a_nil (by rw [hs]; rfl)
  refine PE_imp (pe_bm PySem.F.plainAttrs_str PySem.F.slot_str_join PySem.F.type_str_join mt_join ho hA hbase hfew hline (by rw [hs]; rfl) (by rfl)) fun s H Q ⟨O, m, M, r, S, R, h⟩ => ?_
  simp only [evE] at h
  refine ⟨O, m, M, r, S, R, h.bindE.imp fun v H1 ⟨x, m1, M1, e1, S1, r1, h1⟩ => ?_⟩
  dsimp only at h1
  split at h1
  · rename_i hr
    cases x with
    | str t =>
      cases r1
      refine ⟨rfl, O, m1, M1, r, S1, R.ext e1, h1.bindL.imp fun ws H2 ⟨ys, m2, M2, e2, S2, r2, hq⟩ => ?_⟩
      cases q : bmtV .join M2 (.str t) ys with
      | none => rw [q] at hq; exact hq.elim
      | some ym =>
        obtain ⟨y, M3⟩ := ym
        rw [q] at hq
        simp only [bmtV] at q
        split at q
        · rename_i a' y' heq
          cases heq
          obtain ⟨zs, k1, q⟩ := bind_some q
          obtain ⟨ss, k2, q⟩ := bind_some q
          obtain ⟨hz, q⟩ := ite_some q
          cases q
          obtain ⟨w, rfl, rw'⟩ := r2.one
          obtain ⟨a, vs, rfl, k3, k4⟩ := asL_of S2 rw' k1
          have ev := k4.strL k2
          subst ev
          exact ⟨t, a, ss, rfl, rfl, .inl (SqL.of k3), hz, hq _ m2 H2 Ext.refl S2 (.str _)⟩
        · cases q
    | _ => cases hr
  · exact h1.elim
/-! ### dicts: a display, and get -/
def tPs (K : PySem.W.Frag) (W : WX) (g : Cfg) : List Key → CL → List (TE × TE)
  | k :: ks, .cons e es => (tC (kV k), tE K W g e) :: tPs K W g ks es
  | _, _ => []
/-- as many keys as values, none with a star -/
def fitK : List Key → CL → Bool
  | [], .nil => true
  | _ :: ks, .cons _ es => fitK ks es
  | _, _ => false
theorem pairs_of {K : PySem.W.Frag} {s : St} {O : List Addr} : ∀ {ks : List Key} {cs : CL} {m : List Addr} {M : Mem} {H : Hp} {r : Rho} {Q : List (V × V) → Hp → Prop}, fitK ks cs = true → Sim K O m M H → EnvR K (gr O m H) m s r →
    PostL K O m H W s (fun vs H' => Q ((ks.zip vs).map fun kv => (kV kv.1, kv.2)) H') (evL g r cs M) → tPairs (tPs K W g ks cs) s H Q
  | [], .nil, m, M, H, r, Q, _, S, R, h => h [] m H Ext.refl S .nil
  | k :: ks, .cons e es, m, M, H, r, Q, hl, S, R, h => by
    simp only [evL] at h
    refine ⟨O, m, M, r, S, R, h.bindE.imp fun v H1 ⟨x, m1, M1, e1, S1, r1, h1⟩ => ?_⟩
    refine pairs_of (ks := ks) (cs := es) hl S1 (R.ext e1) (h1.bindL.imp fun vs H2 ⟨xs, m2, M2, e2, S2, r2, h2⟩ => ?_)
    exact h2 (v :: vs) m2 H2 Ext.refl S2 (.cons (r1.ext e2) r2)
  | k :: ks, .nil, m, M, H, r, Q, hl, S, R, h => by cases hl
  | k :: ks, .star _ _, m, M, H, r, Q, hl, S, R, h => by cases hl
  | [], .cons _ _, m, M, H, r, Q, hl, S, R, h => by cases hl
  | [], .star _ _, m, M, H, r, Q, hl, S, R, h => by cases hl
/-- an object just laid, out of reach -/
theorem gr_hid {O m : List Addr} {H : Hp} {p : Addr} {o : HO} (hn : H p = none) : gr (p :: O) m (upd H p o) = gr O m H := by
  funext a
  show hide _ _ _ = hide _ _ _
  unfold hide
  by_cases ha : a = p
  · subst ha
    rw [if_pos (by simp), hn]
    split <;> rfl
  · rw [upd_ne ha]
    by_cases hm : a ∈ O ++ m
    · rw [if_pos hm, if_pos (by simp only [List.cons_append, List.mem_cons]; exact .inr hm)]
    · rw [if_neg hm, if_neg (by simp only [List.cons_append, List.mem_cons]; exact fun z => z.elim ha hm)]
theorem Sim.hid {K : PySem.W.Frag} {O m : List Addr} {M : Mem} {H : Hp} (S : Sim K O m M H) {p : Addr} {o : HO} (hn : H p = none) : Sim K (p :: O) m M (upd H p o) := by
  refine ⟨S.len, S.nd, fun a ha z => ?_, fun i c q => ?_, fun a ha => ?_⟩
  · rcases List.mem_cons.mp z with z | z
    · exact S.fresh hn (z ▸ ha)
    · exact S.dis a ha z
  · obtain ⟨a, h1, h2⟩ := S.cel i c q
    obtain ⟨u, eu⟩ := S.tracked (List.mem_of_getElem? h1)
    refine ⟨a, h1, ?_⟩
    have e : Same (gr O m H) (gr (p :: O) m (upd H p o)) := by rw [gr_hid hn]; exact Same.refl _
    cases c with
    | lst xs =>
      obtain ⟨vs, e1, e2⟩ := h2
      exact ⟨vs, by rw [upd_ne (ne_of_none eu hn)]; exact e1, e2.mono e (List.prefix_refl _)⟩
    | ins c fs =>
      obtain ⟨dx, gs, e1, e2⟩ := h2
      exact ⟨dx, gs, by rw [upd_ne (ne_of_none eu hn)]; exact e1, e2.mono e (List.prefix_refl _)⟩
    | dct kvs =>
      obtain ⟨ps, e1, e2⟩ := h2
      exact ⟨ps, by rw [upd_ne (ne_of_none eu hn)]; exact e1, e2.mono e (List.prefix_refl _)⟩
  · rcases List.mem_cons.mp ha with z | z
    · rw [z, upd_same]; exact fun q => nomatch q
    · rw [upd_ne (fun q => S.otr a z (by rw [q]; exact hn))]
      exact S.otr a z
theorem gr_unhid {O m : List Addr} {H : Hp} {p : Addr} : Same (gr (p :: O) m H) (gr O m H) := fun a o h => by
  obtain ⟨h1, h2⟩ := of_hide h
  show hide _ _ _ = _
  rw [hide_of fun z => h1 (by simp only [List.cons_append, List.mem_cons]; exact .inr z)]
  exact h2
theorem Sim.unhid {K : PySem.W.Frag} {O m : List Addr} {M : Mem} {H : Hp} {p : Addr} (S : Sim K (p :: O) m M H) : Sim K O m M H := by
  refine ⟨S.len, S.nd, fun a ha z => S.dis a ha (List.mem_cons_of_mem _ z), fun i c q => ?_, fun a ha => S.otr a (List.mem_cons_of_mem _ ha)⟩
  obtain ⟨a, h1, h2⟩ := S.cel i c q
  refine ⟨a, h1, ?_⟩
  cases c with
  | lst xs =>
    obtain ⟨vs, e1, e2⟩ := h2
    exact ⟨vs, e1, e2.mono gr_unhid (List.prefix_refl _)⟩
  | ins c fs =>
    obtain ⟨dx, gs, e1, e2⟩ := h2
    exact ⟨dx, gs, e1, e2.mono gr_unhid (List.prefix_refl _)⟩
  | dct kvs =>
    obtain ⟨ps, e1, e2⟩ := h2
    exact ⟨ps, e1, e2.mono gr_unhid (List.prefix_refl _)⟩
/-- what is out of reach is changed -/
theorem gr_set {O m : List Addr} {H : Hp} {p : Addr} {o : HO} (hp : p ∈ O) : gr O m (upd H p o) = gr O m H := by
  funext a
  show hide _ _ _ = hide _ _ _
  unfold hide
  split
  · rfl
  · rename_i hb
    exact upd_ne fun z => hb (List.mem_append_left _ (z ▸ hp))
theorem Sim.set {K : PySem.W.Frag} {O m : List Addr} {M : Mem} {H : Hp} {p : Addr} {o : HO} (S : Sim K O m M H) (hp : p ∈ O) : Sim K O m M (upd H p o) := by
  refine ⟨S.len, S.nd, S.dis, fun i c q => ?_, fun a ha => ?_⟩
  · obtain ⟨a, h1, h2⟩ := S.cel i c q
    have ne : a ≠ p := fun z => S.dis a (List.mem_of_getElem? h1) (z ▸ hp)
    refine ⟨a, h1, ?_⟩
    cases c with
    | lst xs =>
      obtain ⟨vs, e1, e2⟩ := h2
      refine ⟨vs, by rw [upd_ne ne]; exact e1, ?_⟩
      show RepL K (gr O m (upd H p o)) m vs xs
      rw [gr_set hp]
      exact e2
    | ins c fs =>
      obtain ⟨dx, gs, e1, e2⟩ := h2
      refine ⟨dx, gs, by rw [upd_ne ne]; exact e1, ?_⟩
      show RepF K (gr O m (upd H p o)) m gs fs
      rw [gr_set hp]
      exact e2
    | dct kvs =>
      obtain ⟨ps, e1, e2⟩ := h2
      refine ⟨ps, by rw [upd_ne ne]; exact e1, ?_⟩
      show RepT K (gr O m (upd H p o)) m ps kvs
      rw [gr_set hp]
      exact e2
  · by_cases z : a = p
    · rw [z, upd_same]; exact fun q => nomatch q
    · rw [upd_ne z]; exact S.otr a ha
/-- from a heap to a later one over an object that came between -/
theorem Ext.over {m m' : List Addr} {H H' : Hp} {p : Addr} {o o' : HO} (hn : H p = none) (hp : p ∉ m') (e : Ext m (upd H p o) m' H') : Ext m H m' (upd H' p o') := by
  refine ⟨e.pre, fun a u ha h => ?_, fun a ha => ?_, fun a u h => ?_⟩
  · have ne := ne_of_none h hn
    rw [upd_ne ne]
    exact e.keep a u ha (by rw [upd_ne ne]; exact h)
  · rcases e.new a ha with z | z
    · exact .inl z
    · refine .inr ?_
      have ne : a ≠ p := fun q => hp (q ▸ ha)
      rw [upd_ne ne] at z
      exact z
  · have ne := ne_of_none h hn
    obtain ⟨u', h'⟩ := e.there a u (by rw [upd_ne ne]; exact h)
    exact ⟨u', by rw [upd_ne ne]; exact h'⟩
theorem putK_new : ∀ {acc : List (Key × V)} {k : Key} {v : V}, (∀ p ∈ acc, p.1 ≠ k) → putK acc k v = acc ++ [(k, v)]
  | acc, k, v, h => by
    unfold putK
    have q : (acc.any fun kv => decide (kv.1 = k)) = false := by
      rw [List.any_eq_false]
      intro p hp
      simpa using h p hp
    simp [q]
theorem merge_new : ∀ {ks : List Key} {vs : List V} {acc : List (Key × V)}, ks.Nodup → (∀ p ∈ acc, p.1 ∉ ks) → mergeK acc (ks.zip vs) = acc ++ ks.zip vs
  | [], vs, acc, _, _ => by simp [mergeK]
  | k :: ks, [], acc, _, _ => by simp [mergeK]
  | k :: ks, v :: vs, acc, nd, h => by
    have nd' := List.nodup_cons.mp nd
    show mergeK (putK acc k v) (ks.zip vs) = _
    rw [putK_new fun p hp z => h p hp (by rw [z]; exact List.mem_cons_self), merge_new nd'.2 fun p hp => ?_]
    · simp
    · rcases List.mem_append.mp hp with hp | hp
      · exact fun z => h p hp (List.mem_cons_of_mem _ z)
      · rw [List.mem_singleton.mp hp]; exact nd'.1
theorem RepK.zip {K : PySem.W.Frag} {G : Hp} {m : List Addr} : ∀ {ks : List Key} {vs : List V} {xs : List MV}, RepL K G m vs xs → RepK K G m (ks.zip vs) (ks.zip xs)
  | [], _, _, _ => .nil
  | _ :: _, [], [], _ => .nil
  | k :: ks, _ :: _, _ :: _, .cons h h' => .cons h (RepK.zip h')
theorem m_dsp {keys : List (Option Expr)} {values : List Expr} {ks : List Key} (h : PPs X pos keys values (tPs X.K W g ks cs)) (hf : fitK ks cs = true := by rfl) (hall : keys.all (·.isSome) = true := by rfl) (hl : keys.length = values.length := by rfl) (h0 : keys ≠ [] := by intro z; cases z)
    (h15 : keys.length ≤ 15 := by decide) : ME X W g (.Dict keys values pos) (.dsp ks cs) := PE_imp (pe_disp h hall hl h0 h15) fun s H Q ⟨O, m, M, r, S, R, h⟩ p hp => by
  simp only [evE] at h
  have R2 : EnvR X.K (gr (p :: O) m (upd H p (.dK []))) m s r := by rw [gr_hid hp]; exact R
  refine pairs_of (O := p :: O) hf (S.hid hp) R2 ?_
  cases q : evL g r cs M with
  | stuck => rw [q] at h; exact h.elim
  | exn d y M1 =>
    rw [q] at h
    intro d v m' H' e' S' r' hd
    have hne : d ≠ p := fun z => by
      have := e'.keep p _ (S.fresh hp) upd_same
      rw [← z, hd] at this
      cases this
    have e2 : Ext m H m' H' := by
      have e3 := Ext.over (o' := .dK []) hp (fun z => S'.dis p z List.mem_cons_self) e'
      have e4 : upd H' p (.dK []) = H' := by
        funext a
        by_cases z : a = p
        · rw [z, upd_same, e'.keep p _ (S.fresh hp) upd_same]
        · rw [upd_ne z]
      rw [e4] at e3
      exact e3
    exact h d v m' H' e2 S'.unhid (r'.mono gr_unhid (List.prefix_refl _)) hd
  | ok xs M1 =>
    rw [q] at h
    simp only [Res.bind_ok] at h
    intro vs m' H' e' S' r'
    split at h
    · rename_i hc
      obtain ⟨hc1, hc2, hc3⟩ := hc
      have hkp := e'.keep p _ (S.fresh hp) upd_same
      refine ⟨hkp, ks.zip vs, rfl, by rw [List.length_zip]; omega, ?_⟩
      rw [merge_new hc2 (by simp), List.nil_append]
      refine h (.ref p) m' _ (Ext.over hp (fun z => S'.dis p z List.mem_cons_self) e') (S'.set List.mem_cons_self).unhid (.dck (ps := ks.zip vs) ?_ ?_)
      · show hide _ _ _ = _
        rw [hide_of, upd_same]
        intro z
        rcases List.mem_append.mp z with z | z
        · exact S.otr p z hp
        · exact S'.dis p z List.mem_cons_self
      · refine (RepK.zip r').mono ?_ (List.prefix_refl _)
        rw [← gr_set (o := .dK (ks.zip vs)) (H := H') (O := p :: O) (m := m') List.mem_cons_self]
        exact gr_unhid
    · exact h.elim
theorem look_rep {K : PySem.W.Frag} {G : Hp} {m : List Addr} {k : Key} : ∀ {ps : List (Key × V)} {kvs : List (Key × MV)}, RepK K G m ps kvs → (valV ps k = none ∧ lookK kvs k = none) ∨ ∃ v x, valV ps k = some v ∧ lookK kvs k = some x ∧ RepV K G m v x
  | [], [], _ => .inl ⟨rfl, rfl⟩
  | (k', v) :: ps, (_, x) :: kvs, .cons h h' => by
    unfold valV lookK
    rw [List.find?_cons, List.find?_cons]
    by_cases z : k' = k
    · rw [decide_eq_true z]
      exact .inr ⟨v, x, rfl, rfl, h⟩
    · rw [decide_eq_false z]
      exact look_rep h'
theorem key_rep {K : PySem.W.Frag} {G : Hp} {m : List Addr} {v : V} {x : MV} {k : Key} (r : RepV K G m v x) (e : keyOf x = some k) : v = kV k := by
  cases r <;> cases e <;> rfl
theorem m_dget {f : Expr} {cf : CE} (hu : X.A.units + 1 < cLine) (ho : ME X W g o co) (he : ME X W g e ce) (hf : ME X W g f cf) (m : M2 X o "get" apos e f pos) : ME X W g (.Call (.Attribute o "get" apos) [e, f] [] pos) (.bmt .dget co (.cons ce (.cons cf .nil))) :=
  PE_imp (pe_dget2 hu ho he hf m) fun s H Q ⟨O, m, M, r, S, R, h⟩ => by
    simp only [evE] at h
    refine ⟨O, m, M, r, S, R, h.bindE.imp fun v H1 ⟨x, m1, M1, e1, S1, r1, h1⟩ => ?_⟩
    dsimp only at h1
    split at h1
    · rename_i hr
      cases x with
      | dck kvs =>
        cases r1 with
        | @dck a ps _ k1 k2 =>
          simp only [evL] at h1
          rw [Res.assoc] at h1
          refine ⟨a, rfl, .inl ⟨ps, .inl (hide_same _ _ k1)⟩, O, m1, M1, r, S1, R.ext e1, h1.bindE.imp fun w H2 ⟨y, m2, M2, e2, S2, r2, h2⟩ => ?_⟩
          dsimp only at h2
          rw [Res.assoc, Res.assoc] at h2
          refine ⟨O, m2, M2, r, S2, (R.ext e1).ext e2, h2.bindE.imp fun u H3 ⟨z, m3, M3, e3, S3, r3, h3⟩ => ?_⟩
          simp only [Res.bind_ok] at h3
          cases q : keyOf y with
          | none => simp only [bmtV, q] at h3; exact h3.elim
          | some k =>
            simp only [bmtV, q, Option.map_some] at h3
            have k3 : gr O m3 H3 a = some (.dK ps) := e3.sub _ _ (e2.sub _ _ k1)
            have k4 := (k2.mono e2.sub e2.pre).mono e3.sub e3.pre
            have hw := key_rep r2 q
            subst hw
            refine ⟨valV ps k, DGet.k (hide_same _ _ k3), ?_⟩
            rcases look_rep (k := k) k4 with ⟨q1, q2⟩ | ⟨v', x', q1, q2, q3⟩
            · rw [q1]
              rw [q2] at h3
              exact h3 u m3 H3 Ext.refl S3 r3
            · rw [q1]
              rw [q2] at h3
              exact h3 v' m3 H3 Ext.refl S3 q3
      | _ => cases hr
    · exact h1.elim
end
end Mini

set_option Elab.async false
set_option linter.all false
set_option maxRecDepth 100000
set_option maxHeartbeats 1000000
/-! MiH: targets, what is walked, comprehensions. -/
namespace Mini
open PySem L2
/-! ### targets -/
def setN (is : List Nat) (vs : List V) (s : St) : St := (is.zip vs).foldl (fun s p => s.set p.1 (some p.2)) s
def gN (is : List Nat) : TGs := fun vs s H Q => vs.length = is.length ∧ Q (setN is vs s) H
section
variable {X : Cx} {W : WX} {g : Cfg} {pos : Pos}
theorem PG_imp {X : Cx} {e : Expr} {t t' : TG} (h : PG X e t) (i : ∀ v s H Q, t' v s H Q → t v s H Q) : PG X e t' := ⟨fun pins s σ H v u Q I r q => h.run pins s σ H v u Q I r (i _ _ _ _ q)⟩
theorem PGs_imp {X : Cx} {e : List Expr} {t t' : TGs} (h : PGs X e t) (i : ∀ v s H Q, t' v s H Q → t v s H Q) : PGs X e t' := ⟨fun pins s σ H v u Q I r q => h.run pins s σ H v u Q I r (i _ _ _ _ q)⟩
theorem gs_nil : PGs X [] (gN []) := PGs_imp pgs_nil fun vs s H Q ⟨h, q⟩ => by
  cases vs with
  | nil => exact ⟨rfl, q⟩
  | cons _ _ => cases h
theorem gs_cons {i : Nat} {x : Str} {es : List Expr} {is : List Nat} (hN : X.N.Nodup) (hi : X.N[i]? = some x) (hx : Loc X.env.scope x) (h : PGs X es (gN is)) (hf : X.fn x = true ∨ X.env.scope.names.lookup x = some .local := by first | exact .inl rfl | exact .inr rfl | assumption)
    (hs : (assignEach (.Name x pos :: es) X.env).map (·.2) = assign (.Name x pos) X.env :: (assignEach es X.env).map (·.2) := by rfl) : PGs X (.Name x pos :: es) (gN (i :: is)) := PGs_imp (pgs_cons (pg_name hN hi hx hf) h hs) fun vs s H Q ⟨h, q⟩ => by
  cases vs with
  | nil => cases h
  | cons v vs => exact ⟨v, vs, rfl, Nat.succ.inj h, q⟩
theorem wipe_set {s : St} {i : Nat} {o : Option V} : ∀ {is : List Nat}, i ∈ is → L2.wipe (s.set i o) is = L2.wipe s is
  | [], h => by cases h
  | j :: is, h => by
    show (L2.wipe (s.set i o) is).set j none = (L2.wipe s is).set j none
    by_cases hm : i ∈ is
    · rw [wipe_set hm]
    · have hj : i = j := by
        rcases List.mem_cons.mp h with z | z
        · exact z
        · exact absurd z hm
      subst hj
      have key : ∀ (is : List Nat), i ∉ is → L2.wipe (s.set i o) is = (L2.wipe s is).set i o := by
        intro is
        induction is with
        | nil => intro _; rfl
        | cons k ks ih =>
          intro hk
          show (L2.wipe (s.set i o) ks).set k none = ((L2.wipe s ks).set k none).set i o
          rw [ih fun z => hk (List.mem_cons_of_mem _ z)]
          rw [List.set_comm _ _ (fun z => hk (by rw [z]; exact List.mem_cons_self))]
      rw [key is hm, List.set_set]
theorem wipe_setN : ∀ {is js : List Nat} {vs : List V} {s : St}, (∀ i ∈ is, i ∈ js) → L2.wipe (setN is vs s) js = L2.wipe s js
  | [], js, vs, s, _ => rfl
  | i :: is, js, [], s, _ => rfl
  | i :: is, js, v :: vs, s, h => by
    show L2.wipe (setN is vs (s.set i (some v))) js = _
    rw [wipe_setN fun k hk => h k (List.mem_cons_of_mem _ hk), wipe_set (h i List.mem_cons_self)]
theorem EnvR.setN {K : PySem.W.Frag} {G : Hp} {m : List Addr} : ∀ {is : List Nat} {vs : List V} {xs : List MV} {s : St} {r : Rho}, EnvR K G m s r → RepL K G m vs xs → EnvR K G m (Mini.setN is vs s) ((is.zip xs).foldl (fun r p => r.set p.1 (some p.2)) r)
  | [], _, _, _, _, h, _ => h
  | _ :: _, [], [], _, _, h, _ => h
  | i :: is, _ :: _, _ :: _, s, r, h, .cons q q' => EnvR.setN (is := is) (h.set q) q'
/-- a target by the interpreter's words -/
def tG (K : PySem.W.Frag) (tg : List Nat) (one : Bool) : TG := fun v s H Q => ∃ O m M x r r2, Sim K O m M H ∧ EnvR K (gr O m H) m s r ∧ RepV K (gr O m H) m v x ∧ bind1 tg one x r = some r2 ∧ ∀ s2, EnvR K (gr O m H) m s2 r2 → L2.wipe s2 tg = L2.wipe s tg → Q s2 H
abbrev MG (X : Cx) (e : Expr) (tg : List Nat) (one : Bool) : Prop := PG X e (tG X.K tg one)
theorem g_name {i : Nat} {x : Str} (hN : X.N.Nodup) (hi : X.N[i]? = some x) (hx : Loc X.env.scope x) (hf : X.fn x = true ∨ X.env.scope.names.lookup x = some .local := by first | exact .inl rfl | exact .inr rfl | assumption) : MG X (.Name x pos) [i] true :=
  PG_imp (pg_name hN hi hx hf) fun v s H Q ⟨O, m, M, x, r, r2, S, R, q, e, h⟩ => by
    have e' : r.set i (some x) = r2 := Option.some.inj e
    subst e'
    exact h _ (R.set q) (wipe_set List.mem_cons_self)
theorem g_tup {es : List Expr} {k : Nat} {is : List Nat} (hc : X.calm = true) (h : PGs X es (gN is)) (hn : (assignEach es X.env).length = is.length := by rfl) (hst : (assignEach es X.env).findIdx? (·.1) = none := by rfl) : MG X (.Tuple es k pos) is false :=
  PG_imp (pg_tup hc h hn hst) fun v s H Q ⟨O, m, M, x, r, r2, S, R, q, e, h⟩ => by
    unfold bind1 at e
    cases x with
    | tup xs =>
      simp only at e
      obtain ⟨hl, e⟩ := ite_some e
      subst e
      obtain ⟨a, vs, rfl, h1, h2⟩ := tup_of q
      exact ⟨a, vs, rfl, h1, by rw [h2.len]; exact hl, by rw [h2.len]; exact hl, h _ (R.setN h2) (wipe_setN fun _ z => z)⟩
    | _ => simp only at e; cases e
end
/-! ### what is walked -/
/-- the walk goes over these values while what stood at its start stands -/
structure Wlk (K : PySem.W.Frag) (J : It) (H1 : Hp) (m1 : List Addr) (G : Hp) (xs : List MV) : Prop where
  go : ∀ H i, (∀ a o, a ∉ m1 → H1 a = some o → H a = some o) → i < xs.length → J.go i H
  stop : ∀ H, (∀ a o, a ∉ m1 → H1 a = some o → H a = some o) → J.stop xs.length H
  yld : ∀ H i v H' x, (∀ a o, a ∉ m1 → H1 a = some o → H a = some o) → xs[i]? = some x → J.yld i H v H' → H' = H ∧ RepV K G m1 v x
def PostI (K : PySem.W.Frag) (O m : List Addr) (H : Hp) (W : WX) (s : St) (R : It → Hp → Prop) : Res (List MV) → Prop
  | .ok xs M' => ∀ J m' H', Ext m H m' H' → Sim K O m' M' H' → Wlk K J H' m' (gr O m' H') xs → R J H'
  | .exn c x M' => ∀ d v m' H', Ext m H m' H' → Sim K O m' M' H' → RepV K (gr O m' H') m' v x → H' d = some (.xd [(fo c, v)]) → W (.ref (He.ga K c)) (some d) s H'
  | .stuck => False
def tI (K : PySem.W.Frag) (W : WX) (g : Cfg) (c : CI) : TI := fun s H R => ∃ O m M r, Sim K O m M H ∧ EnvR K (gr O m H) m s r ∧ PostI K O m H W s R (evI g r c M)
section
variable {X : Cx} {W : WX} {g : Cfg} {tg e a b : Expr} {ce ca cb : CE} {pos p : Pos}
abbrev MI (X : Cx) (W : WX) (g : Cfg) (tg e : Expr) (c : CI) : Prop := PI X tg e (tI X.K W g c)
theorem PI_imp {X : Cx} {tg e : Expr} {t t' : TI} (h : PI X tg e t) (i : ∀ s H Q, t' s H Q → t s H Q) : PI X tg e t' := ⟨fun pins s σ H Q I q => h.run pins s σ H Q I (i _ _ _ q)⟩
def iSeq (K : PySem.W.Frag) (tl : TE) : TI := fun σ H R => tl σ H fun x H1 => ∃ a, x = .ref a ∧ (((∃ xs, SqL K H1 a xs) ∧ R (Itl K a) H1) ∨ ((∃ xs, SqT K H1 a xs) ∧ R (Itt K a) H1))
theorem pi_seq {l : Expr} {tl : TE} (hl : PE X l tl) : PI X tg l (iSeq X.K tl) := by
  refine ⟨fun pins s σ H R I h => ?_⟩
  refine thn (hl.run pins s σ H _ I h) fun v s1 ⟨x, H1, I1, r1, q1⟩ => ?_
  obtain ⟨a, e, q⟩ := q1
  subst e
  cases r1
  rcases q with ⟨⟨xs, hq⟩, q⟩ | ⟨⟨xs, hq⟩, q⟩
  · obtain ⟨its, rv, p, hz⟩ := I1.list hq
    refine PySem.wpAny_pyIter_list p.isList ?_
    refine ⟨s1.heap.objs.size, [s1.heap.objs.size], _, _, H1, rfl, I1.kept (t' := s1.toks) fun b o e => Heap.get?_push_of_some _ e, turn_list a _, ⟨_, Heap.get?_push_size _ rfl, rfl, rfl⟩, fun b hb => ?_, q⟩
    have e : b = s1.heap.objs.size := by simpa using hb
    subst e
    exact I1.fpOk (Nat.le_refl _) (I1.hok.fresh (Nat.le_refl _))
  · obtain ⟨its, rv, p, hz⟩ := I1.tuple hq
    refine PySem.wpAny_pyIter_tuple (show s1.heap.IsTuple a its.toArray from p) ?_
    refine ⟨s1.heap.objs.size, [s1.heap.objs.size], _, _, H1, rfl, I1.kept (t' := s1.toks) fun b o e => Heap.get?_push_of_some _ e, turn_tuple a _, ⟨_, Heap.get?_push_size _ rfl, rfl, rfl⟩, fun b hb => ?_, q⟩
    have e : b = s1.heap.objs.size := by simpa using hb
    subst e
    exact I1.fpOk (Nat.le_refl _) (I1.hok.fresh (Nat.le_refl _))
theorem keepT {K : PySem.W.Frag} {H1 H : Hp} {m1 : List Addr} {a : Addr} {vs : List V} {G : Hp} (hG : Same G H1) (hm : ∀ b o, G b = some o → b ∉ m1) (k : ∀ a o, a ∉ m1 → H1 a = some o → H a = some o) (h : SqT K G a vs) : SqT K H a vs := by
  rcases h with (h | ⟨o, h⟩) | h
  · exact .inl (.inl (k _ _ (hm _ _ h) (hG _ _ h)))
  · exact .inl (.inr ⟨o, k _ _ (hm _ _ h) (hG _ _ h)⟩)
  · exact .inr h
theorem gr_out {O m : List Addr} {H : Hp} : ∀ b o, gr O m H b = some o → b ∉ m := fun b o h z => (of_hide h).1 (List.mem_append_right _ z)
theorem i_seq (h : ME X W g e ce) : MI X W g tg e (.seq ce) := PI_imp (pi_seq h) fun s H R ⟨O, m, M, r, S, RR, h⟩ => by
  simp only [evI] at h
  have h' : PostE X.K O m H W s (fun v H1 => Aft X.K O m H v H1 fun x m1 M1 => PostI X.K O m1 H1 W s R (.opt (itemsV M1 x) M1)) (evE g r ce M) := by
    cases q : evE g r ce M with
    | stuck => rw [q] at h; exact h.elim
    | exn c x M' => rw [q] at h; exact h
    | ok x M' =>
      rw [q] at h
      intro v m1 H1 e1 S1 r1
      refine ⟨x, m1, M', e1, S1, r1, ?_⟩
      simp only [Res.bind_ok] at h
      cases q2 : itemsV M' x with
      | none => rw [q2] at h; exact h.elim
      | some xs =>
        rw [q2] at h
        show PostI X.K O m1 H1 W s R (.opt (itemsV M' x) M')
        rw [q2]
        exact fun J m' H' e' S' w' => h J m' H' (e1.trans e') S' w'
  refine ⟨O, m, M, r, S, RR, h'.imp fun v H1 ⟨x, m1, M1, e1, S1, r1, h1⟩ => ?_⟩
  dsimp only at h1
  cases q2 : itemsV M1 x with
  | none => rw [q2] at h1; exact h1.elim
  | some xs =>
    rw [q2] at h1
    cases x with
    | tup ys =>
      have e' := Option.some.inj q2
      subst e'
      cases r1 with
      | @tup a vs _ k1 k2 =>
        refine ⟨a, rfl, .inr ⟨⟨vs, .inl (.inl (hide_same _ _ k1))⟩, h1 _ m1 H1 Ext.refl S1 ⟨fun H i k hi => ?_, fun H k => ?_, fun H i w H' x k hx y => ?_⟩⟩⟩
        · have q := keepT (K := X.K) hide_same gr_out k (.inl (.inl k1))
          exact ⟨vs, vs[i]'(by rw [k2.len]; exact hi), q, List.getElem?_eq_getElem _⟩
        · exact ⟨vs, keepT hide_same gr_out k (.inl (.inl k1)), by rw [k2.len]; exact Nat.le_refl _⟩
        · obtain ⟨y1, y2⟩ := y
          obtain ⟨w', j1, j2⟩ := k2.get hx
          have z := y2 vs (keepT hide_same gr_out k (.inl (.inl k1)))
          rw [j1] at z
          cases z
          exact ⟨y1, j2⟩
    | lst ys =>
      have e' := Option.some.inj q2
      subst e'
      cases r1 with
      | @lst a vs _ k1 k2 =>
        have k0 : ∀ {H : Hp}, (∀ a o, a ∉ m1 → H1 a = some o → H a = some o) → SqL X.K H a vs := fun k => SqL.of (k _ _ (gr_out _ _ k1) (hide_same _ _ k1))
        refine ⟨a, rfl, .inl ⟨⟨vs, SqL.of (hide_same _ _ k1)⟩, h1 _ m1 H1 Ext.refl S1 ⟨fun H i k hi => ?_, fun H k => ?_, fun H i w H' x k hx y => ?_⟩⟩⟩
        · exact ⟨vs, vs[i]'(by rw [k2.len]; exact hi), k0 k, List.getElem?_eq_getElem _⟩
        · exact ⟨vs, k0 k, by rw [k2.len]; exact Nat.le_refl _⟩
        · obtain ⟨y1, y2⟩ := y
          obtain ⟨w', j1, j2⟩ := k2.get hx
          have z := y2 vs (k0 k)
          rw [j1] at z
          cases z
          exact ⟨y1, j2⟩
    | _ => cases q2
theorem i_chr (h : ME X W g e ce) : MI X W g tg e (.chr ce) := PI_imp (pi_str h) fun s H R ⟨O, m, M, r, S, RR, h⟩ => by
  simp only [evI] at h
  refine ⟨O, m, M, r, S, RR, ?_⟩
  cases q : evE g r ce M with
  | stuck => rw [q] at h; exact h.elim
  | exn c x M' => rw [q] at h; exact h
  | ok x M' =>
    rw [q] at h
    simp only [Res.bind_ok] at h
    intro v m1 H1 e1 S1 r1
    cases x with
    | str z =>
      cases r1
      refine ⟨z, rfl, h _ m1 H1 e1 S1 ⟨fun H i k hi => ?_, fun H k => ?_, fun H i w H' x k hx y => ?_⟩⟩
      · rw [List.length_map, Array.length_toList] at hi
        exact hi
      · rw [List.length_map, Array.length_toList]
        exact Nat.le_refl _
      · obtain ⟨y1, c, y2, y3⟩ := y
        rw [List.getElem?_map, Array.getElem?_toList, y2] at hx
        cases hx
        subst y3
        exact ⟨y1, .str _⟩
    | _ => exact h.elim
theorem intsFrom_len : ∀ (n : Nat) (lo : Int), (intsFrom lo n).length = n
  | 0, _ => rfl
  | n + 1, lo => by show (intsFrom (lo + 1) n).length + 1 = n + 1; rw [intsFrom_len n]
theorem intsFrom_get : ∀ (n : Nat) (lo : Int) (i : Nat) (x : MV), (intsFrom lo n)[i]? = some x → x = .int (lo + i)
  | 0, _, _, _, h => by cases h
  | n + 1, lo, 0, x, h => by
    have h' : MV.int lo = x := Option.some.inj h
    rw [← h']
    simp
  | n + 1, lo, i + 1, x, h => by
    have z := intsFrom_get n (lo + 1) i x h
    rw [z]
    congr 1
    omega
theorem wlk_rng {K : PySem.W.Frag} {H1 : Hp} {m1 : List Addr} {G : Hp} {lo : Int} {n : Nat} : Wlk K (Itr lo n) H1 m1 G (intsFrom lo n) := by
  refine ⟨fun H i _ hi => ?_, fun H _ => ?_, fun H i v H' x _ hx y => ?_⟩
  · rw [intsFrom_len] at hi; exact hi
  · rw [intsFrom_len]; exact Nat.le_refl n
  · obtain ⟨y1, y2⟩ := y
    subst y2
    rw [intsFrom_get _ _ _ _ hx]
    exact ⟨y1, .int _⟩
theorem i_rng (hg : Gl X "range") (hm : X.mg "range" = none) (ha : ME X W g a ca) (hs : starEach [a] X.env = [(false, eval a X.env)] := by rfl) : MI X W g tg (.Call (.Name "range" p) [a] [] pos) (.rng ca) :=
  PI_imp (pi_range1 hg hm (a_cons ha a_nil (by rw [hs]; rfl)) hs) fun s H R ⟨O, m, M, r, S, RR, h⟩ => by
    refine ⟨O, m, M, r, S, RR, ?_⟩
    simp only [evI] at h
    simp only [evL]
    cases q : evE g r ca M with
    | stuck => rw [q] at h; exact h.elim
    | exn c x M' => rw [q] at h; exact h
    | ok x M' =>
      rw [q] at h
      simp only [Res.bind_ok] at h ⊢
      intro vs m1 H1 e1 S1 r1
      obtain ⟨v, rfl, rv⟩ := r1.one
      cases x with
      | int j =>
        cases rv
        simp only at h
        split at h
        · rename_i hc
          exact ⟨j, rfl, hc.1, hc.2, h _ m1 H1 e1 S1 wlk_rng⟩
        · exact h.elim
      | _ => exact h.elim
theorem i_rng2 (hg : Gl X "range") (hm : X.mg "range" = none) (ha : ME X W g a ca) (hb : ME X W g b cb) (hs : starEach [a, b] X.env = [(false, eval a X.env), (false, eval b X.env)] := by rfl) (hs2 : starEach [b] X.env = [(false, eval b X.env)] := by rfl) :
    MI X W g tg (.Call (.Name "range" p) [a, b] [] pos) (.rng2 ca cb) :=
  PI_imp (pi_range2 hg hm (a_cons ha (a_cons hb a_nil (by rw [hs2]; rfl)) (by rw [hs, hs2])) hs hs2) fun s H R ⟨O, m, M, r, S, RR, h⟩ => by
    refine ⟨O, m, M, r, S, RR, ?_⟩
    simp only [evI] at h
    simp only [evL]
    cases q : evE g r ca M with
    | stuck => rw [q] at h; exact h.elim
    | exn c x M' => rw [q] at h; exact h
    | ok x M' =>
      rw [q] at h
      simp only [Res.bind_ok] at h ⊢
      cases q2 : evE g r cb M' with
      | stuck => rw [q2] at h; exact h.elim
      | exn c x M' => rw [q2] at h; exact h
      | ok y M2 =>
        rw [q2] at h
        simp only [Res.bind_ok] at h ⊢
        intro vs m1 H1 e1 S1 r1
        obtain ⟨v, w, rfl, rv, rw'⟩ := r1.two
        split at h
        · cases rv; cases rw'
          split at h
          · rename_i hc
            exact ⟨_, _, rfl, hc, h _ m1 H1 e1 S1 wlk_rng⟩
          · exact h.elim
        · exact h.elim
end
/-! ### comprehensions -/
abbrev Wno : WX := fun _ _ _ _ => False
section
variable {X : Cx} {W : WX} {g : Cfg} {elt tg iter : Expr} {ifs : List Expr} {scope : Scope} {own : List (Str × Nat)} {pos : Pos} {ce : CE} {ci : CI} {ct : CO} {is : List Nat} {one : Bool}
/-- a clause's tests -/
def tTs (K : PySem.W.Frag) (g : Cfg) (c : CO) : TT := fun s H Q => ∃ O m M r, Sim K O m M H ∧ EnvR K (gr O m H) m s r ∧ PostB K O m H Wno s Q (evT g r c M)
theorem ts_nil : PTs X [] (tTs X.K g .none) := ⟨fun pins s σ H Q I ⟨O, m, M, r, S, R, h⟩ => pts_nil.run pins s σ H Q I (h m H Ext.refl S)⟩
theorem ts_one {c : Expr} {cc : CE} (h : MT X Wno g c cc) : PTs X [c] (tTs X.K g (.some cc)) := ⟨fun pins s σ H Q I ⟨O, m, M, r, S, R, q⟩ => (pts_one h).run pins s σ H Q I ⟨O, m, M, r, S, R, q⟩⟩
/-- one element -/
def eltR (g : Cfg) (r : Rho) (is : List Nat) (one : Bool) (ct : CO) (ce : CE) (x : MV) (M : Mem) : Res (Option MV) := match bind1 is one x (wipeR r is) with
  | none => .stuck
  | some r2 => calm ((evT g r2 ct M).bind fun b M3 => if b then (evE g r2 ce M3).bind fun y M4 => .ok (some y) M4 else .ok none M3)
theorem lcp_eq {r : Rho} {M : Mem} : evE g r (.lcp is one ci ct ce) M = (evI g r ci M).bind fun xs M1 => (mapR (eltR g r is one ct ce) xs M1).bind fun ys M2 => if ys.length ≤ sizeLine then .ok (.lst ys) M2 else .stuck := by
  simp only [evE]
  rfl
/-- an element's run, and the rest -/
theorem elt_ok {r : Rho} {x : MV} {xs ys : List MV} {M M' : Mem} (h : mapR (eltR g r is one ct ce) (x :: xs) M = .ok ys M') :
    ∃ r2 b M3, bind1 is one x (wipeR r is) = some r2 ∧ evT g r2 ct M = .ok b M3 ∧ ((b = true ∧ ∃ y zs M4, evE g r2 ce M3 = .ok y M4 ∧ mapR (eltR g r is one ct ce) xs M4 = .ok zs M' ∧ ys = y :: zs) ∨ (b = false ∧ mapR (eltR g r is one ct ce) xs M3 = .ok ys M')) := by
  unfold mapR at h
  cases qe : eltR g r is one ct ce x M with
  | stuck => rw [qe] at h; cases h
  | exn _ _ _ => rw [qe] at h; cases h
  | ok o M1 =>
    rw [qe] at h
    simp only [Res.bind_ok] at h
    cases q3 : mapR (eltR g r is one ct ce) xs M1 with
    | stuck => rw [q3] at h; cases h
    | exn _ _ _ => rw [q3] at h; cases h
    | ok zs M5 =>
      rw [q3] at h
      simp only [Res.bind_ok] at h
      unfold eltR at qe
      cases q1 : bind1 is one x (wipeR r is) with
      | none => rw [q1] at qe; cases qe
      | some r2 =>
        rw [q1] at qe
        simp only at qe
        cases q2 : evT g r2 ct M with
        | stuck => rw [q2] at qe; cases qe
        | exn _ _ _ => rw [q2] at qe; cases qe
        | ok b M3 =>
          rw [q2] at qe
          simp only [Res.bind_ok] at qe
          refine ⟨r2, b, M3, rfl, q2, ?_⟩
          cases b with
          | false =>
            simp only [Bool.false_eq_true, if_false, calm] at qe
            cases qe
            cases h
            exact .inr ⟨rfl, q3⟩
          | true =>
            simp only [if_true] at qe
            cases q4 : evE g r2 ce M3 with
            | stuck => rw [q4] at qe; cases qe
            | exn _ _ _ => rw [q4] at qe; cases qe
            | ok y M4 =>
              rw [q4] at qe
              simp only [Res.bind_ok, calm] at qe
              cases qe
              cases h
              exact .inl ⟨rfl, _, zs, _, rfl, q3, rfl⟩
theorem mapR_calm {r : Rho} : ∀ {xs : List MV} {M M' : Mem} {c : Str} {x : MV}, mapR (eltR g r is one ct ce) xs M ≠ .exn c x M'
  | [], _, _, _, _ => fun h => by cases h
  | y :: xs, M, M', c, x => fun h => by
    unfold mapR at h
    cases q : eltR g r is one ct ce y M with
    | stuck => rw [q] at h; cases h
    | exn c2 x2 M2 =>
      unfold eltR at q
      split at q
      · cases q
      · unfold calm at q
        split at q
        · cases q
        · rename_i hn
          exact hn _ _ _ q
    | ok o M1 =>
      rw [q] at h
      simp only [Res.bind_ok] at h
      cases q3 : mapR (eltR g r is one ct ce) xs M1 with
      | stuck => rw [q3] at h; cases h
      | ok _ _ => rw [q3] at h; cases h
      | exn _ _ _ => exact mapR_calm q3
theorem mapR_len {f : MV → Mem → Res (Option MV)} : ∀ {xs ys : List MV} {M M' : Mem}, mapR f xs M = .ok ys M' → ys.length ≤ xs.length
  | [], ys, _, _, h => by cases h; exact Nat.le_refl _
  | x :: xs, ys, M, M', h => by
    unfold mapR at h
    cases q : f x M with
    | stuck => rw [q] at h; cases h
    | exn _ _ _ => rw [q] at h; cases h
    | ok o M1 =>
      rw [q] at h
      simp only [Res.bind_ok] at h
      cases q3 : mapR f xs M1 with
      | stuck => rw [q3] at h; cases h
      | exn _ _ _ => rw [q3] at h; cases h
      | ok zs M2 =>
        rw [q3] at h
        have ih := mapR_len q3
        simp only [Res.bind_ok] at h
        cases h
        cases o with
        | none => show zs.length ≤ xs.length + 1; omega
        | some y => show zs.length + 1 ≤ xs.length + 1; omega
/-- the block's reading out of the interpreter's run -/
theorem lc_of {K : PySem.W.Frag} {s : St} {H : Hp} {Q : VK} (h : tE K W g (.lcp is one ci ct ce) s H Q) : tLc (tI K W g ci) (tG K is one) (tTs K g ct) (tE K Wno g ce) is s H Q := by
  obtain ⟨O, m, M, r, S, R, h⟩ := h
  rw [lcp_eq] at h
  have h' : PostI K O m H W s (fun J H1 => ∃ xs m1 M1, Ext m H m1 H1 ∧ Sim K O m1 M1 H1 ∧ Wlk K J H1 m1 (gr O m1 H1) xs ∧ PostE K O m1 H1 W s Q ((mapR (eltR g r is one ct ce) xs M1).bind fun ys M2 => if ys.length ≤ sizeLine then .ok (.lst ys) M2 else .stuck)) (evI g r ci M) := by
    cases q : evI g r ci M with
    | stuck => rw [q] at h; exact h.elim
    | exn c x M' => rw [q] at h; exact h
    | ok xs M' =>
      rw [q] at h
      exact fun J m1 H1 e1 S1 w1 => ⟨xs, m1, M', e1, S1, w1, PostE.later h e1⟩
  refine ⟨O, m, M, r, S, R, ?_⟩
  cases qi : evI g r ci M with
  | stuck => rw [qi] at h'; exact h'.elim
  | exn c x M' => rw [qi] at h'; exact h'
  | ok xs0 M0 =>
    rw [qi] at h'
    intro J m1' H1 e1' S1' w1'
    obtain ⟨xs, m1, M1, e1, S1, w1, h1⟩ := h' J m1' H1 e1' S1' w1'
    intro D hD
    cases qm : mapR (eltR g r is one ct ce) xs M1 with
    | stuck => rw [qm] at h1; exact h1.elim
    | exn c x M' => exact absurd qm mapR_calm
    | ok ys Me =>
      rw [qm] at h1
      simp only [Res.bind_ok] at h1
      split at h1
      · rename_i hz
        have R1 := R.ext e1
        -- the invariant
        refine ⟨fun i mm H => mm = xs.length - i ∧ i ≤ xs.length ∧ ∃ mi Mi acc don zs, Ext m1 H1 mi H ∧ Sim K (D :: O) mi Mi H ∧ H D = some (.lst acc) ∧ RepL K (gr (D :: O) mi H) mi acc don ∧ mapR (eltR g r is one ct ce) (xs.drop i) Mi = .ok zs Me ∧ ys = don ++ zs ∧ EnvR K (gr (D :: O) mi H) mi s r, ⟨xs.length, ?_⟩, ?_⟩
        · refine ⟨by simp, Nat.zero_le _, m1, M1, [], [], ys, Ext.alloc S1 hD, S1.hid hD, upd_same, .nil, qm, rfl, ?_⟩
          rw [gr_hid hD]
          exact R1
        · rintro i mm H2 ⟨rfl, hi, mi, Mi, acc, don, zs, ei, Si, hDi, ri, qi, ey, Ri⟩
          have keep : ∀ a o, a ∉ m1 → H1 a = some o → H2 a = some o := ei.keep
          by_cases hlt : i < xs.length
          · refine .inr ⟨w1.go H2 i keep hlt, fun H5 => i + 1 ≤ xs.length ∧ ∃ mi Mi acc don zs, Ext m1 H1 mi H5 ∧ Sim K (D :: O) mi Mi H5 ∧ H5 D = some (.lst acc) ∧ RepL K (gr (D :: O) mi H5) mi acc don ∧ mapR (eltR g r is one ct ce) (xs.drop (i + 1)) Mi = .ok zs Me ∧ ys = don ++ zs ∧ EnvR K (gr (D :: O) mi H5) mi s r, fun H5 ⟨l5, h5⟩ => ⟨xs.length - (i + 1), by omega, rfl, l5, h5⟩, fun v H3 y => ?_⟩
            obtain ⟨eH, rv⟩ := w1.yld H2 i v H3 xs[i] keep (List.getElem?_eq_getElem hlt) y
            subst eH
            rw [List.drop_eq_getElem_cons hlt] at qi
            obtain ⟨r2, b, M3, k1, k2, k3⟩ := elt_ok qi
            have hG : Same (gr O m1 H1) (gr (D :: O) mi H3) := fun a o ha => by
              have hne : a ≠ D := fun z => by
                have := (of_hide ha).2
                rw [z, hD] at this
                cases this
              have h2 := ei.sub (O := O) a o ha
              obtain ⟨n1, n2⟩ := of_hide h2
              show hide _ _ _ = _
              rw [hide_of, n2]
              intro z
              simp only [List.cons_append, List.mem_cons] at z
              rcases z with z | z
              · exact hne z
              · exact n1 z
            refine ⟨D :: O, mi, Mi, xs[i], wipeR r is, r2, Si, Ri.wipe is, rv.mono hG ei.pre, k1, fun s2 R2 hw => ⟨?_, ?_⟩⟩
            · have ww : ∀ (s : St) (vs : List Nat), L2.wipe (L2.wipe s vs) vs = L2.wipe s vs := by
                intro s vs
                have key : ∀ (js vs : List Nat) (s : St), (∀ j ∈ js, j ∈ vs) → L2.wipe (L2.wipe s js) vs = L2.wipe s vs := by
                  intro js
                  induction js with
                  | nil => intro vs s _; rfl
                  | cons j js ih =>
                    intro vs s hj
                    show L2.wipe ((L2.wipe s js).set j none) vs = _
                    rw [wipe_set (hj j List.mem_cons_self), ih vs s fun k hk => hj k (List.mem_cons_of_mem _ hk)]
                exact key vs vs s fun _ z => z
              rw [hw, ww]
            · refine ⟨D :: O, mi, Mi, r2, Si, R2, ?_⟩
              rw [k2]
              intro m3 H4 e3 S3
              have dn : D ∉ mi := fun z => Si.dis D z List.mem_cons_self
              have hD4 : H4 D = some (.lst acc) := e3.keep D _ dn hDi
              rcases k3 with ⟨eb, y, zs', M4, k4, k5, k6⟩ | ⟨eb, k5⟩
              · subst eb
                refine iteT ⟨D :: O, m3, M3, r2, S3, R2.ext e3, ?_⟩
                rw [k4]
                intro u m4 H5 e4 S4 ru
                have dn4 : D ∉ m3 := fun z => S3.dis D z List.mem_cons_self
                have hD5 : H5 D = some (.lst acc) := e4.keep D _ dn4 hD4
                have dn5 : D ∉ m4 := fun z => S4.dis D z List.mem_cons_self
                have hl : acc.length = don.length := ri.len
                have hy := congrArg List.length ey
                rw [k6, List.length_append, List.length_cons] at hy
                refine ⟨acc, hD5, by omega, by omega, m4, M4, acc ++ [u], don ++ [y], zs', ?_, S4.set List.mem_cons_self, upd_same, ?_, k5, by rw [ey, k6]; simp, ?_⟩
                · have e5 := (ei.trans e3).trans e4
                  refine ⟨e5.pre, fun a o ha h => ?_, e5.new, fun a o h => ?_⟩
                  · rw [upd_ne (ne_of_none h hD)]
                    exact e5.keep a o ha h
                  · obtain ⟨o', h'⟩ := e5.there a o h
                    exact ⟨o', by rw [upd_ne (ne_of_none h hD)]; exact h'⟩
                · rw [gr_set List.mem_cons_self]
                  exact ((ri.ext e3).ext e4).append (.cons ru .nil)
                · rw [gr_set List.mem_cons_self]
                  exact (Ri.ext e3).ext e4
              · subst eb
                exact iteF ⟨by omega, m3, M3, acc, don, zs, ei.trans e3, S3, hD4, ri.ext e3, k5, ey, Ri.ext e3⟩
          · have ei' : i = xs.length := by omega
            subst ei'
            rw [List.drop_length] at qi
            cases qi
            rw [List.append_nil] at ey
            subst ey
            refine .inl ⟨w1.stop H2 keep, h1 (.ref D) mi H2 ei Si.unhid (.lst ?_ (ri.mono gr_unhid (List.prefix_refl _)))⟩
            show hide _ _ _ = _
            rw [hide_of, hDi]
            intro z
            rcases List.mem_append.mp z with z | z
            · exact S1.otr D z hD
            · exact Si.dis D z List.mem_cons_self
      · exact h1.elim
theorem m_lcp (hc : X.calm = true) (hN : X.N.Nodup) (hi : MI X W g tg iter ci) (ok : BlkOk X.N X.env.scope scope own)
    (hg : ∀ (s : Shared) (H : Hp) (C : Addr) (cl : List (Str × Addr)) (fp : List Addr), MG (X.blk s H scope (PySem.compEnvC scope cl C X.env) fp) tg is one) (ht : ∀ (s : Shared) (H : Hp) (C : Addr) (cl : List (Str × Addr)) (fp : List Addr), PTs (X.blk s H scope (PySem.compEnvC scope cl C X.env) fp) ifs (tTs X.K g ct))
    (he : ∀ (s : Shared) (H : Hp) (C : Addr) (cl : List (Str × Addr)) (fp : List Addr), ME (X.blk s H scope (PySem.compEnvC scope cl C X.env) fp) Wno g elt ce) (hw : own.map (·.2) = is := by rfl) (hs : ∀ x, foldedSetIterable iter X.env x = pure x := by intro _; rfl) :
    ME X W g (.ListComp elt [⟨tg, iter, ifs, 0⟩] scope pos) (.lcp is one ci ct ce) := by
  subst hw
  exact PE_imp (pe_lc hc hN hi ok hg ht he hs) fun s H Q h => lc_of h
end
end Mini

set_option Elab.async false
set_option linter.all false
set_option maxRecDepth 100000
set_option maxHeartbeats 1000000
/-! MiI: statements. -/
namespace Mini
open PySem L2
def PostS (K : PySem.W.Frag) (O m : List Addr) (H : Hp) (W : WX) (na : Bool) (s : St) (D : Ends) : Res Flw → Prop
  | .ok (.next r') M' => ∀ s' m' H', (na = true → s' = s) → Ext m H m' H' → Sim K O m' M' H' → EnvR K (gr O m' H') m' s' r' → D.nx s' H'
  | .ok (.brk r') M' => ∀ s' m' H', (na = true → s' = s) → Ext m H m' H' → Sim K O m' M' H' → EnvR K (gr O m' H') m' s' r' → D.bk s' H'
  | .ok (.cnt r') M' => ∀ s' m' H', (na = true → s' = s) → Ext m H m' H' → Sim K O m' M' H' → EnvR K (gr O m' H') m' s' r' → D.ct s' H'
  | .ok (.ret x) M' => ∀ v m' H', Ext m H m' H' → Sim K O m' M' H' → RepV K (gr O m' H') m' v x → D.rt v H'
  | .exn c x M' => ∀ s' d v m' H', (na = true → s' = s) → Ext m H m' H' → Sim K O m' M' H' → RepV K (gr O m' H') m' v x → H' d = some (.xd [(fo c, v)]) → W (.ref (He.ga K c)) (some d) s' H'
  | .stuck => False
def tS (K : PySem.W.Frag) (W : WX) (g : Cfg) (na : Bool) (c : CS) : TS := fun D s H => ∃ O m M r, Sim K O m M H ∧ EnvR K (gr O m H) m s r ∧ PostS K O m H W na s D (evS g c r M)
def tBl (K : PySem.W.Frag) (W : WX) (g : Cfg) (na : Bool) (c : CB) : TS := fun D s H => ∃ O m M r, Sim K O m M H ∧ EnvR K (gr O m H) m s r ∧ PostS K O m H W na s D (evB g c r M)
section
variable {K : PySem.W.Frag} {O m m1 : List Addr} {H H1 : Hp} {W : WX} {s s1 : St} {M : Mem} {na : Bool} {D : Ends}
theorem PostS.later {R : Res Flw} (h : PostS K O m H W na s D R) (e : Ext m H m1 H1) (hs : na = true → s1 = s) : PostS K O m1 H1 W na s1 D R := by
  cases R with
  | ok w M' =>
    cases w with
    | next r' => exact fun s' m' H' hs' e' S' R' => h s' m' H' (fun z => (hs' z).trans (hs z)) (e.trans e') S' R'
    | brk r' => exact fun s' m' H' hs' e' S' R' => h s' m' H' (fun z => (hs' z).trans (hs z)) (e.trans e') S' R'
    | cnt r' => exact fun s' m' H' hs' e' S' R' => h s' m' H' (fun z => (hs' z).trans (hs z)) (e.trans e') S' R'
    | ret x => exact fun v m' H' e' S' r' => h v m' H' (e.trans e') S' r'
  | exn c x M' => exact fun s' d v m' H' hs' e' S' r' q => h s' d v m' H' (fun z => (hs' z).trans (hs z)) (e.trans e') S' r' q
  | stuck => exact h
theorem PostS.bindE {R : Res MV} {k : MV → Mem → Res Flw} (h : PostS K O m H W na s D (R.bind k)) : PostE K O m H W s (fun v H1 => Aft K O m H v H1 fun x m1 M1 => PostS K O m1 H1 W na s D (k x M1)) R := by
  cases R with
  | ok x M' => exact fun v m' H' e' S' r' => ⟨x, m', M', e', S', r', PostS.later (R := k x M') h e' fun _ => rfl⟩
  | exn c x M' => exact fun d v m' H' e' S' r' q => h s d v m' H' (fun _ => rfl) e' S' r' q
  | stuck => exact h
theorem PostS.bindL {R : Res (List MV)} {k : List MV → Mem → Res Flw} (h : PostS K O m H W na s D (R.bind k)) : PostL K O m H W s (fun v H1 => ∃ x m1 M1, Ext m H m1 H1 ∧ Sim K O m1 M1 H1 ∧ RepL K (gr O m1 H1) m1 v x ∧ PostS K O m1 H1 W na s D (k x M1)) R := by
  cases R with
  | ok x M' => exact fun v m' H' e' S' r' => ⟨x, m', M', e', S', r', PostS.later (R := k x M') h e' fun _ => rfl⟩
  | exn c x M' => exact fun d v m' H' e' S' r' q => h s d v m' H' (fun _ => rfl) e' S' r' q
  | stuck => exact h
theorem PostS.bindB {α : Type} {R : Res α} {k : α → Mem → Res Flw} (h : PostS K O m H W na s D (R.bind k)) : PostB K O m H W s (fun x H1 => ∃ m1 M1, Ext m H m1 H1 ∧ Sim K O m1 M1 H1 ∧ PostS K O m1 H1 W na s D (k x M1)) R := by
  cases R with
  | ok x M' => exact fun m' H' e' S' => ⟨m', M', e', S', PostS.later (R := k x M') h e' fun _ => rfl⟩
  | exn c x M' => exact fun d v m' H' e' S' r' q => h s d v m' H' (fun _ => rfl) e' S' r' q
  | stuck => exact h
theorem PostS.next {r : Rho} (h : PostS K O m H W na s D (.ok (.next r) M)) (S : Sim K O m M H) (R : EnvR K (gr O m H) m s r) : D.nx s H := h s m H (fun _ => rfl) Ext.refl S R
end
theorem PS_imp {X : Cx} {e : Stmt} {t t' : TS} (h : PS X e t) (i : ∀ D s H, t' D s H → t D s H) : PS X e t' := ⟨fun pins s σ H D I q => h.run pins s σ H D I (i _ _ _ q)⟩
theorem PSs_imp {X : Cx} {e : List Stmt} {t t' : TS} (h : PSs X e t) (i : ∀ D s H, t' D s H → t D s H) : PSs X e t' := ⟨fun pins s σ H D I q => h.run pins s σ H D I (i _ _ _ q)⟩
section
variable {X : Cx} {W : WX} {g : Cfg} {a b c e o k : Expr} {es rest : List Expr} {ca cb cc ce co ck : CE} {cl : CL} {pos p p' apos : Pos} {na : Bool} {st : Stmt} {sts sts' : List Stmt} {cs : CS} {bs bs' : CB} {f : Str}
abbrev MS (X : Cx) (W : WX) (g : Cfg) (na : Bool) (st : Stmt) (c : CS) : Prop := PS X st (tS X.K W g na c)
abbrev MB (X : Cx) (W : WX) (g : Cfg) (na : Bool) (st : List Stmt) (c : CB) : Prop := PSs X st (tBl X.K W g na c)
/-! ### blocks -/
theorem b_nil : MB X W g na [] .nil := PSs_imp pss_nil fun D s H ⟨O, m, M, r, S, R, h⟩ => h s m H (fun _ => rfl) Ext.refl S R
theorem b_cons (h1 : MS X W g na st cs) (h2 : MB X W g na sts bs) : MB X W g na (st :: sts) (.cons cs bs) := PSs_imp (pss_cons h1 h2) fun D s H ⟨O, m, M, r, S, R, h⟩ => by
  refine ⟨O, m, M, r, S, R, ?_⟩
  simp only [evB] at h
  cases q : evS g cs r M with
  | stuck => rw [q] at h; exact h.elim
  | exn c x M' => rw [q] at h; exact h
  | ok w M' =>
    rw [q] at h
    cases w with
    | next r' => exact fun s' m' H' hs' e' S' R' => ⟨O, m', M', r', S', R', PostS.later (R := evB g bs r' M') h e' hs'⟩
    | brk r' => exact h
    | cnt r' => exact h
    | ret x => exact h
theorem s_pas : MS X W g na (.Pass pos) .pas := PS_imp ps_pass fun D s H ⟨O, m, M, r, S, R, h⟩ => h s m H (fun _ => rfl) Ext.refl S R
theorem s_brk : MS X W g na (.Break pos) .brk := PS_imp ps_break fun D s H ⟨O, m, M, r, S, R, h⟩ => h s m H (fun _ => rfl) Ext.refl S R
theorem s_cnt : MS X W g na (.Continue pos) .cnt := PS_imp ps_continue fun D s H ⟨O, m, M, r, S, R, h⟩ => h s m H (fun _ => rfl) Ext.refl S R
theorem s_exp (he : ME X W g e ce) (hs : swapsWith e none pos.line X.env = pure false := by rfl) : MS X W g na (.Expr e pos) (.exp ce) := PS_imp (ps_expr he hs) fun D s H ⟨O, m, M, r, S, R, h⟩ => by
  simp only [evS] at h
  exact ⟨O, m, M, r, S, R, h.bindE.imp fun v H1 ⟨x, m1, M1, e1, S1, r1, h1⟩ => h1.next S1 (R.ext e1)⟩
theorem s_ret (he : ME X W g e ce) : MS X W g na (.Return (some e) pos) (.ret ce) := PS_imp (ps_ret he) fun D s H ⟨O, m, M, r, S, R, h⟩ => by
  simp only [evS] at h
  exact ⟨O, m, M, r, S, R, h.bindE.imp fun v H1 ⟨x, m1, M1, e1, S1, r1, h1⟩ => h1 v m1 H1 Ext.refl S1 r1⟩
theorem s_retN : MS X W g na (.Return none pos) .retN := PS_imp ps_retN fun D s H ⟨O, m, M, r, S, R, h⟩ => h .non m H Ext.refl S .non
theorem s_ite (hc : MT X W g c cc) (ha : MB X W g na sts bs) (hb : MB X W g na sts' bs') : MS X W g na (.If c sts sts' pos) (.ite cc bs bs') := PS_imp (ps_if hc ha hb) fun D s H ⟨O, m, M, r, S, R, h⟩ => by
  simp only [evS] at h
  refine ⟨O, m, M, r, S, R, (PostS.bindB h).imp fun k H1 ⟨m1, M1, e1, S1, h1⟩ => ?_⟩
  cases k with
  | true => exact ⟨O, m1, M1, r, S1, R.ext e1, h1⟩
  | false => exact ⟨O, m1, M1, r, S1, R.ext e1, h1⟩
/-! ### assignments -/
theorem s_asg {i : Nat} {x : Str} {pos' : Pos} (hN : X.N.Nodup) (hi : X.N[i]? = some x) (hx : Loc X.env.scope x) (he : ME X W g e ce) (hs : swapsWith e (some (.Name x pos')) pos.line X.env = pure false := by rfl) (hf : X.fn x = true ∨ X.env.scope.names.lookup x = some .local := by first | exact .inl rfl | exact .inr rfl | assumption) :
    MS X W g false (.Assign [.Name x pos'] e pos) (.asg i ce) := PS_imp (ps_set hN hi hx he hs hf) fun D s H ⟨O, m, M, r, S, R, h⟩ => by
  simp only [evS] at h
  exact ⟨O, m, M, r, S, R, h.bindE.imp fun v H1 ⟨x, m1, M1, e1, S1, r1, h1⟩ => h1 _ m1 H1 (fun z => nomatch z) Ext.refl S1 ((R.ext e1).set r1)⟩
/-- name = [..] on one line -/
theorem s_asgLc {i : Nat} {y : Str} {py : Pos} {elt tg iter : Expr} {ifs : List Expr} {scope : Scope} {own : List (Str × Nat)} {spos : Pos} {ci : CI} {ct : CO} {is : List Nat} {one : Bool} (hc : X.calm = true) (hN : X.N.Nodup) (hy : X.N[i]? = some y) (hyl : X.env.scope.names.lookup y = some .local)
    (hsw : swapsWith (.ListComp elt [⟨tg, iter, ifs, 0⟩] scope pos) (some (.Name y py)) spos.line X.env = pure true) (hi : MI X W g tg iter ci) (ok : BlkOk X.N X.env.scope scope own)
    (hg : ∀ (s : Shared) (H : Hp) (C : Addr) (cl : List (Str × Addr)) (fp : List Addr), MG (X.blk s H scope (PySem.compEnvC scope cl C X.env) fp) tg is one) (ht : ∀ (s : Shared) (H : Hp) (C : Addr) (cl : List (Str × Addr)) (fp : List Addr), PTs (X.blk s H scope (PySem.compEnvC scope cl C X.env) fp) ifs (tTs X.K g ct))
    (he : ∀ (s : Shared) (H : Hp) (C : Addr) (cl : List (Str × Addr)) (fp : List Addr), ME (X.blk s H scope (PySem.compEnvC scope cl C X.env) fp) Wno g elt ce) (hw : own.map (·.2) = is := by rfl) (hs : ∀ x, foldedSetIterable iter X.env x = pure x := by intro _; rfl) :
    MS X W g false (.Assign [.Name y py] (.ListComp elt [⟨tg, iter, ifs, 0⟩] scope pos) spos) (.asg i (.lcp is one ci ct ce)) := by
  subst hw
  refine PS_imp (ps_setLc (g := tG X.K (own.map (·.2)) one) (te := tE X.K Wno g ce) hc hN hy hyl hsw hi ok hg ht he hs) fun D s H ⟨O, m, M, r, S, R, h⟩ => ?_
  simp only [evS] at h
  exact lc_of ⟨O, m, M, r, S, R, h.bindE.imp fun v H1 ⟨x, m1, M1, e1, S1, r1, h1⟩ => h1 _ m1 H1 (fun z => nomatch z) Ext.refl S1 ((R.ext e1).set r1)⟩
theorem s_asgT {tg : Expr} {is : List Nat} (he : ME X W g e ce) (hg : MG X tg is false) (hs : swapsWithSole [tg] e pos.line X.env = pure false := by rfl) (hw : swappedStores [tg] e X.env = pure none := by rfl) (h1 : (assignEach [tg] X.env).map (·.2) = [assign tg X.env] := by rfl) :
    MS X W g false (.Assign [tg] e pos) (.asgT is ce) := PS_imp (ps_asg he hg hs hw h1) fun D s H ⟨O, m, M, r, S, R, h⟩ => by
  simp only [evS] at h
  refine ⟨O, m, M, r, S, R, h.bindE.imp fun v H1 ⟨x, m1, M1, e1, S1, r1, h1⟩ => ?_⟩
  dsimp only at h1
  cases q : bind1 is false x r with
  | none => rw [q] at h1; exact h1.elim
  | some r2 =>
    rw [q] at h1
    exact ⟨O, m1, M1, x, r, r2, S1, R.ext e1, r1, q, fun s2 R2 _ => h1 s2 m1 H1 (fun z => nomatch z) Ext.refl S1 R2⟩
theorem s_par {i j : Nat} {x y : Str} {px py pt : Pos} {kt k2 pt2} (hc : X.calm = true) (hN : X.N.Nodup) (hi : X.N[i]? = some x) (hj : X.N[j]? = some y) (hij : i ≠ j)
    (hx : X.env.scope.names.lookup x = some .local) (hy : X.env.scope.names.lookup y = some .local) (ha : MA X W g [a, b] cl) (hw : swappedStores [.Tuple [.Name x px, .Name y py] kt pt] (.Tuple [a, b] k2 pt2) X.env = pure (some [x, y]))
    (hs : swapsWithSole [.Tuple [.Name x px, .Name y py] kt pt] (.Tuple [a, b] k2 pt2) pos.line X.env = pure false := by rfl) : MS X W g false (.Assign [.Tuple [.Name x px, .Name y py] kt pt] (.Tuple [a, b] k2 pt2) pos) (.asgP [i, j] cl) :=
  PS_imp (ps_par hc hN hi hj hij hx hy ha hw hs) fun D s H ⟨O, m, M, r, S, R, h⟩ => by
    simp only [evS] at h
    refine ⟨O, m, M, r, S, R, h.bindL.imp fun vs H1 ⟨xs, m1, M1, e1, S1, r1, h1⟩ => ?_⟩
    simp only [bind1] at h1
    split at h1
    · rename_i r2 q
      obtain ⟨hl, q⟩ := ite_some q
      match xs, hl, r1 with
      | [u, w], _, .cons (v := v1) q1 (.cons (v := v2) q2 .nil) =>
        subst q
        exact ⟨v1, v2, rfl, h1 _ m1 H1 (fun z => nomatch z) Ext.refl S1 (((R.ext e1).set q1).set q2)⟩
    · exact h1.elim
theorem s_par3 {i j l : Nat} {x y z : Str} {px py pz pt : Pos} {kt k2 pt2} (hc : X.calm = true) (hN : X.N.Nodup) (hi : X.N[i]? = some x) (hj : X.N[j]? = some y) (hl : X.N[l]? = some z) (hij : i ≠ j) (hil : i ≠ l) (hjl : j ≠ l)
    (hx : X.env.scope.names.lookup x = some .local) (hy : X.env.scope.names.lookup y = some .local) (hz : X.env.scope.names.lookup z = some .local) (ha : MA X W g [a, b, c] cl) (hw : swappedStores [.Tuple [.Name x px, .Name y py, .Name z pz] kt pt] (.Tuple [a, b, c] k2 pt2) X.env = pure (some [x, y, z]))
    (hs : swapsWithSole [.Tuple [.Name x px, .Name y py, .Name z pz] kt pt] (.Tuple [a, b, c] k2 pt2) pos.line X.env = pure false := by rfl) : MS X W g false (.Assign [.Tuple [.Name x px, .Name y py, .Name z pz] kt pt] (.Tuple [a, b, c] k2 pt2) pos) (.asgP [i, j, l] cl) :=
  PS_imp (L2.ps_par3 hc hN hi hj hl hij hil hjl hx hy hz ha hw hs) fun D s H ⟨O, m, M, r, S, R, h⟩ => by
    simp only [evS] at h
    refine ⟨O, m, M, r, S, R, h.bindL.imp fun vs H1 ⟨xs, m1, M1, e1, S1, r1, h1⟩ => ?_⟩
    simp only [bind1] at h1
    split at h1
    · rename_i r2 q
      obtain ⟨hl, q⟩ := ite_some q
      match xs, hl, r1 with
      | [u, w, t], _, .cons (v := v1) q1 (.cons (v := v2) q2 (.cons (v := v3) q3 .nil)) =>
        subst q
        exact ⟨v1, v2, v3, rfl, h1 _ m1 H1 (fun z => nomatch z) Ext.refl S1 ((((R.ext e1).set q1).set q2).set q3)⟩
    · exact h1.elim
/-! ### stores -/
theorem sat_of {K : PySem.W.Frag} {O m : List Addr} {M M' : Mem} {H : Hp} {v u : V} {x y : MV} {fc : Str → Str → Bool} (hC : ClOk K fc) (S : Sim K O m M H) (r : RepV K (gr O m H) m v x) (ry : RepV K (gr O m H) m u y) (e : satV fc M x f y = some M') :
    ∃ a d dx gs, v = .ref a ∧ insV M x = some d ∧ H a = some (.ins (He.ga K d.1) dx gs) ∧ Cls K (He.ga K d.1) ∧ NoAttr K (He.ga K d.1) f ∧ gs.length < 1000 ∧ Ext m H m (upd H a (.ins (He.ga K d.1) dx (putF f u gs))) ∧ Sim K O m M' (upd H a (.ins (He.ga K d.1) dx (putF f u gs))) := by
  unfold satV at e
  cases x with
  | ref n =>
    simp only at e
    cases q : M[n]? with
    | none => rw [q] at e; cases e
    | some c =>
      rw [q] at e
      cases c with
      | lst _ => cases e
      | dct _ => cases e
      | ins d fs =>
        obtain ⟨⟨hc, hl⟩, e⟩ := ite_some e
        subst e
        cases r with
        | @ref _ a h1 =>
          obtain ⟨a', h2, dx, gs, h3, h4⟩ := S.cel n _ q
          rw [h1] at h2
          cases h2
          obtain ⟨c1, c2⟩ := hC _ _ hc
          refine ⟨a, (d, fs), dx, gs, rfl, by unfold insV; simp only [q], h3, c1, c2, by rw [h4.len]; exact hl, Ext.write h1, S.write h1 ⟨dx, _, upd_same, ?_⟩⟩
          rw [gr_write (List.mem_of_getElem? h1)]
          exact h4.put ry
  | _ => cases e
theorem s_sat (hC : ClOk X.K g.cl) (ho : ME X W g o co) (he : ME X W g e ce) (hs : swapsWith e (some (.Attribute o f p')) pos.line X.env = pure false := by rfl) : MS X W g na (.Assign [.Attribute o f p'] e pos) (.sat co f ce) :=
  PS_imp (ps_fld ho he hs) fun D s H ⟨O, m, M, r, S, R, h⟩ => by
    simp only [evS] at h
    refine ⟨O, m, M, r, S, R, h.bindE.imp fun u H1 ⟨y, m1, M1, e1, S1, r1, h1⟩ => ⟨O, m1, M1, r, S1, R.ext e1, h1.bindE.imp fun v H2 ⟨x, m2, M2, e2, S2, r2, h2⟩ => ?_⟩⟩
    dsimp only at h2
    cases q : satV g.cl M2 x f y with
    | none => rw [q] at h2; exact h2.elim
    | some M3 =>
      rw [q] at h2
      obtain ⟨a, d, dx, gs, rfl, _, k1, k2, k3, k4, k5, k6⟩ := sat_of hC S2 r2 (r1.ext e2) q
      exact ⟨a, _, dx, gs, rfl, k1, k2, k3, k4, h2 s m2 _ (fun _ => rfl) k5 k6 (((R.ext e1).ext e2).ext k5)⟩
theorem s_sub (ho : ME X W g o co) (hk : ME X W g k ck) (he : ME X W g e ce) (ha : ∀ v, assign (.Subscript o k p') X.env v = (do
      let ov ← holding [v] (eval o X.env)
      let iv ← holding [v, ov] (eval k X.env)
      standAt p'
      holding [v, ov, iv] (setItem ov iv v)
      release [v, ov, iv] []) := by intro _; rfl) (hs : swapsWithSole [.Subscript o k p'] e pos.line X.env = pure false := by rfl) (hw : swappedStores [.Subscript o k p'] e X.env = pure none := by rfl)
    (h1 : (assignEach [.Subscript o k p'] X.env).map (·.2) = [assign (.Subscript o k p') X.env] := by rfl) : MS X W g na (.Assign [.Subscript o k p'] e pos) (.sub co ck ce) :=
  PS_imp (ps_asg he (pg_sub ho hk set_list ha) hs hw h1) fun D s H ⟨O, m, M, r, S, R, h⟩ => by
    simp only [evS] at h
    refine ⟨O, m, M, r, S, R, h.bindE.imp fun u H1 ⟨y, m1, M1, e1, S1, r1, h1⟩ => ⟨O, m1, M1, r, S1, R.ext e1, h1.bindE.imp fun v H2 ⟨x, m2, M2, e2, S2, r2, h2⟩ => ⟨O, m2, M2, r, S2, (R.ext e1).ext e2, h2.bindE.imp fun w H3 ⟨z, m3, M3, e3, S3, r3, h3⟩ => ?_⟩⟩⟩
    dsimp only at h3
    cases q : subV M3 x z y with
    | none => rw [q] at h3; exact h3.elim
    | some M4 =>
      rw [q] at h3
      cases x with
      | ref n =>
        cases z with
        | int i =>
          simp only [subV] at q
          cases q2 : M3[n]? with
          | none => rw [q2] at q; cases q
          | some c =>
            rw [q2] at q
            cases c with
            | ins _ _ => cases q
            | dct _ => cases q
            | lst xs =>
              obtain ⟨j, hj, q⟩ := map_some q
              subst q
              obtain ⟨a, vs, rfl, k1, k2, k3⟩ := cell_lst S3 (r2.ext e3) q2
              cases r3
              refine ⟨a, vs, i, j, rfl, rfl, k2, by rw [k3.len]; exact hj, ?_⟩
              refine h3 s m3 _ (fun _ => rfl) (Ext.write k1) (S3.write k1 ⟨_, upd_same, ?_⟩) ((((R.ext e1).ext e2).ext e3).ext (Ext.write k1))
              rw [gr_write (List.mem_of_getElem? k1)]
              exact k3.set j ((r1.ext e2).ext e3)
        | _ => cases q
      | _ => cases q
theorem aug_of {op : Operator} {x y z : MV} (e : augI op x y = some z) : ∃ i j, x = .int i ∧ y = .int j ∧ ((op = .Add ∧ z = .int (i + j)) ∨ (op = .Sub ∧ z = .int (i - j))) := by
  unfold augI at e
  split at e
  · cases e; exact ⟨_, _, rfl, rfl, .inl ⟨rfl, rfl⟩⟩
  · cases e; exact ⟨_, _, rfl, rfl, .inr ⟨rfl, rfl⟩⟩
  · cases e
def rIp (op : Operator) : V → V → Hp → VK → Prop := fun x y H Q => (op = .Add ∧ rAdd x y H Q) ∨ (op = .Sub ∧ rSub x y H Q)
theorem in_ip (op : Operator) : InOp X op (rIp op) := by
  intro pins s σ H x y u v Q I rx ry h
  rcases h with ⟨rfl, h⟩ | ⟨rfl, h⟩
  · exact in_add pins s σ H x y u v Q I rx ry h
  · exact in_sub pins s σ H x y u v Q I rx ry h
theorem s_augA {op : Operator} (hC : ClOk X.K g.cl) (ho : ME X W g o co) (he : ME X W g e ce) : MS X W g na (.AugAssign (.Attribute o f p') op e pos) (.augA co f op ce) :=
  PS_imp (ps_fldaug ho he (in_ip op)) fun D s H ⟨O, m, M, r, S, R, h⟩ => by
    simp only [evS] at h
    refine ⟨O, m, M, r, S, R, h.bindE.imp fun v H1 ⟨x, m1, M1, e1, S1, r1, h1⟩ => ?_⟩
    dsimp only at h1
    cases q : fldV g.cl M1 x f with
    | none => rw [q] at h1; exact h1.elim
    | some z =>
      rw [q] at h1
      dsimp only at h1
      obtain ⟨⟨d, fs⟩, hi, hz⟩ := bind_some q
      simp only at hz
      split at hz
      · rename_i hc
        obtain ⟨a, dx, gs, rfl, k2, k3⟩ := ins_of S1 r1 hi
        obtain ⟨u, k4, k5⟩ := k3.look hz
        obtain ⟨c1, c2⟩ := hC _ _ hc
        refine ⟨a, _, dx, gs, u, rfl, k2, c1, c2, k4, O, m1, M1, r, S1, R.ext e1, h1.bindE.imp fun w H2 ⟨y, m2, M2, e2, S2, r2, h2⟩ => ?_⟩
        dsimp only at h2
        split at h2
        · rename_i hcl
          cases qa : augI op z y with
          | none => rw [qa] at h2; exact h2.elim
          | some t =>
            rw [qa] at h2
            dsimp only at h2
            cases qs : satV g.cl M2 x f t with
            | none => rw [qs] at h2; exact h2.elim
            | some M3 =>
              rw [qs] at h2
              have fin : ∀ i : Int, t = .int i → ∃ dx' fs', H2 a = some (.ins (He.ga X.K d) dx' fs') ∧ fs'.length < 1000 ∧ D.nx s (upd H2 a (.ins (He.ga X.K d) dx' (putF f (.int i) fs'))) := fun i ei => by
                subst ei
                obtain ⟨a', d', dx', gs', ea, j0, j1, _, _, j4, j5, j6⟩ := sat_of hC S2 (r1.ext e2) (.int i) qs
                cases ea
                rw [hi, j0] at hcl
                have hd : d = d'.1 := Option.some.inj hcl
                subst hd
                exact ⟨dx', gs', j1, j4, h2 s m2 _ (fun _ => rfl) j5 j6 (((R.ext e1).ext e2).ext j5)⟩
              obtain ⟨i, j, rfl, rfl, ⟨rfl, rfl⟩ | ⟨rfl, rfl⟩⟩ := aug_of qa
              · cases k5; cases r2
                exact .inl ⟨rfl, i, j, rfl, rfl, fin _ rfl⟩
              · cases k5; cases r2
                exact .inr ⟨rfl, i, j, rfl, rfl, fin _ rfl⟩
        · exact h2.elim
      · cases hz
theorem ip_ip (op : Operator) : PIp X op (rIp op) := by
  intro pins s σ H x y v u Q I rx ry h
  rcases h with ⟨rfl, h⟩ | ⟨rfl, h⟩
  · exact ip_add pins s σ H x y v u Q I rx ry h
  · exact ip_sub pins s σ H x y v u Q I rx ry h
theorem s_augV {op : Operator} {i : Nat} {x : Str} (hN : X.N.Nodup) (hi : X.N[i]? = some x) (hx : Loc X.env.scope x) (he : ME X W g e ce) (hf : X.fn x = true ∨ X.env.scope.names.lookup x = some .local := by first | exact .inl rfl | exact .inr rfl | assumption) :
    MS X W g false (.AugAssign (.Name x p') op e pos) (.augV i op ce) := PS_imp (ps_aug hN hi hx he (ip_ip op) hf) fun D s H ⟨O, m, M, r, S, R, h⟩ => by
  simp only [evS] at h
  cases q : r[i]? with
  | none => rw [q] at h; exact h.elim
  | some oz =>
    rw [q] at h
    cases oz with
    | none => exact h.elim
    | some z =>
      dsimp only at h
      obtain ⟨v, k1, k2⟩ := R.2 i z q
      refine ⟨v, k1, O, m, M, r, S, R, h.bindE.imp fun w H1 ⟨y, m1, M1, e1, S1, r1, h1⟩ => ?_⟩
      dsimp only at h1
      cases qa : augI op z y with
      | none => rw [qa] at h1; exact h1.elim
      | some t =>
        rw [qa] at h1
        obtain ⟨i', j, rfl, rfl, ⟨rfl, rfl⟩ | ⟨rfl, rfl⟩⟩ := aug_of qa
        · cases k2; cases r1
          exact .inl ⟨rfl, i', j, rfl, rfl, h1 _ m1 H1 (fun z => nomatch z) Ext.refl S1 ((R.ext e1).set (.int _))⟩
        · cases k2; cases r1
          exact .inr ⟨rfl, i', j, rfl, rfl, h1 _ m1 H1 (fun z => nomatch z) Ext.refl S1 ((R.ext e1).set (.int _))⟩
end
end Mini

set_option Elab.async false
set_option linter.all false
set_option maxRecDepth 100000
set_option maxHeartbeats 1000000
/-! MiJ: loops; the end of a call; a def keeps its promise. -/
namespace Mini
open PySem L2
section
variable {X : Cx} {W : WX} {g : Cfg} {tg iter c : Expr} {cc : CE} {ci : CI} {pos : Pos} {sts : List Stmt} {bs : CB} {is : List Nat} {one : Bool}
def turnV (g : Cfg) (is : List Nat) (one : Bool) (bs : CB) (x : MV) (r1 : Rho) (M2 : Mem) : Res Flw := match bind1 is one x r1 with
  | none => .stuck
  | some r2 => evB g bs r2 M2
theorem for_eq {r : Rho} {M : Mem} : evS g (.forr is one ci bs) r M = (evI g r ci M).bind fun xs M1 => forV (turnV g is one bs) xs r M1 := by
  simp only [evS]
  rfl
theorem s_for (hp : PassesOwn (model X.prog X.w) X.A X.env X.xe) (hc : X.calm = true) (hi : MI X W g tg iter ci) (hg : MG X tg is one) (hb : MB X W g false sts bs) (hs : ∀ x, foldedSetIterable iter X.env x = pure x := by intro _; rfl) :
    MS X W g false (.For tg iter sts [] pos) (.forr is one ci bs) := PS_imp (ps_for hp hc hi hg hb hs) fun D s H ⟨O, m, M, r, S, R, h⟩ => by
  rw [for_eq] at h
  refine ⟨O, m, M, r, S, R, ?_⟩
  cases qi : evI g r ci M with
  | stuck => rw [qi] at h; exact h.elim
  | exn c x M' =>
    rw [qi] at h
    exact fun d v m' H' e' S' r' q => h s d v m' H' (fun _ => rfl) e' S' r' q
  | ok xs M1 =>
    rw [qi] at h
    intro J m1 H1 e1 S1 w1
    have h1 : PostS X.K O m1 H1 W false s D (forV (turnV g is one bs) xs r M1) := PostS.later h e1 fun _ => rfl
    refine ⟨fun i mm s2 H2 => mm = xs.length - i ∧ i ≤ xs.length ∧ ∃ mi Mi ri, Ext m1 H1 mi H2 ∧ Sim X.K O mi Mi H2 ∧ EnvR X.K (gr O mi H2) mi s2 ri ∧ PostS X.K O mi H2 W false s2 D (forV (turnV g is one bs) (xs.drop i) ri Mi), ⟨xs.length, by simp, Nat.zero_le _, m1, M1, r, Ext.refl, S1, R.ext e1, h1⟩, ?_⟩
    rintro i mm s2 H2 ⟨rfl, hil, mi, Mi, ri, ei, Si, Ri, hq⟩
    by_cases hlt : i < xs.length
    · refine .inr ⟨w1.go H2 i ei.keep hlt, fun s' H' => i + 1 ≤ xs.length ∧ ∃ mi Mi ri, Ext m1 H1 mi H' ∧ Sim X.K O mi Mi H' ∧ EnvR X.K (gr O mi H') mi s' ri ∧ PostS X.K O mi H' W false s' D (forV (turnV g is one bs) (xs.drop (i + 1)) ri Mi), fun s' H' ⟨l5, h5⟩ => ⟨xs.length - (i + 1), by omega, rfl, l5, h5⟩, fun v H3 y => ?_⟩
      obtain ⟨eH, rv⟩ := w1.yld H2 i v H3 xs[i] ei.keep (List.getElem?_eq_getElem hlt) y
      subst eH
      rw [List.drop_eq_getElem_cons hlt] at hq
      unfold forV at hq
      cases qb : bind1 is one xs[i] ri with
      | none => simp only [turnV, qb] at hq; exact hq.elim
      | some r2 =>
        simp only [turnV, qb] at hq
        refine ⟨O, mi, Mi, xs[i], ri, r2, Si, Ri, rv.ext ei, qb, fun s3 R3 _ => ⟨O, mi, Mi, r2, Si, R3, ?_⟩⟩
        cases qe : evB g bs r2 Mi with
        | stuck => rw [qe] at hq; exact hq.elim
        | exn c x M' =>
          rw [qe] at hq
          exact fun s' d v m' H' _ e' S' r' q => hq s' d v m' H' (fun z => nomatch z) e' S' r' q
        | ok w M' =>
          rw [qe] at hq
          cases w with
          | next r' => exact fun s' m' H' _ e' S' R' => ⟨by omega, m', M', r', ei.trans e', S', R', PostS.later hq e' fun z => nomatch z⟩
          | cnt r' => exact fun s' m' H' _ e' S' R' => ⟨by omega, m', M', r', ei.trans e', S', R', PostS.later hq e' fun z => nomatch z⟩
          | brk r' => exact fun s' m' H' _ e' S' R' => hq s' m' H' (fun z => nomatch z) e' S' R'
          | ret x => exact fun v m' H' e' S' r' => hq v m' H' e' S' r'
    · have ei' : i = xs.length := by omega
      subst ei'
      rw [List.drop_length] at hq
      exact .inl ⟨w1.stop H2 ei.keep, PostS.next hq Si Ri⟩
theorem s_whl (hp : PassesOwn (model X.prog X.w) X.A X.env X.xe) (hc : MT X W g c cc) (hb : MB X W g false sts bs) : MS X W g false (.While c sts [] pos) (.whl cc bs) := PS_imp (ps_while hp hc hb) fun D s H ⟨O, m, M, r, S, R, h⟩ => by
  simp only [evS] at h
  refine ⟨fun n s2 H2 => ∃ mi Mi ri, Ext m H mi H2 ∧ Sim X.K O mi Mi H2 ∧ EnvR X.K (gr O mi H2) mi s2 ri ∧ PostS X.K O mi H2 W false s2 D (whlV (fun r1 M1 => bitV g r1 cc M1) (fun r1 M1 => evB g bs r1 M1) n ri Mi), ⟨g.fuel, m, M, r, Ext.refl, S, R, h⟩, ?_⟩
  rintro n s2 H2 ⟨mi, Mi, ri, ei, Si, Ri, hq⟩
  cases n with
  | zero => exact hq.elim
  | succ n =>
    unfold whlV at hq
    refine ⟨O, mi, Mi, ri, Si, Ri, ?_⟩
    cases qt : bitV g ri cc Mi with
    | stuck => rw [qt] at hq; exact hq.elim
    | exn c x M' =>
      rw [qt] at hq
      exact fun d v m' H' e' S' r' q => hq s2 d v m' H' (fun _ => rfl) e' S' r' q
    | ok k M1 =>
      rw [qt] at hq
      simp only [Res.bind_ok] at hq
      intro m3 H3 e3 S3
      cases k with
      | false => exact iteF (hq s2 m3 H3 (fun _ => rfl) e3 S3 (Ri.ext e3))
      | true =>
        refine iteT ⟨fun s' H' => ∃ mi Mi ri, Ext m H mi H' ∧ Sim X.K O mi Mi H' ∧ EnvR X.K (gr O mi H') mi s' ri ∧ PostS X.K O mi H' W false s' D (whlV (fun r1 M1 => bitV g r1 cc M1) (fun r1 M1 => evB g bs r1 M1) n ri Mi), fun s' H' h' => ⟨n, Nat.lt_succ_self n, h'⟩, O, m3, M1, ri, S3, Ri.ext e3, ?_⟩
        simp only [if_true] at hq
        have hq' := PostS.later hq e3 (s1 := s2) fun _ => rfl
        cases qe : evB g bs ri M1 with
        | stuck => rw [qe] at hq'; exact hq'.elim
        | exn c x M' =>
          rw [qe] at hq'
          exact fun s' d v m' H' _ e' S' r' q => hq' s' d v m' H' (fun z => nomatch z) e' S' r' q
        | ok w M' =>
          rw [qe] at hq'
          have ej := ei.trans e3
          cases w with
          | next r' => exact fun s' m' H' _ e' S' R' => ⟨m', M', r', ej.trans e', S', R', PostS.later hq' e' fun z => nomatch z⟩
          | cnt r' => exact fun s' m' H' _ e' S' R' => ⟨m', M', r', ej.trans e', S', R', PostS.later hq' e' fun z => nomatch z⟩
          | brk r' => exact fun s' m' H' _ e' S' R' => hq' s' m' H' (fun z => nomatch z) e' S' R'
          | ret x => exact fun v m' H' e' S' r' => hq' v m' H' e' S' r'
end
/-! ### the end of a call -/
section
variable {K : PySem.W.Frag} {G G' : Hp} {m m' : List Addr}
/-- the cells that a value names are among the first -/
theorem pre_take {n k : Nat} {a : Addr} (h : m[k]? = some a) (hk : k < n) : (m.take n)[k]? = some a := by
  rw [List.getElem?_take_of_lt hk]; exact h
mutual
theorem clean_rep {n : Nat} (e : Same G G') : ∀ (x : MV) (v : V), clean n x = true → RepV K G m v x → RepV K G' (m.take n) v x
  | .non, _, _, h => by cases h; exact .non
  | .bl _, _, _, h => by cases h; exact .bl _
  | .int _, _, _, h => by cases h; exact .int _
  | .str _, _, _, h => by cases h; exact .str _
  | .tup xs, _, c, h => by
    cases h with
    | tup hs ha => exact .tup (e _ _ hs) (cleanL_rep e xs _ c ha)
  | .lst xs, _, c, h => by
    cases h with
    | lst hs ha => exact .lst (e _ _ hs) (cleanL_rep e xs _ c ha)
  | .dck kvs, _, c, h => by
    cases h with
    | dck hs ha => exact .dck (e _ _ hs) (cleanK_rep e kvs _ c ha)
  | .obj _ fs, _, c, h => by
    cases h with
    | obj hs ha => exact .obj (e _ _ hs) (cleanF_rep e fs _ c ha)
  | .scr _, _, _, h => by
    cases h with
    | scr hs => exact .scr (e.seq hs)
  | .ref _, _, c, h => by
    cases h with
    | ref hs => exact .ref (pre_take hs (of_decide_eq_true c))
  | .glo _, _, _, h => by cases h; exact .glo _
  | .txt _, _, _, h => by
    cases h with
    | txt hs => exact .txt hs
theorem cleanL_rep {n : Nat} (e : Same G G') : ∀ (xs : List MV) (vs : List V), cleanL n xs = true → RepL K G m vs xs → RepL K G' (m.take n) vs xs
  | [], _, _, h => by cases h; exact .nil
  | x :: xs, _, c, h => by
    obtain ⟨c1, c2⟩ := Bool.and_eq_true_iff.mp (show (clean n x && cleanL n xs) = true from c)
    cases h with
    | cons h1 h2 => exact .cons (clean_rep e x _ c1 h1) (cleanL_rep e xs _ c2 h2)
theorem cleanK_rep {n : Nat} (e : Same G G') : ∀ (xs : List (Key × MV)) (vs : List (Key × V)), cleanK n xs = true → RepK K G m vs xs → RepK K G' (m.take n) vs xs
  | [], _, _, h => by cases h; exact .nil
  | (k, x) :: xs, _, c, h => by
    obtain ⟨c1, c2⟩ := Bool.and_eq_true_iff.mp (show (clean n x && cleanK n xs) = true from c)
    cases h with
    | cons h1 h2 => exact .cons (clean_rep e x _ c1 h1) (cleanK_rep e xs _ c2 h2)
theorem cleanF_rep {n : Nat} (e : Same G G') : ∀ (xs : List (Str × MV)) (vs : List (Str × V)), cleanF n xs = true → RepF K G m vs xs → RepF K G' (m.take n) vs xs
  | [], _, _, h => by cases h; exact .nil
  | (k, x) :: xs, _, c, h => by
    obtain ⟨c1, c2⟩ := Bool.and_eq_true_iff.mp (show (clean n x && cleanF n xs) = true from c)
    cases h with
    | cons h1 h2 => exact .cons (clean_rep e x _ c1 h1) (cleanF_rep e xs _ c2 h2)
end
mutual
/-- a value that stood before the later cells names none of them -/
theorem RepV.back {n : Nat} {G0 : Hp} {m0 : List Addr} (hn : m0.length ≤ n) : ∀ (x : MV) (v0 : V), RepV K G0 m0 v0 x → clean n x = true
  | .non, _, _ => rfl
  | .bl _, _, _ => rfl
  | .int _, _, _ => rfl
  | .str _, _, _ => rfl
  | .tup xs, _, h => by
    cases h with
    | tup hs ha => exact RepL.back hn xs _ ha
  | .lst xs, _, h => by
    cases h with
    | lst hs ha => exact RepL.back hn xs _ ha
  | .dck kvs, _, h => by
    cases h with
    | dck hs ha => exact RepK.back hn kvs _ ha
  | .obj _ fs, _, h => by
    cases h with
    | obj hs ha => exact RepF.back hn fs _ ha
  | .scr _, _, _ => rfl
  | .ref k, _, h => by
    cases h with
    | ref hs =>
      have z := (List.getElem?_eq_some_iff.mp hs).1
      exact decide_eq_true (by omega)
  | .glo _, _, _ => rfl
  | .txt _, _, _ => rfl
theorem RepL.back {n : Nat} {G0 : Hp} {m0 : List Addr} (hn : m0.length ≤ n) : ∀ (xs : List MV) (vs : List V), RepL K G0 m0 vs xs → cleanL n xs = true
  | [], _, _ => rfl
  | x :: xs, _, h => by
    cases h with
    | cons h1 h2 => exact Bool.and_eq_true_iff.mpr ⟨RepV.back hn x _ h1, RepL.back hn xs _ h2⟩
theorem RepK.back {n : Nat} {G0 : Hp} {m0 : List Addr} (hn : m0.length ≤ n) : ∀ (xs : List (Key × MV)) (vs : List (Key × V)), RepK K G0 m0 vs xs → cleanK n xs = true
  | [], _, _ => rfl
  | (k, x) :: xs, _, h => by
    cases h with
    | cons h1 h2 => exact Bool.and_eq_true_iff.mpr ⟨RepV.back hn x _ h1, RepK.back hn xs _ h2⟩
theorem RepF.back {n : Nat} {G0 : Hp} {m0 : List Addr} (hn : m0.length ≤ n) : ∀ (xs : List (Str × MV)) (vs : List (Str × V)), RepF K G0 m0 vs xs → cleanF n xs = true
  | [], _, _ => rfl
  | (k, x) :: xs, _, h => by
    cases h with
    | cons h1 h2 => exact Bool.and_eq_true_iff.mpr ⟨RepV.back hn x _ h1, RepF.back hn xs _ h2⟩
end
end
section
variable {K : PySem.W.Frag} {O m m' : List Addr} {M M' : Mem} {H H' : Hp}
theorem gr_take {n : Nat} : Same (gr O m' H') (gr O (m'.take n) H') := fun a o h => by
  obtain ⟨h1, h2⟩ := of_hide h
  show hide _ _ _ = _
  rw [hide_of fun z => h1 ?_]
  · exact h2
  · rcases List.mem_append.mp z with z | z
    · exact List.mem_append_left _ z
    · exact List.mem_append_right _ (List.mem_of_mem_take z)
theorem mapO_get {α β : Type} {f : α → Option β} : ∀ {xs : List α} {ys : List β}, mapO f xs = some ys → (xs = [] ∧ ys = []) ∨ ∃ x xr y yr, xs = x :: xr ∧ ys = y :: yr ∧ f x = some y ∧ mapO f xr = some yr
  | [], ys, h => by cases h; exact .inl ⟨rfl, rfl⟩
  | x :: xs, ys, h => by
    unfold mapO at h
    cases q1 : f x with
    | none => rw [q1] at h; cases h
    | some y =>
      cases q2 : mapO f xs with
      | none => rw [q1, q2] at h; cases h
      | some yr =>
        rw [q1, q2] at h
        cases h
        exact .inr ⟨x, xs, y, yr, rfl, rfl, q1, q2⟩
theorem mapO_repL {f : MV → Option MV} {G G' : Hp} {m1 m2 : List Addr} (hf : ∀ v x y, RepV K G m1 v x → f x = some y → RepV K G' m2 v y) : ∀ {xs : List MV} {vs : List V} {ys : List MV}, RepL K G m1 vs xs → mapO f xs = some ys → RepL K G' m2 vs ys
  | [], [], ys, _, h => by cases h; exact .nil
  | x :: xs, v :: vs, ys, .cons h1 h2, h => by
    rcases mapO_get h with ⟨z, _⟩ | ⟨x', xr, y, yr, z, rfl, q1, q2⟩
    · cases z
    · cases z
      exact .cons (hf _ _ _ h1 q1) (mapO_repL hf h2 q2)
theorem mapO_repF {f : MV → Option MV} {G G' : Hp} {m1 m2 : List Addr} (hf : ∀ v x y, RepV K G m1 v x → f x = some y → RepV K G' m2 v y) : ∀ {xs : List (Str × MV)} {vs : List (Str × V)} {ys : List (Str × MV)}, RepF K G m1 vs xs → mapO (fun p : Str × MV => (f p.2).map fun y => (p.1, y)) xs = some ys → RepF K G' m2 vs ys
  | [], [], ys, _, h => by cases h; exact .nil
  | (k, x) :: xs, _ :: vs, ys, .cons h1 h2, h => by
    rcases mapO_get h with ⟨z, _⟩ | ⟨x', xr, y, yr, z, rfl, q1, q2⟩
    · cases z
    · cases z
      obtain ⟨w, q3, q4⟩ := map_some q1
      subst q4
      exact .cons (hf _ _ _ h1 q3) (mapO_repF hf h2 q2)
/-- cells that become values -/
theorem frz_rep {n : Nat} (S : Sim K O m' M' H') : ∀ (k : Nat) (v : V) (x y : MV), RepV K (gr O m' H') m' v x → frz M' n k x = some y → RepV K (gr O (m'.take n) H') (m'.take n) v y
  | 0, _, _, _, _, h => by cases h
  | k + 1, v, x, y, r, h => by
    have ih := frz_rep (n := n) S k
    unfold frz at h
    split at h
    · rename_i hc
      have h' := Option.some.inj h
      subst h'
      exact clean_rep gr_take x v hc r
    · rename_i hc
      cases x with
      | ref j =>
        have hj : ¬ j < n := fun z => hc (decide_eq_true z)
        simp only at h
        cases r with
        | @ref _ a ha =>
          have hna : a ∉ m'.take n := fun z => by
            obtain ⟨i, hi⟩ := List.getElem?_of_mem z
            have h1 : i < n := by
              have := (List.getElem?_eq_some_iff.mp hi).1
              rw [List.length_take] at this
              omega
            rw [List.getElem?_take_of_lt h1] at hi
            have := nd_ix S.nd hi ha
            omega
          have hgr : ∀ {o : HO}, H' a = some o → gr O (m'.take n) H' a = some o := fun {o} e => by
            show hide _ _ _ = _
            rw [hide_of, e]
            intro z
            rcases List.mem_append.mp z with z | z
            · exact S.dis a (List.mem_of_getElem? ha) z
            · exact hna z
          cases q : M'[j]? with
          | none => rw [q] at h; cases h
          | some c =>
            obtain ⟨a', h1, h2⟩ := S.cel j c q
            rw [ha] at h1
            cases h1
            rw [q] at h
            cases c with
            | lst xs =>
              obtain ⟨ys, q1, q2⟩ := map_some h
              subst q2
              obtain ⟨vs, e1, e2⟩ := h2
              exact .lst (hgr e1) (mapO_repL ih e2 q1)
            | ins d fs =>
              obtain ⟨ys, q1, q2⟩ := map_some h
              subst q2
              obtain ⟨dx, gs, e1, e2⟩ := h2
              exact .obj (hgr e1) (mapO_repF ih e2 q1)
            | dct _ => cases h
      | tup xs =>
        obtain ⟨ys, q1, q2⟩ := map_some h
        subst q2
        cases r with
        | tup hs ha => exact .tup (gr_take _ _ hs) (mapO_repL ih ha q1)
      | lst xs =>
        obtain ⟨ys, q1, q2⟩ := map_some h
        subst q2
        cases r with
        | lst hs ha => exact .lst (gr_take _ _ hs) (mapO_repL ih ha q1)
      | _ => cases h
def cleanT (n : Nat) : List (List Key × MV) → Bool
  | [] => true
  | p :: xs => clean n p.2 && cleanT n xs
theorem cleanT_rep {G G' : Hp} {m : List Addr} {n : Nat} (e : Same G G') : ∀ (xs : List (List Key × MV)) (vs : List (List Key × V)), cleanT n xs = true → RepT K G m vs xs → RepT K G' (m.take n) vs xs
  | [], _, _, h => by cases h; exact .nil
  | (k, x) :: xs, _, c, h => by
    obtain ⟨c1, c2⟩ := Bool.and_eq_true_iff.mp (show (clean n x && cleanT n xs) = true from c)
    cases h with
    | cons h1 h2 => exact .cons (clean_rep e x _ c1 h1) (cleanT_rep e xs _ c2 h2)
theorem RepT.back {n : Nat} {G0 : Hp} {m0 : List Addr} (hn : m0.length ≤ n) : ∀ (xs : List (List Key × MV)) (vs : List (List Key × V)), RepT K G0 m0 vs xs → cleanT n xs = true
  | [], _, _ => rfl
  | (k, x) :: xs, _, h => by
    cases h with
    | cons h1 h2 => exact Bool.and_eq_true_iff.mpr ⟨RepV.back hn x _ h1, RepT.back hn xs _ h2⟩
/-- the call's own cells are let go -/
theorem Sim.cut (S0 : Sim K O m M H) (S : Sim K O m' M' H') (e : Ext m H m' H') (hM : M'.take M.length = M) : Sim K O m M H' ∧ Ext m H m H' ∧ m'.take M.length = m := by
  have hm : m'.take M.length = m := by
    obtain ⟨t, rfl⟩ := e.pre
    rw [← S0.len, List.take_left]
  have e2 : Ext m H m H' := ⟨List.prefix_refl m, e.keep, fun _ z => .inl z, e.there⟩
  refine ⟨⟨S0.len, S0.nd, S0.dis, fun i c q => ?_, S0.otr' e2⟩, e2, hm⟩
  have hi : i < M.length := (List.getElem?_eq_some_iff.mp q).1
  have q' : M'[i]? = some c := by
    rw [← hM, List.getElem?_take_of_lt (by rw [hM] at *; exact hi)] at q
    exact q
  obtain ⟨a, h1, h2⟩ := S.cel i c q'
  obtain ⟨a0, h3, h4⟩ := S0.cel i c q
  have ea : a = a0 := by
    have := pre_get e.pre h3
    rw [h1] at this
    exact Option.some.inj this
  subst ea
  refine ⟨a, h3, ?_⟩
  have hg : Same (gr O m' H') (gr O m H') := by
    have z := gr_take (O := O) (m' := m') (H' := H') (n := M.length)
    rw [hm] at z
    exact z
  cases c with
  | lst xs =>
    obtain ⟨vs, e1, e2⟩ := h2
    obtain ⟨vs0, e3, e4⟩ := h4
    have z := cleanL_rep (n := M.length) (m := m') hg xs vs (e4.back (by rw [S0.len]; exact Nat.le_refl _)) e2
    rw [hm] at z
    exact ⟨vs, e1, z⟩
  | ins d fs =>
    obtain ⟨dx, gs, e1, e2⟩ := h2
    obtain ⟨dx0, gs0, e3, e4⟩ := h4
    have z := cleanF_rep (n := M.length) (m := m') hg fs gs (e4.back (by rw [S0.len]; exact Nat.le_refl _)) e2
    rw [hm] at z
    exact ⟨dx, gs, e1, z⟩
  | dct kvs =>
    obtain ⟨ps, e1, e2⟩ := h2
    obtain ⟨ps0, e3, e4⟩ := h4
    have z := cleanT_rep (n := M.length) (m := m') hg kvs ps (e4.back (by rw [S0.len]; exact Nat.le_refl _)) e2
    rw [hm] at z
    exact ⟨ps, e1, z⟩
theorem fin_of {keep : Bool} {W : WX} {s : St} {Q : VK} {w : Res MV} (S0 : Sim K O m M H) (h : PostE K O m H W s Q (fin keep M w)) : PostE K O m H W s Q w := by
  cases w with
  | stuck => exact h
  | ok v M1 =>
    unfold fin at h
    simp only at h
    split at h
    · exact h
    · split at h
      · rename_i hM
        cases q : frz M1 M.length 64 v with
        | none => rw [q] at h; exact h.elim
        | some u =>
          rw [q] at h
          intro vv m' H' e' S' r'
          obtain ⟨S2, e2, hm⟩ := S0.cut S' e' hM
          have z := frz_rep S' 64 vv v u r' q
          rw [hm] at z
          exact h vv m H' e2 S2 z
      · exact h
  | exn c v M1 =>
    unfold fin at h
    simp only at h
    split at h
    · exact h
    · split at h
      · rename_i hM
        cases q : frz M1 M.length 64 v with
        | none => rw [q] at h; exact h.elim
        | some u =>
          rw [q] at h
          intro d vv m' H' e' S' r' hd
          obtain ⟨S2, e2, hm⟩ := S0.cut S' e' hM
          have z := frz_rep S' 64 vv v u r' q
          rw [hm] at z
          exact h d vv m H' e2 S2 z hd
      · exact h
end
end Mini

set_option Elab.async false
set_option linter.all false
set_option maxRecDepth 100000
set_option maxHeartbeats 2000000
/-! MiX: own errors: class C(..ValueError..): def __init__(self, told): super().__init__(told); self.told = told. -/
namespace Mini
open PySem L2
section text
def erArgs (p1 p2 : Pos) : Arguments := { posonlyargs := [], args := [{ arg := "self", annotation := none, pos := p1 }, { arg := "told", annotation := none, pos := p2 }], vararg := none, kwonlyargs := [], kw_defaults := [], kwarg := none, defaults := [] }
def erBody (a0 a1 a2 a3 a4 a5 b1 b2 b3 b4 : Pos) : List Stmt := [.Expr (.Call (.Attribute (.Call (.Name "super" a0) [] [] a1) "__init__" a2) [.Name "told" a3] [] a4) a5, .Assign [.Attribute (.Name "self" b1) "told" b2] (.Name "told" b3) b4]
def erScope : Scope := { kind := .function, names := [(PySem.Str.ofString "self", .local), (PySem.Str.ofString "told", .local), (PySem.Str.ofString "__class__", .free), (PySem.Str.ofString "super", .globalImplicit)], isGenerator := false, isCoroutine := false, more := [] }
end text
/-- what the written part says of the class at C and of its __init__ at fI -/
structure ErT (prog : Program) (K : PySem.W.Frag) (C fI : Addr) : Prop where
  cls : ∃ nm q N bs bm sn sub ab col dd k0 k1 k2 k3 k5, K.lookup C = some (excClassObj nm q C N bs bm true sn sub ab col dd k0 k1 k2 k3 k5 "ValueError.__new__") ∧ HandSPX.refsVE bm = true
  sa : PySem.W.findIn K (.ref C) "__setattr__" = some (some (.builtin "object.__setattr__"))
  ga : PySem.W.findIn K (.ref C) "__getattribute__" = some (some (.builtin "BaseException.__getattribute__"))
  gg : PySem.W.findIn K (.ref C) "__getattr__" = some none
  noN : PySem.W.findIn K (.ref C) "told" = some none
  iC : PySem.W.findIn K (.ref C) "__init__" = some (some (.ref fI))
  tC : PySem.W.typeIn K (.ref fI) = some (.type "function")
  kC : PySem.W.keepIn K (.ref C) = true
  exC : PySem.W.subIn K (.ref C) (.type "BaseException") = some true
  tyC : PySem.W.typeIn K (.ref C) = some (.type "type")
  hdC : PySem.W.hasDictIn K C = true
  sup : PySem.W.ks_superIn K C C "__init__" = some (some (.builtin "ValueError.__init__"))
  subB : PySem.W.subIn K (.ref C) (.type "ValueError") = some true
  mroC : PySem.W.mroIn K C (.ref C) = some true
  opq : PySem.W.nsIn K cStatics "thirdparty.any" = some none
  fn : ∃ (oc : Value) (od : Option Addr) (kV doc pm : Value) (an : Option Addr) (cda : Addr) (ct : Value) (osl : Array (Option Value)) (cc : Addr) (qual : Str) (p1 p2 a0 a1 a2 a3 a4 a5 b1 b2 b3 b4 : Pos) (ccl : Value) (cdd : Option Addr) (vs : Array Value) (ccs : Array (Option Value)) (file : Str) (tf : Tok) (cl : Value) (cld : Option Addr) (csl : Array (Option Value)),
    K.lookup fI = some ⟨oc, od, .func (PySem.W.ksFn "__init__" qual (erArgs p1 p2) (erBody a0 a1 a2 a3 a4 a5 b1 b2 b3 b4) erScope .none kV doc pm an (.ref cda) ct cc), osl⟩ ∧ PySem.W.codeIn K (.ref cda) qual = true ∧
    K.lookup cda = some ⟨ccl, cdd, .fields vs, ccs⟩ ∧ vs[2]? = some (.str file tf) ∧ ((prog.main.file : Str) == file) = true ∧ (a2.endLine == a4.line) = true ∧ K.lookup cc = some ⟨cl, cld, .cell (some (.ref C)), csl⟩
structure ErEnd (h h' : Heap) (x C dx : Addr) (v : Value) : Prop where
  keep : ∀ b o, b ≠ x → h.get? b = some o → h'.get? b = some o
  obj : ∃ t1 : Addr, h'.get? x = some { cls := .ref C, dict := some dx, data := .fields #[.ref t1, .none, .none, .none, .bool false, .none] }
  dbig : h.objs.size ≤ dx
  dne : dx ≠ x
  ns : h'.Ns1 dx (fun y => if y = "told" then some v else none)
structure ErMade (h h' : Heap) (e C d : Addr) (v : Value) : Prop where
  keep : ∀ b o, h.get? b = some o → h'.get? b = some o
  new : h.objs.size ≤ e
  obj : ∃ oe vs, h'.get? e = some oe ∧ oe.cls = .ref C ∧ oe.dict = some d ∧ oe.data = .fields vs ∧ vs[1]? = some .none
  dbig : h.objs.size ≤ d
  dne : d ≠ e
  ns : h'.Ns1 d (fun y => if y = "told" then some v else none)
section
open PySem.W PySem.Calls PyProof.Rows PySem.HandSPX
variable {prog : Program} {w : World} {A : Around} {E : Value → Shared → Prop} {R : Result → Shared → Prop} {s : Shared} {K : Frag} {mg mb : Str → Option Value} {C fI : Addr}
theorem one_sz (v : Value) : [v].length ≤ sizeLine := by
  rw [sizeLine_eq]
  exact (by decide : 1 ≤ 16777216)
theorem ld_ks {M : Model} {name : Str} {scope : Scope} {L a cc : Addr} {cd : Value} {m : Str → Option Value} {x : Str} {pos : Pos} {v : Value} {Q : Value → Shared → Prop} (hn : s.heap.Ns L m) (hv : m x = some v) (h : Q v s)
    (hk : scope.kind = .function := by rfl) (hl : (ksEnv name scope L a cd cc).kindOf x = some .local := by rfl) (hd : (x == ("__debug__" : Str)) = false := by decide) :
    wpAny M A (eval (.Name x pos) (ksEnv name scope L a cd cc)) Q E s := wpAny_Name (wpAny_loadName_local hk hl hn hv h) hd
/-- super().__init__(v) of a bound ValueError.__init__ -/
theorem call_mw {h : Heap} {g : Array GenState} {d : Drawn} {t : Nat} {os : OsState} {u e t0 : Addr} {rest : List Value} {Q : Value → Shared → Prop} {nm q : Str} {N : Addr} {bs bm : List Value} {hdct : Bool} {sn : List Str} {sub : List Value} {ab : Bool} {col : Option Bool} {dd : Option Addr} {k0 k1 k2 k3 k5 : Option Value}
    (hC : h.get? C = some (excClassObj nm q C N bs bm hdct sn sub ab col dd k0 k1 k2 k3 k5 "ValueError.__new__")) (he : h.get? e = some (excO C t0)) (hu : h.get? u = some (kxs_mw "ValueError.__init__" e)) (hrest : rest.length ≤ sizeLine)
    (hq : ∀ h' t1, (∀ b o, b ≠ e → h.get? b = some o → h'.get? b = some o) → h'.get? e = some (excO C t1) → Q .none ⟨h', g, d, t, os⟩) :
    wpAny (model prog w) A (call (.ref u) rest) Q E ⟨h, g, d, t, os⟩ := by
  refine wpAny_call (codeAny_of_tree ?_)
  show wpAny _ A.in1 (callAny (.ref u) ⟨rest, []⟩) _ _ _
  simp only [callAny]
  refine wpAny_bind (wpAny_load hu ?_)
  simp only [kxs_mw, show (Value.type "method-wrapper" == Value.type "method" || Value.type "method-wrapper" == Value.type "builtin_function_or_method" || Value.type "method-wrapper" == Value.type "method-wrapper") = true by decide, if_true]
  refine W.KFB.if_so (by decide) ?_
  refine wpAny_bind (check_bound_init F.excBase_ValueError.toExcCallFacts hC he rfl ?_)
  refine wpAny_bind (wpAny_pure (wpAny_pure ?_))
  refine ⟨plainId_quiet F.excBase_ValueError.init.plain _, codeAny_builtin F.excBase_ValueError.initEntry ?_⟩
  exact exc_init_tree (cls := .ref C) (t0 := t0) (dv := none) (c2 := .none) (c3 := .none) (b4 := .bool false) he hrest fun h' k e' t' => hq h' _ k e'
theorem mc_eq {qual : Str} {L f cc : Addr} {cd : Value} {a0 a1 a2 a3 a4 : Pos} (hpos : (a2.endLine == a4.line) = true) : eval (.Call (.Attribute (.Call (.Name "super" a0) [] [] a1) "__init__" a2) [.Name "told" a3] [] a4) (ksEnv qual erScope L f cd cc) = (do
      let ov ← attributeBase (.Call (.Name "super" a0) [] [] a1) "__init__" (ksEnv qual erScope L f cd cc) (eval (.Call (.Name "super" a0) [] [] a1) (ksEnv qual erScope L f cd cc))
      standAt a2.atName
      let (fn, first) ← holding [ov] (getMethod ov "__init__" (do return (← importBound (.Call (.Name "super" a0) [] [] a1) (ksEnv qual erScope L f cd cc)).getD true))
      callWith a4 fn first (backTo a4 (starEach [.Name "told" a3] (ksEnv qual erScope L f cd cc))) []) := by
  show (attributeBase (.Call (.Name "super" a0) [] [] a1) "__init__" (ksEnv qual erScope L f cd cc) (eval (.Call (.Name "super" a0) [] [] a1) (ksEnv qual erScope L f cd cc)) >>= fun ov => standAt a2.atName >>= fun _ => methodCall (.Call (.Name "super" a0) [] [] a1) "__init__" a2 a4 (ksEnv qual erScope L f cd cc) ov 1 (backTo a4 (starEach [.Name "told" a3] (ksEnv qual erScope L f cd cc))) []) = _
  congr 1
  funext ov
  congr 1
  funext _
  unfold methodCall methodCallPos
  rw [hpos]
  rfl
theorem er_init (T : ErT prog K C fI) {x t0 : Addr} {v : Value} (X : K.In s.heap) (hlim : s.heap.NoLimit) (hG : s.heap.Ns mainGlobals mg) (hB : s.heap.Ns builtinsNs mb) (hsg : mg "super" = none) (hsb : mb "super" = some (.type "super")) (htop : (prog.main.scope.names.lookup ("super" : Str)).isSome = false)
    (hx : s.heap.get? x = some (excO C t0)) (hnx : K.lookup x = none) (hxG : x ≠ mainGlobals) (hxB : x ≠ builtinsNs) (hroom : A.depth < recursionLimit)
    (hq : ∀ h' tk dx, ErEnd s.heap h' x C dx v → R (.ok (.ret .none)) { s with heap := h', toks := tk }) :
    codeAny (model prog w) A (.call (.ref fI) ⟨[.ref x, v], []⟩) R s := by
  obtain ⟨oc, od, kV, doc, pm, an, cda, ct, osl, cc, qual, p1, p2, a0, a1, a2, a3, a4, a5, b1, b2, b3, b4, ccl, cdd, vs, ccs, file, tf, cl, cld, csl, ho, hcd, hcode, hvs, hfile, hpos, hcell⟩ := T.fn
  obtain ⟨nm, q, N, bs, bm, sn, sub, ab, col, dd, k0, k1, k2, k3, k5, hC, hbm⟩ := T.cls
  have hcl : clsIn K C = some { name := nm, bases := bs, mro := .ref C :: bm, ns := N, qualname := q, hasDict := true, slotNames := sn, subclasses := sub, abstract := ab, collection := col, hasDel := false } := by unfold clsIn; rw [hC] <;> rfl
  obtain ⟨hp, g, dr, tk, os⟩ := s
  refine ks_codeAny_call_defAt (fd := ksFn "__init__" qual (erArgs p1 p2) (erBody a0 a1 a2 a3 a4 a5 b1 b2 b3 b4) erScope .none kV doc pm an (.ref cda) ct cc) (body := erBody a0 a1 a2 a3 a4 a5 b1 b2 b3 b4) (binds := [("self", .ref x), ("told", v)]) hroom (X _ _ ho) rfl hlim (codeRec_of X hcd) rfl (BindsTo.of_eq (by first | rfl | with_unfolding_all rfl)) (show ∀ x ∈ erScope.names, x.2 ≠ .cell by decide) (locs rfl) (fun h₁ hns hk => ?_)
  show _root_.PySem.wpAt _ (A.deeper (ksEnv qual erScope hp.objs.size fI (.ref cda) cc)) (.func _ (ksEnv qual erScope hp.objs.size fI (.ref cda) cc)) (execs _ (ksEnv qual erScope hp.objs.size fI (.ref cda) cc)) _ _ _
  have X₁ : K.In h₁ := X.keeps hk
  have hx₁ : h₁.get? x = some (excO C t0) := hk _ _ hx
  have hD1 := X₁ _ _ hC
  refine ks_wpAt_execs_cons (ks_wpAt_Expr_any ?_ rfl rfl)
  refine ks_wpAt_MethodCall ?_ (mc_eq hpos)
  refine ks_wpAt_super_base (env := ksEnv qual erScope hp.objs.size fI (.ref cda) cc) rfl rfl (by decide) rfl (X₁ _ _ ho) rfl rfl rfl (X₁ _ _ hcode) rfl hvs hfile htop ?_
  refine ks_loadName_global rfl rfl (loadGlobal_builtin (env := ksEnv qual erScope hp.objs.size fI (.ref cda) cc) (hG.keeps hk) hsg (hB.keeps hk) hsb ⟨rfl, ?_⟩)
  refine wpAny_loadName_free rfl rfl rfl ⟨_, X₁ _ _ hcell, rfl⟩ ?_
  refine wpAny_loadName_local (v := .ref x) rfl rfl hns (by first | rfl | kernel_rfl) ?_
  refine ks_wpAny_isType_cls hD1 rfl ⟨rfl, ?_⟩
  refine ks_wpAny_call_super hD1 rfl hx₁ rfl (fun c e => by cases e) (looks_mroIn X₁ T.mroC) (fun h₂ e₂ k₂ => ?_)
  have X₂ : K.In h₂ := X₁.keeps k₂
  have hx₂ : h₂.get? x = some (excO C t0) := k₂ _ _ hx₁
  have I₂ : InstAt h₂ x (excO C t0) C none := ⟨hx₂, rfl, rfl, trivial⟩
  have hm := T.sup
  unfold ks_superIn at hm
  rw [hcl] at hm
  refine kxs_getMethod kxs_ValueError e₂ (looks_opaque X₂ T.opq) (l₀ := .ref C :: bm) ?_ rfl X₂ hm (I₂.type.andThen (looks_subIn X₂ T.subB)) (ks_ne X₂ I₂ hcl) (by decide) ?_
  · exact fun A Q E s k q => wpAny_bind ((looks_clsIn X₂ hcl) A _ E s k (wpAny_pure q))
  have k₃ : ∀ b o, h₂.get? b = some o → (h₂.push (kxs_mw "ValueError.__init__" x)).get? b = some o := fun b o e => Heap.get?_push_of_some _ e
  refine kxs_callWith (i := "ValueError.__init__") (x := x) rfl ?_
  refine evalArgs_plain (spliced_cons ?_)
  refine ld_ks (v := v) ((hns.keeps k₂).keeps k₃) (by first | rfl | kernel_rfl) ?_
  refine spliced_nil ⟨Heap.get?_push_at rfl rfl, ?_⟩
  refine call_mw (k₃ _ _ (k₂ _ _ hD1)) (k₃ _ _ hx₂) (Heap.get?_push_at rfl rfl) (one_sz v) fun h₄ t1 k₄ hx₄ => ?_
  have k5 : ∀ b o, b ≠ x → h₁.get? b = some o → h₄.get? b = some o := fun b o hb e => k₄ b o hb (k₃ _ _ (k₂ _ _ e))
  have X₄ : K.In h₄ := fun a o e => k5 a o (fun z => by rw [z, hnx] at e; cases e) (X₁ _ _ e)
  have hxL : hp.objs.size ≠ x := Nat.ne_of_gt (Heap.lt_size hx)
  have hns₄ : h₄.Ns hp.objs.size (fun y => ([("self", .ref x), ("told", v)] : List (Str × Value)).reverse.lookup y) := by
    obtain ⟨oL, es, ep, hL, r⟩ := hns
    exact ⟨oL, es, ep, k5 _ _ hxL hL, r⟩
  refine _root_.PySem.wpAt_of_wpAny ?_
  refine wpAny_execs_cons (plainObj_wpAny_Assign_Attribute ?_)
  refine ld_ks (v := v) hns₄ (by first | rfl | kernel_rfl) (ld_ks (v := .ref x) hns₄ (by first | rfl | kernel_rfl) ?_)
  refine set_plain X₄ (ox := excO C t1) (od := none) ⟨hx₄, rfl, rfl, trivial⟩ T.sa ?_
  refine exc_osa X₄ hx₄ hcl (show refsVE (.ref C :: bm) = true from hbm) rfl T.noN (fun h₅ tk₅ dx k₅ dn dne hx₅ hn₅ => ?_)
  have z0 : hp.objs.size ≤ h₄.objs.size := Nat.le_of_lt hns₄.lt
  exact wpAny_execs_nil (hq h₅ tk₅ dx ⟨fun b o hb e => k₅ b o hb (k5 b o hb (hk b o e)), ⟨t1, hx₅⟩, Nat.le_trans z0 dn, dne, hn₅⟩)
theorem er_made (T : ErT prog K C fI) {v : Value} (X : K.In s.heap) (hlim : s.heap.NoLimit) (hG : s.heap.Ns mainGlobals mg) (hB : s.heap.Ns builtinsNs mb) (hsg : mg "super" = none) (hsb : mb "super" = some (.type "super")) (htop : (prog.main.scope.names.lookup ("super" : Str)).isSome = false) (hroom : A.depth + 1 < recursionLimit)
    (hq : ∀ h' tk e d, ErMade s.heap h' e C d v → R (.ok (.ret (.ref e))) { s with heap := h', toks := tk }) :
    codeAny (model prog w) A (.call (.ref C) ⟨[v], []⟩) R s := by
  obtain ⟨nm, q, N, bs, bm, sn, sub, ab, col, dd, k0, k1, k2, k3, k5, hC, hbm⟩ := T.cls
  obtain ⟨hp, g, dr, tk, os⟩ := s
  have k : ∀ b o, hp.get? b = some o → ((hp.push (kdv_tup [v])).push (excO C hp.objs.size)).get? b = some o := fun b o e => Heap.get?_push_of_some _ (Heap.get?_push_of_some _ e)
  have hget : ((hp.push (kdv_tup [v])).push (excO C hp.objs.size)).get? (hp.objs.size + 1) = some (excO C hp.objs.size) := by heap_get
  have fresh : ∀ o, hp.get? (hp.objs.size + 1) ≠ some o := fun o z => absurd (Nat.lt_of_succ_lt (Heap.lt_size z)) (Nat.lt_irrefl _)
  have hnx : K.lookup (hp.objs.size + 1) = none := by
    cases e : K.lookup (hp.objs.size + 1) with
    | none => rfl
    | some o => exact absurd (X _ _ e) (fresh o)
  refine call_own F.excBase_ValueError (fun X => refsVE_contains X bm hbm) (X _ _ hC) (looks_findIn X T.iC) (fun self => bind_fn X self T.tC) (one_sz v) ?_
  refine er_init (s := ⟨(hp.push (kdv_tup [v])).push (excO C hp.objs.size), g, dr, tk, os⟩) T (X.keeps k) (hlim.keeps k) (hG.keeps k) (hB.keeps k) hsg hsb htop hget hnx ?_ ?_ ?_ fun h' tk' dx ⟨k', ⟨t1, hx⟩, dn, dne, hns⟩ => ?_
  · intro z
    have y := hG.lt
    rw [← z] at y
    exact absurd (Nat.lt_of_succ_lt y) (Nat.lt_irrefl _)
  · intro z
    have y := hB.lt
    rw [← z] at y
    exact absurd (Nat.lt_of_succ_lt y) (Nat.lt_irrefl _)
  · show A.depth + 1 < recursionLimit
    exact hroom
  · have old : ∀ b o, hp.get? b = some o → h'.get? b = some o := fun b o e => k' b o (Nat.ne_of_lt (Nat.lt_succ_of_lt (Heap.lt_size e))) (k b o e)
    have z : hp.objs.size + 1 + 1 ≤ dx := by
      first
        | (simpa only [Heap.size_push] using dn)
        | exact dn
        | (have q := dn; rw [Heap.size_push, Heap.size_push] at q; exact q)
    exact ⟨rfl, hq h' tk' (hp.objs.size + 1) dx ⟨old, Nat.le_succ _, ⟨_, _, hx, rfl, rfl, rfl, rfl⟩, Nat.le_trans (Nat.le_trans (Nat.le_succ _) (Nat.le_succ _)) z, dne, hns⟩⟩
end
section
variable {X : Cx} {C fI : Addr}
theorem relO_told {v : V} {v' : Value} (r : RelV v v') (f : Str) : RelO (List.lookup f [(("told" : Str), v)]) (if f = "told" then some v' else none) := by
  by_cases hw : f = "told"
  · subst hw
    rw [if_pos rfl]
    have q : List.lookup ("told" : Str) [(("told" : Str), v)] = some v := by simp [List.lookup]
    rw [q]
    exact r
  · rw [if_neg hw]
    have qw : (f == ("told" : Str)) = false := by simpa using hw
    have q2 : List.lookup f [(("told" : Str), v)] = none := by simp [List.lookup, qw]
    rw [q2]
    trivial
/-- C(e) -/
def tMk (C : Addr) (ta : TA) : St → Hp → XK → Prop := fun σ H Q => ta σ H fun vs H1 => ∃ v, vs = [v] ∧ ∀ d, H1 d = none → Q (.ref C) (some d) (upd H1 d (.xd [(("told" : Str), v)]))
theorem pmk_er {a : Expr} {te : TA} {c : Str} {p pos : Pos} {k : Nat} (T : ErT X.prog X.K C fI) (hr : Room k X.A) (gC : X.mg c = some (.ref C)) (hsg : X.mg "super" = none) (hsb : bootBuiltins "super" = some (.type "super")) (htop : (X.prog.main.scope.names.lookup ("super" : Str)).isSome = false) (ha : PA X [a] te) (hg : Gl X c)
    (hdb : (c == ("__debug__" : Str)) = false := by decide) (he : starEach (a :: []) X.env = (false, eval a X.env) :: starEach [] X.env := by rfl) (hpl : (backTo pos (starEach [] X.env)).any (·.1) = false := by rfl) :
    PMk X (.Call (.Name c p) [a] [] pos) (tMk C te) := by
  intro pins s σ H Q I h
  refine wpAny_Call_Name_kw (ld_glob I hg gC ?_ hdb)
  refine PySem.W.callWith_K (h₀ := X.base) I.ok.mod.kin T.kC (thn (ha.run pos pins s σ H _ I h) fun us s1 hh => ?_) he hpl
  obtain ⟨vs, H1, I1, r1, v, ev, q1⟩ := hh
  subst ev
  refine ⟨I1.kIn, ?_⟩
  cases r1 with
  | cons rv rn =>
    rename_i v' us'
    cases rn
    show wpAny _ _ (call (.ref C) [v']) _ _ _
    have hlim := I1.nolimit
    obtain ⟨mb, hb1, hb2⟩ := I1.mod.blt
    have hG : s1.heap.Ns mainGlobals X.mg := I1.mod.glob.keeps I1.bk
    have hB : s1.heap.Ns builtinsNs mb := hb1.keeps I1.bk
    obtain ⟨hp, g, dr, tk, os⟩ := s1
    refine wpAny_call (er_made T I1.kIn hlim hG hB hsg ((hb2 _ (by decide)).trans hsb) htop (by have := hr.dp; omega) fun h' tk' e d M => ?_)
    show MkP X pins σ Q (.ref e) ⟨h', g, dr, tk', os⟩
    obtain ⟨oe, fv, hoe, hc, hd, hdat, h1⟩ := M.obj
    have hns := M.ns
    obtain ⟨G', g1, g2⟩ := restrict h' fun b => decide (b ≠ e)
    have gk : ∀ b, b ≠ e → G'.get? b = h'.get? b := fun b hb => g1 b (decide_eq_true hb)
    have ge : G'.get? e = none := g2 e (by simp)
    have old : ∀ b o, hp.get? b = some o → G'.get? b = some o := fun b o q => (gk b (Nat.ne_of_lt (Nat.lt_of_lt_of_le (Heap.lt_size q) M.new))).trans (M.keep b o q)
    have ob : ObjOk X.prog X.w (upd H1 d (.xd [(("told" : Str), v)])) G' d (.xd [(("told" : Str), v)]) :=
      ⟨_, hns.at (fun o q => (gk d M.dne).trans q), fun f => relO_told rv f⟩
    have J : Inv X pins σ (upd H1 d (.xd [(("told" : Str), v)])) ⟨G', g, dr, tk', os⟩ := I1.laid (t' := tk') old M.dbig ob
    refine ⟨e, oe, fv, ⟨G', g, dr, tk', os⟩, _, .ref C, some d, rfl, J, fun b o q => ?_, ge, hoe, ⟨hc, hd⟩, hdat, h1, ?_, rfl, I1.bare, raises_own T.exC T.tyC, q1 d (I1.hok.fresh M.dbig)⟩
    · by_cases hb : b = e
      · have q' : G'.get? b = some o := q
        rw [hb, ge] at q'; cases q'
      · exact (gk b hb).symm.trans q
    · rw [upd_ne (Ne.symm M.dne)]
      exact I1.hok.fresh M.new
end
end Mini

set_option Elab.async false
set_option linter.all false
set_option maxRecDepth 100000
set_option maxHeartbeats 2000000
/-! MiY: raise; try with several clauses of the form except C as e: return .. -/
namespace Mini
open PySem L2
section
variable {X : Cx} {W : WX} {g : Cfg} {e : Expr} {ce : CE} {pos p pos2 : Pos} {na : Bool} {c : Str} {fI : Addr} {k : Nat}
/-- raise C(e) -/
theorem s_rse (hc : X.calm = true) (T : ErT X.prog X.K (He.ga X.K c) fI) (hfo : fo c = "told") (hr : Room k X.A) (tk : Takes X W) (gC : X.mg c = some (.ref (He.ga X.K c))) (hsg : X.mg "super" = none) (hsb : bootBuiltins "super" = some (.type "super")) (htop : (X.prog.main.scope.names.lookup ("super" : Str)).isSome = false)
    (he : ME X W g e ce) (hg : Gl X c) (hst : starEach (e :: []) X.env = (false, eval e X.env) :: starEach [] X.env := by rfl) (hpl : (backTo pos (starEach [] X.env)).any (·.1) = false := by rfl) (hdb : (c == ("__debug__" : Str)) = false := by decide) :
    MS X W g na (.Raise (some (.Call (.Name c p) [e] [] pos)) none pos2) (.rse c ce) := PS_imp (ps_raise hc tk (pmk_er T hr gC hsg hsb htop (pa_cons he pa_nil hst) hg hdb hst hpl)) fun D s H ⟨O, m, M, r, S, R, h⟩ => by
  simp only [evS] at h
  refine ⟨O, m, M, r, S, R, h.bindE.imp fun v H1 ⟨x, m1, M1, e1, S1, r1, h1⟩ => ⟨v, rfl, fun d hd => ?_⟩⟩
  have ex : Ext m1 H1 m1 (upd H1 d (.xd [(("told" : Str), v)])) := Ext.alloc S1 hd
  exact h1 s d v m1 _ (fun _ => rfl) ex (S1.alloc hd) (r1.ext ex) (by rw [hfo]; exact upd_same)
end
/-! ### try -/
def wManyA (K : PySem.W.Frag) (Wout : WX) (D : Ends) : List (Value × Nat × (Addr → Value → Option Addr → TS)) → WX
  | [] => Wout
  | (c, i, ts) :: r => fun cls d σ H => ∃ b, PySem.W.exmOne K cls c = some b ∧ (b = true → ∀ a, H a = none → ts a cls d { nx := fun σ' H' => D.nx (σ'.set i none) H', rt := D.rt, bk := fun σ' H' => D.bk (σ'.set i none) H', ct := fun σ' H' => D.ct (σ'.set i none) H' } (σ.set i (some (.ref a))) H) ∧ (b = false → wManyA K Wout D r cls d σ H)
inductive HdsAs (X : Cx) : List ExceptHandler → List (Value × Nat × (Addr → Value → Option Addr → TS)) → Prop
  | nil : HdsAs X [] []
  | cons {x n : Str} {c : Value} {i : Nat} {ts : Addr → Value → Option Addr → TS} {b₀ : Stmt} {suite : List Stmt} {np pos' : Pos} {hds : List ExceptHandler} {l : List (Value × Nat × (Addr → Value → Option Addr → TS))} (hc : Names X x c) (hi : X.N[i]? = some n) (hln : X.env.kindOf n = some .local)
      (hsu : ∀ (a : Addr) (oe : Obj) (cls : Value) (d : Option Addr) (pn : List (Addr × Obj)), Zc cls d oe → (∃ vs, oe.data = .fields vs) → PSs (X.suite a ((a, oe) :: pn)) (b₀ :: suite) (ts a cls d)) (r : HdsAs X hds l) :
      HdsAs X (.ExceptHandler (some (.Name x np)) (some n) (b₀ :: suite) pos' :: hds) ((c, i, ts) :: l)
section
open PySem.Spec PyProof.Rows
variable {X : Cx} {body : List Stmt} {h₀ : ExceptHandler} {hds : List ExceptHandler} {l : List (Value × Nat × (Addr → Value → Option Addr → TS))} {pos : Pos} {tb : WX → TS} {Wout : WX}
theorem ps_try_manyA (hs : X.stack = X.env :: X.outer) (hf : X.env.frame = some X.env.locals) (hN : X.N.Nodup) (tk : Takes X Wout)
    (hb : ∀ (W : WX) (pn : List (Addr × Obj)) (xe : Value → Shared → Prop), Takes (X.tr pn xe) W → PassesOwn (model X.prog X.w) X.A X.env xe → PSs (X.tr pn xe) body (tb W))
    (hh : HdsAs X (h₀ :: hds) l) : PS X (.Try body (h₀ :: hds) [] [] pos) (fun D σ H => tb (wManyA X.K Wout D l) D σ H) := by
  refine ⟨fun pins s σ H D I h => ?_⟩
  have ok := I.ok
  have hfr : X.A.frames = some (X.env :: X.outer) := by rw [ok.frames, hs]
  refine wpAny_Try_except ?_
  refine wpAny_mono ((hb (wManyA X.K Wout D l) (X.pn ++ pins) (fun e s₁ => wpAny (model X.prog X.w) X.A (noteFrame e X.env) (fun _ s₂ => wpAny (model X.prog X.w) X.A (setFlight e none) (fun _ s₃ =>
    wpAny (model X.prog X.w) X.A (handleBy e X.env (h₀ :: hds)) (SP X pins D) X.xe s₃) X.xe s₂) X.xe s₁) (fun u s' xx => ?_) PassesOwn.looking).run [] s σ H D (I.toTry _) h) (fun f s1 hsp => ?_) (fun e s1 he => he)
  · obtain ⟨a, B, sI, pins', σ', H', cls, d, rfl, J', nb, up, sky, na, os, ag, w⟩ := xx
    have J : Inv X pins σ' H' sI := J'.ofTry ok
    have sky' : Sky B (X.env :: X.outer) a (Zc cls d) X.env.locals s'.heap := by rw [← hs]; exact sky
    show wpAny (model X.prog X.w) X.A (noteFrame (.ref a) X.env) _ _ _
    refine Sky.land Zc.steady hfr hf sky' fun h3 fl3 up3 => ?_
    have J3 : Inv X pins σ' H' { s' with heap := h3 } := J.landed nb fl3.1 (up.trans up3) os ag
    obtain ⟨oe3, vs3, he3, hz3, hd3⟩ := fl3.there
    have nfr : a ∉ frs (X.env :: X.outer) := fun hm => by
      obtain ⟨_, o', e', hnf⟩ := fl3.2.2.1.mem hm
      rw [he3] at e'; cases e'
      exact hnf _ hd3
    have nL : a ≠ X.env.locals := fun z => nfr (List.mem_filterMap.mpr ⟨X.env, List.mem_cons_self, by rw [hf, z]⟩)
    have nF : a ∉ X.fs := fun hm => by
      obtain ⟨e, he, q⟩ := List.mem_filterMap.mp hm
      exact nfr (List.mem_filterMap.mpr ⟨e, List.mem_cons_of_mem _ he, q⟩)
    have S3 := J3.suite he3 hd3 na nL nF
    have go : ∀ {hds' : List ExceptHandler} {l' : List (Value × Nat × (Addr → Value → Option Addr → TS))}, HdsAs X hds' l' → wManyA X.K Wout D l' cls d σ' H' →
        wpAny (model X.prog X.w) X.A (handleBy (.ref a) X.env hds') (SP X pins D) X.xe { s' with heap := h3 } := by
      intro hds' l' hk
      induction hk with
      | nil =>
        intro w
        refine wpAny_handleBy_nil ?_
        obtain ⟨k1, k2, k3, oe, vs, T, oT, ts', he, hz, hd, h1, hr⟩ := id fl3
        unfold PySem.passOn
        refine wpAny_bind (wpAny_field he hd h1 ?_)
        rw [if_neg (show ¬ ((Value.ref T == Value.none) = true) from by simp)]
        have fin : wpAny (model X.prog X.w) X.A (setFlight (.ref a) X.env.frame) (fun _ s4 => wpAny (model X.prog X.w) X.A (throw (.ref a) : Sem Flow) (SP X pins D) X.xe s4) X.xe { s' with heap := h3 } := by
          rw [hf]
          refine HandSPX.setFlight_upZ fl3 fun h4 hh4 up4 => wpAny_throw (tk _ _ ?_)
          exact ⟨a, B, sI, pins, σ', H', cls, d, rfl, J, nb, (up.trans up3).trans up4, .inr (.inr (by rw [hs]; exact hh4)), na, os, ag, w⟩
        first
          | exact wpAny_bind (wpAny_pure (wpAny_bind fin))
          | exact wpAny_bind fin
      | @cons x n c i ts b₀ suite np pos' hds2 l2 hc hi hln hsu r ih =>
        intro w
        obtain ⟨b, hb1, hyes, hno⟩ := w
        refine wpAny_handleBy_cons (codeAny_handlers_test ?_) (by intro q; cases q)
        have LT : PySem.W.Looks (model X.prog X.w) h3 (typeOf (.ref a)) cls := fun A Q E s k q => wpAny_typeOf_ref (k _ _ he3) (by rw [hz3.1]; exact q)
        have LM := PySem.W.exm_one (M := model X.prog X.w) (J3.kIn) LT hb1
        have test : ∀ {Q : Value → Shared → Prop} {E : Value → Shared → Prop}, Q c { s' with heap := h3 } → wpAny (model X.prog X.w) (X.A.mark (some (.ref a))) (eval (.Name x np) X.env) Q E { s' with heap := h3 } := fun {Q E} q => by
          obtain ⟨hg, hdbg, hm | ⟨hm, hv, hnn⟩⟩ := hc
          · exact ld_glob (X := X.suite a ((a, oe3) :: (X.pn ++ pins))) S3 hg hm q hdbg
          · exact ld_blt (X := X.suite a ((a, oe3) :: (X.pn ++ pins))) S3 hg hm hv q hnn hdbg
        refine test (LM.here ?_)
        cases b with
        | true =>
          have hloc : Loc X.env.scope n := .inl hln
          refine codeAny_handlers_suite_as ?_
          refine HandSPX.lands_againZ fl3 fun h4 fl4 up4 => ?_
          have J4 : Inv X pins σ' H' { s' with heap := h4 } := J.landed nb fl4.1 ((up.trans up3).trans up4) os ag
          obtain ⟨oe4, vs4, he4, hz4, hd4⟩ := fl4.there
          have S4 := J4.suite he4 hd4 na nL nF
          refine store_ok (X := X.suite a ((a, oe4) :: (X.pn ++ pins))) (v := .ref a) S4 hN hi hloc rfl (fun s5 S5 => ?_) (.inr hln)
          refine wpAny_mono ((hsu a oe4 cls d (X.pn ++ pins) hz4 ⟨_, hd4⟩).run [] s5 _ H' _ S5 (hyes rfl a na)) (fun f s6 hsp => ?_) (fun _ _ z => False.elim z)
          have end_ : ∀ {σ6 : L2.St} {H6 : Hp} {Q : Shared → Prop}, Inv (X.suite a ((a, oe4) :: (X.pn ++ pins))) [] σ6 H6 s6 → (∀ s7, Inv X pins (σ6.set i none) H6 s7 → Q s7) →
              wpAny (model X.prog X.w) X.A (do bindName X.env n .none; unbindBehindTheSuite X.env n pos') (fun _ s7 => Q s7) X.xe s6 := fun {σ6 H6 Q} S6 hq => gone_ok (S6.unsuite ok) hN hi hln hq
          cases f with
          | next =>
            obtain ⟨σ6, H6, S6, q6⟩ := hsp
            exact end_ S6 fun s7 J7 => ⟨_, _, J7, q6⟩
          | brk =>
            obtain ⟨σ6, H6, S6, q6⟩ := hsp
            exact end_ S6 fun s7 J7 => ⟨_, _, J7, q6⟩
          | cont =>
            obtain ⟨σ6, H6, S6, q6⟩ := hsp
            exact end_ S6 fun s7 J7 => ⟨_, _, J7, q6⟩
          | ret u =>
            obtain ⟨v6, σ6, H6, S6, r6, q6⟩ := hsp
            exact end_ S6 fun s7 J7 => ⟨_, _, _, J7, r6, q6⟩
        | false =>
          show wpAny _ X.A (handleBy (.ref a) X.env hds2) _ _ _
          exact ih (hno rfl)
    exact go hh w
  · cases f with
    | next =>
      obtain ⟨σ', H', J', q⟩ := hsp
      exact wpAny_execs_nil ⟨σ', H', J'.ofTry ok, q⟩
    | brk =>
      obtain ⟨σ', H', J', q⟩ := hsp
      exact ⟨σ', H', J'.ofTry ok, q⟩
    | cont =>
      obtain ⟨σ', H', J', q⟩ := hsp
      exact ⟨σ', H', J'.ofTry ok, q⟩
    | ret u =>
      obtain ⟨v, σ', H', J', r, q⟩ := hsp
      exact ⟨v, σ', H', J'.ofTry ok, r, q⟩
end
/-! ### suites -/
/-- a part of what a suite returns: c0 the clause's class, i its name's slot -/
def tAt (K : PySem.W.Frag) (c0 : Str) (i : Nat) (a : Addr) (cls : Value) (d : Option Addr) (t : Atm) : TE := fun σ H Q => ∃ O m M x dd v y, Sim K O m M H ∧ RepV K (gr O m H) m v x ∧ σ[i]? = some (some (.ref a)) ∧ cls = .ref (He.ga K c0) ∧ d = some dd ∧ H dd = some (.xd [(fo c0, v)]) ∧ t.val x = some y ∧ ∀ u, RepV K (gr O m H) m u y → Q u H
def tAts (K : PySem.W.Frag) (c0 : Str) (i : Nat) (a : Addr) (cls : Value) (d : Option Addr) (ts : List Atm) : TA := fun σ H Q => ∃ O m M x dd v ys, Sim K O m M H ∧ RepV K (gr O m H) m v x ∧ σ[i]? = some (some (.ref a)) ∧ cls = .ref (He.ga K c0) ∧ d = some dd ∧ H dd = some (.xd [(fo c0, v)]) ∧ mapO (Atm.val x) ts = some ys ∧ ∀ us, RepL K (gr O m H) m us ys → Q us H
def tHx (K : PySem.W.Frag) (c0 : Str) (i : Nat) (a : Addr) (cls : Value) (d : Option Addr) (t : Hx) : TS := fun D σ H => ∃ O m M x dd v y, Sim K O m M H ∧ RepV K (gr O m H) m v x ∧ σ[i]? = some (some (.ref a)) ∧ cls = .ref (He.ga K c0) ∧ d = some dd ∧ H dd = some (.xd [(fo c0, v)]) ∧ t.val x = some y ∧ Fin K O m M H y D.rt
section
variable {X : Cx} {c0 n : Str} {i : Nat} {a : Addr} {oe : Obj} {cls : Value} {d : Option Addr} {pn : List (Addr × Obj)} {pos p : Pos} {t : Atm} {ts : List Atm} {e : Expr} {es : List Expr}
theorem h_pay (T : XfC X.K (He.ga X.K c0)) (hno : PySem.W.findIn X.K (.ref (He.ga X.K c0)) (fo c0) = some none) (hz : Zc cls d oe) (hf : ∃ vs, oe.data = .fields vs) (he : PE (X.suite a ((a, oe) :: pn)) (.Name n p) (tVar i)) :
    PE (X.suite a ((a, oe) :: pn)) (.Attribute (.Name n p) (fo c0) pos) (tAt X.K c0 i a cls d .pay) := PE_imp (pe_xf T hno hz hf he) fun s H Q ⟨O, m, M, x, dd, v, y, S, R, h1, h2, h3, h4, h5, h⟩ => by
  refine ⟨_, h1, rfl, h2, dd, _, v, h3, h4, by simp [List.lookup], h v ?_⟩
  obtain rfl : x = y := Option.some.inj h5
  exact R
theorem h_str {z : Str} {j} : PE (X.suite a ((a, oe) :: pn)) (.Constant (.str z) j pos) (tAt X.K c0 i a cls d (.con (.str z))) := PE_imp pe_str fun s H Q ⟨O, m, M, x, dd, v, y, S, R, h1, h2, h3, h4, h5, h⟩ => by
  obtain rfl : MV.str z = y := Option.some.inj h5
  exact h _ (.str z)
theorem hs_nil : PA (X.suite a ((a, oe) :: pn)) [] (tAts X.K c0 i a cls d []) := PA_imp pa_nil fun s H Q ⟨O, m, M, x, dd, v, y, S, R, h1, h2, h3, h4, h5, h⟩ => by
  obtain rfl : [] = y := Option.some.inj h5
  exact h _ .nil
theorem hs_cons (he : PE (X.suite a ((a, oe) :: pn)) e (tAt X.K c0 i a cls d t)) (hes : PA (X.suite a ((a, oe) :: pn)) es (tAts X.K c0 i a cls d ts)) (hst : starEach (e :: es) (X.suite a ((a, oe) :: pn)).env = (false, eval e (X.suite a ((a, oe) :: pn)).env) :: starEach es (X.suite a ((a, oe) :: pn)).env := by rfl) :
    PA (X.suite a ((a, oe) :: pn)) (e :: es) (tAts X.K c0 i a cls d (t :: ts)) := PA_imp (pa_cons he hes hst) fun s H Q ⟨O, m, M, x, dd, v, y, S, R, h1, h2, h3, h4, h5, h⟩ => by
  unfold mapO at h5
  cases q1 : t.val x with
  | none => rw [q1] at h5; cases h5
  | some y1 =>
    cases q2 : mapO (Atm.val x) ts with
    | none => rw [q1, q2] at h5; cases h5
    | some ys =>
      rw [q1, q2] at h5
      obtain rfl := Option.some.inj h5
      exact ⟨O, m, M, x, dd, v, y1, S, R, h1, h2, h3, h4, q1, fun u ru => ⟨O, m, M, x, dd, v, ys, S, R, h1, h2, h3, h4, q2, fun us rus => h _ (.cons ru rus)⟩⟩
theorem mapO_len {α β : Type} {f : α → Option β} : ∀ {xs : List α} {ys : List β}, mapO f xs = some ys → ys.length = xs.length
  | [], ys, h => by
    obtain rfl := Option.some.inj h
    rfl
  | x :: xs, ys, h => by
    unfold mapO at h
    cases q1 : f x with
    | none => rw [q1] at h; cases h
    | some y1 =>
      cases q2 : mapO f xs with
      | none => rw [q1, q2] at h; cases h
      | some ys' =>
        rw [q1, q2] at h
        obtain rfl := Option.some.inj h
        simp [mapO_len q2]
theorem hx_lst (hes : PA (X.suite a ((a, oe) :: pn)) es (tAts X.K c0 i a cls d ts)) (hl : ts.length ≤ 1000 := by decide) : PSs (X.suite a ((a, oe) :: pn)) [.Return (some (.List es p)) pos] (tHx X.K c0 i a cls d (.lst ts)) :=
  PSs_imp (pss_one (ps_ret (pe_lst hes))) fun D s H ⟨O, m, M, x, dd, v, y, S, R, h1, h2, h3, h4, h5, h⟩ => by
    simp only [Hx.val] at h5
    cases q : mapO (Atm.val x) ts with
    | none => rw [q] at h5; cases h5
    | some ys =>
      rw [q] at h5
      obtain rfl := Option.some.inj h5
      refine ⟨O, m, M, x, dd, v, ys, S, R, h1, h2, h3, h4, q, fun us rus => ⟨?_, fun pp hp => Fin.lst h S hp rus⟩⟩
      rw [rus.len, mapO_len q]
      exact Nat.le_of_lt (small1000 hl)
theorem hx_tup {k} (hes : PA (X.suite a ((a, oe) :: pn)) es (tAts X.K c0 i a cls d ts)) (hl : ts.length ≤ 1000 := by decide) : PSs (X.suite a ((a, oe) :: pn)) [.Return (some (.Tuple es k p)) pos] (tHx X.K c0 i a cls d (.tup ts)) :=
  PSs_imp (pss_one (ps_ret (pe_tup hes))) fun D s H ⟨O, m, M, x, dd, v, y, S, R, h1, h2, h3, h4, h5, h⟩ => by
    simp only [Hx.val] at h5
    cases q : mapO (Atm.val x) ts with
    | none => rw [q] at h5; cases h5
    | some ys =>
      rw [q] at h5
      obtain rfl := Option.some.inj h5
      refine ⟨O, m, M, x, dd, v, ys, S, R, h1, h2, h3, h4, q, fun us rus => ⟨?_, fun pp hp => Fin.tup h S hp rus⟩⟩
      rw [rus.len, mapO_len q]
      exact Nat.le_of_lt (small1000 hl)
theorem hx_one (he : PE (X.suite a ((a, oe) :: pn)) e (tAt X.K c0 i a cls d t)) : PSs (X.suite a ((a, oe) :: pn)) [.Return (some e) pos] (tHx X.K c0 i a cls d (.one t)) :=
  PSs_imp (pss_one (ps_ret he)) fun D s H ⟨O, m, M, x, dd, v, y, S, R, h1, h2, h3, h4, h5, h⟩ => ⟨O, m, M, x, dd, v, y, S, R, h1, h2, h3, h4, h5, fun u ru => h u H Ext.refl S ru⟩
end
/-! the same without the suite's own context -/
structure HA (X : Cx) (c0 : Str) (i : Nat) (e : Expr) (t : Atm) : Prop where
  run : ∀ (a : Addr) (oe : Obj) (cls : Value) (d : Option Addr) (pn : List (Addr × Obj)), Zc cls d oe → (∃ vs, oe.data = .fields vs) → PE (X.suite a ((a, oe) :: pn)) e (tAt X.K c0 i a cls d t)
structure HAs (X : Cx) (c0 : Str) (i : Nat) (es : List Expr) (ts : List Atm) : Prop where
  run : ∀ (a : Addr) (oe : Obj) (cls : Value) (d : Option Addr) (pn : List (Addr × Obj)), Zc cls d oe → (∃ vs, oe.data = .fields vs) → PA (X.suite a ((a, oe) :: pn)) es (tAts X.K c0 i a cls d ts)
structure HS (X : Cx) (c0 : Str) (i : Nat) (ss : List Stmt) (t : Hx) : Prop where
  run : ∀ (a : Addr) (oe : Obj) (cls : Value) (d : Option Addr) (pn : List (Addr × Obj)), Zc cls d oe → (∃ vs, oe.data = .fields vs) → PSs (X.suite a ((a, oe) :: pn)) ss (tHx X.K c0 i a cls d t)
section
variable {X : Cx} {c0 n f : Str} {i : Nat} {pos p : Pos} {t : Atm} {ts : List Atm} {e : Expr} {es : List Expr}
theorem ha_pay (T : XfC X.K (He.ga X.K c0)) (hno : PySem.W.findIn X.K (.ref (He.ga X.K c0)) f = some none) (hfo : fo c0 = f) (hN : X.N[i]? = some n := by rfl) (hv : Vis X.env.scope n := by first | exact Or.inl rfl | exact Or.inr (Or.inl rfl) | exact Or.inr (Or.inr rfl)) (hd : (n == ("__debug__" : Str)) = false := by decide)
    (hcd : (n == ("__classdict__" : Str)) = false := by decide) (hb : attributeBase (.Name n p) f X.env (eval (.Name n p) X.env) = eval (.Name n p) X.env := by rfl) : HA X c0 i (.Attribute (.Name n p) f pos) .pay := by
  subst hfo
  exact ⟨fun a oe cls d pn hz hf => PE_imp (pe_xf T hno hz hf (pe_var hN hv hd hcd) hb) fun s H Q ⟨O, m, M, x, dd, v, y, S, R, h1, h2, h3, h4, h5, h⟩ => by
    refine ⟨_, h1, rfl, h2, dd, _, v, h3, h4, by simp [List.lookup], h v ?_⟩
    obtain rfl : x = y := Option.some.inj h5
    exact R⟩
theorem ha_str {z : Str} {j} : HA X c0 i (.Constant (.str z) j pos) (.con (.str z)) := ⟨fun a oe cls d pn hz hf => h_str⟩
theorem has_nil : HAs X c0 i [] [] := ⟨fun a oe cls d pn hz hf => hs_nil⟩
theorem has_cons (he : HA X c0 i e t) (hes : HAs X c0 i es ts) (hst : starEach (e :: es) X.env = (false, eval e X.env) :: starEach es X.env := by rfl) : HAs X c0 i (e :: es) (t :: ts) := ⟨fun a oe cls d pn hz hf => hs_cons (he.run a oe cls d pn hz hf) (hes.run a oe cls d pn hz hf) hst⟩
theorem hst_lst (hes : HAs X c0 i es ts) (hl : ts.length ≤ 1000 := by decide) : HS X c0 i [.Return (some (.List es p)) pos] (.lst ts) := ⟨fun a oe cls d pn hz hf => hx_lst (hes.run a oe cls d pn hz hf) hl⟩
theorem hst_tup {k} (hes : HAs X c0 i es ts) (hl : ts.length ≤ 1000 := by decide) : HS X c0 i [.Return (some (.Tuple es k p)) pos] (.tup ts) := ⟨fun a oe cls d pn hz hf => hx_tup (hes.run a oe cls d pn hz hf) hl⟩
theorem hst_one (he : HA X c0 i e t) : HS X c0 i [.Return (some e) pos] (.one t) := ⟨fun a oe cls d pn hz hf => hx_one (he.run a oe cls d pn hz hf)⟩
end
/-! ### clauses -/
/-- what g.sub says is what the text's classes say -/
def SubOk (K : PySem.W.Frag) (sub : Str → Str → Option Bool) : Prop := ∀ c d b, sub c d = some b → PySem.W.exmOne K (.ref (He.ga K c)) (.ref (He.ga K d)) = some b
def MH (X : Cx) (W : WX) (g : Cfg) (hds : List ExceptHandler) (ch : CH) : Prop := ∃ l, HdsAs X hds l ∧ ∀ O m M H s na D c x d v, Sim X.K O m M H → RepV X.K (gr O m H) m v x → H d = some (.xd [(fo c, v)]) → PostS X.K O m H W na s D (evH g ch s.length c x M) → wManyA X.K W D l (.ref (He.ga X.K c)) (some d) s H
section
variable {X : Cx} {W : WX} {g : Cfg} {hds : List ExceptHandler} {h₀ : ExceptHandler} {ch : CH} {c0 n : Str} {i : Nat} {b₀ : Stmt} {suite body : List Stmt} {np pos pos' : Pos} {b : Hx} {na : Bool} {cb : CB}
theorem mh_nil : MH X W g [] .nil := ⟨[], .nil, fun O m M H s na D c x d v S R hd h => h s d v m H (fun _ => rfl) Ext.refl S R hd⟩
theorem mh_cons (hS : SubOk X.K g.sub) (h0 : ∀ c, g.sub c c0 = some true → c = c0) (hc : Gl X c0) (hm : X.mg c0 = some (.ref (He.ga X.K c0))) (hi : X.N[i]? = some n) (hln : X.env.kindOf n = some .local)
    (hsu : HS X c0 i (b₀ :: suite) b) (r : MH X W g hds ch) (hdb : (c0 == ("__debug__" : Str)) = false := by decide) :
    MH X W g (.ExceptHandler (some (.Name c0 np)) (some n) (b₀ :: suite) pos' :: hds) (.cons c0 i b ch) := by
  obtain ⟨l, hl, hw⟩ := r
  refine ⟨_, .cons (c := .ref (He.ga X.K c0)) (ts := fun a cls d => tHx X.K c0 i a cls d b) ⟨hc, hdb, .inl hm⟩ hi hln hsu.run hl, fun O m M H s na D c x d v S R hd h => ?_⟩
  simp only [evH] at h
  cases q : g.sub c c0 with
  | none => rw [q] at h; exact h.elim
  | some k =>
    rw [q] at h
    refine ⟨k, hS _ _ _ q, fun hk a ha => ?_, fun hk => ?_⟩
    · subst hk
      obtain rfl := h0 _ q
      dsimp only at h
      split at h
      · rename_i hlt
        cases q2 : b.val x with
        | none => rw [q2] at h; exact h.elim
        | some y =>
          rw [q2] at h
          exact ⟨O, m, M, x, d, v, y, S, R, by rw [List.getElem?_set]; simp [hlt], rfl, rfl, hd, q2, fun u H' e' S' r' => h u m H' e' S' r'⟩
      · exact h.elim
    · subst hk
      exact hw O m M H s na D c x d v S R hd h
theorem s_try (hs : X.stack = X.env :: X.outer) (hf : X.env.frame = some X.env.locals) (hN : X.N.Nodup) (tk : Takes X W)
    (hb : ∀ (W : WX) (pn : List (Addr × Obj)) (xe : Value → Shared → Prop), Takes (X.tr pn xe) W → PassesOwn (model X.prog X.w) X.A X.env xe → MB (X.tr pn xe) W g true body cb)
    (hh : MH X W g (h₀ :: hds) ch) : MS X W g na (.Try body (h₀ :: hds) [] [] pos) (.tryA cb ch) := by
  obtain ⟨l, hl, hw⟩ := hh
  refine PS_imp (ps_try_manyA (tb := fun W => tBl X.K W g true cb) hs hf hN tk hb hl) fun D s H ⟨O, m, M, r, S, R, h⟩ => ?_
  simp only [evS] at h
  refine ⟨O, m, M, r, S, R, ?_⟩
  cases q : evB g cb r M with
  | stuck => rw [q] at h; exact h.elim
  | ok w M' =>
    rw [q] at h
    cases w with
    | next r' => exact fun s' m' H' hs' e' S' R' => h s' m' H' (fun _ => hs' rfl) e' S' R'
    | brk r' => exact fun s' m' H' hs' e' S' R' => h s' m' H' (fun _ => hs' rfl) e' S' R'
    | cnt r' => exact fun s' m' H' hs' e' S' R' => h s' m' H' (fun _ => hs' rfl) e' S' R'
    | ret x => exact h
  | exn c x M' =>
    rw [q] at h
    intro s' d v m' H' hs' e' S' r' hd
    obtain rfl := hs' rfl
    have h1 : PostS X.K O m' H' W na s' D (evH g ch s'.length c x M') := by
      rw [R.1]
      exact PostS.later h e' fun _ => rfl
    exact hw O m' M' H' s' na D c x d v S' r' hd h1
end
end Mini

set_option Elab.async false
set_option linter.all false
set_option maxRecDepth 100000
set_option maxHeartbeats 2000000
/-! MiU: dicts with tuples as keys; lists turned; a def held by a variable; except without a name. -/
namespace Mini
open PySem L2 PySem.Spec PyProof.Rows
/-! ### methods of dicts with two arguments -/
def tD2 (r : V → List V → Hp → VK → Prop) (td ty tx : TE) : TE := fun σ H Q => td σ H fun x H1 => ∃ a, x = .ref a ∧ IsD H1 a ∧ ty σ H1 fun y H2 => tx σ H2 fun z H3 => r x [y, z] H3 Q
section
variable {X : Cx} {o e f : Expr} {td ty tx : TE} {apos cpos : Pos} {name : Str} {id : String} {r : V → List V → Hp → VK → Prop}
theorem pe_d2 (slot : Slot "dict" name id) (hty : typeOf (.builtin id) = pure (.type "method_descriptor")) (hm : MtR X id r) (ho : PE X o td) (he : PE X e ty) (hf : PE X f tx) (m : M2 X o name apos e f cpos) : PE X (.Call (.Attribute o name apos) [e, f] [] cpos) (tD2 r td ty tx) := by
  refine ⟨fun pins s σ H Q I h => ?_⟩
  refine wpAny_Call_method m.base m.few m.line PySem.F.plainAttrs_dict slot hty (thn (ho.run pins s σ H _ I h) fun u s1 ⟨x, H1, I1, rx, a, ex, d, q1⟩ => ?_)
  subst ex
  obtain rfl : u = Value.ref a := rx
  obtain ⟨t1, t2, _⟩ := isD_at I1 d
  refine ⟨t1, t2, ?_⟩
  rw [m.trees]
  refine Calls.callWith_builtin rfl (Calls.evalArgs_plain (Calls.spliced_cons (thn (he.run pins s1 σ H1 _ I1 q1) fun iv s2 ⟨y, H2, I2, ry, q2⟩ =>
    Calls.spliced_cons (thn (hf.run pins s2 σ H2 _ I2 q2) fun fv s3 ⟨z, H3, I3, rz, q3⟩ => Calls.spliced_nil ?_))))
  exact hm pins s3 σ H3 (.ref a) [y, z] (.ref a) [iv, fv] Q I3 rfl (.cons ry (.cons rz .nil)) q3
end
def rSetdT : V → List V → Hp → VK → Prop := fun x xs H Q => ∃ (a : Addr) (kvs : List (List L2.Key × V)) (k : List L2.Key) (b : Addr) (d : V), x = .ref a ∧ xs = [.ref b, d] ∧ H a = some (.dT kvs) ∧ H b = some (.tup (k.map kV)) ∧
  (∀ v, valV kvs k = some v → Q v H) ∧ (valV kvs k = none → kvs.length < sizeLine ∧ Q d (upd H a (.dT (putK kvs k d))))
section
variable {X : Cx}
theorem mt_setdT (hu : X.A.units + 1 < cLine) : MtR X "dict.setdefault" rSetdT := by
  intro pins s σ H x xs v us Q I rx rxs h
  obtain ⟨a, kvs, k, b, d, rfl, rfl, ha, hb, q1, q2⟩ := h
  cases rx
  obtain ⟨u1, u2, rfl, r1, r2⟩ := vals2 rxs
  cases r1
  obtain ⟨z, hd, xs', rel, dd⟩ := dt_of I.hok ha
  have hz : xs'.length ≤ sizeLine := by rw [← Paired.length rel]; exact z
  refine call_setdefault_heap (knd := tupleKind (mixKind X.prog X.w)) (k := k) (hsz := hz) (tupleKind_room_in1 hu) (key_of I.hok hb) hd dd (fun p hp => ?_) fun hn h' dd' hs => ?_
  · have r := rel.val k
    rw [hp] at r
    cases ev : valV kvs k with
    | none =>
      rw [ev] at r
      exact (show False from r).elim
    | some v0 =>
      rw [ev] at r
      exact ⟨v0, H, I.tok _, r, q1 v0 ev⟩
  · have r := rel.val k
    rw [hn] at r
    cases ev : valV kvs k with
    | some v0 =>
      rw [ev] at r
      exact (show False from r).elim
    | none =>
      have hl := (q2 ev).1
      have hl2 : (putK kvs k d).length ≤ sizeLine := by have := length_putK kvs k d; omega
      obtain ⟨q, es, ep, hq, h2, h3, h4, _, h5⟩ := dd'
      refine ⟨d, upd H a (.dT (putK kvs k d)), d_write (ob := .dT (putK kvs k d)) I (by rw [ha]; exact True.intro) hs ⟨q, hq⟩ ⟨hl2, hd, _, (rel.put k hb r2).keeps fun c ys ec => ?_, q, es, ep, hq, h2, h3, h4, h5⟩, r2, (q2 ev).2⟩
      rw [upd_ne (ne_of ec ha (fun z => nomatch z))]
      exact ec
end
/-! ### a display of one pair, the key a tuple -/
def tDisp1 (tk tv : TE) : TE := fun σ H Q => ∀ p, H p = none → tk σ (upd H p (.dT [])) fun x H1 => tv σ H1 fun y H2 => ∃ (q : List L2.Key) (b : Addr), x = .ref b ∧ H2 b = some (.tup (q.map kV)) ∧ H2 p = some (.dT []) ∧ Q (.ref p) (upd H2 p (.dT [(q, y)]))
theorem pe_disp1 {X : Cx} {pos : Pos} {k v : Expr} {tk tv : TE} (hu : X.A.units + 1 < cLine) (hk : PE X k tk) (hv : PE X v tv) : PE X (.Dict [some k] [v] pos) (tDisp1 tk tv) := by
  refine ⟨fun pins s σ H Q I q => ?_⟩
  have hn := I.hok.fresh (Nat.le_refl s.heap.objs.size)
  have I1 := I.laid (a := s.heap.objs.size) (o := .dT []) (h' := s.heap.push { cls := .type "dict", data := .dict #[] }) (t' := s.toks) (fun _ _ q => Heap.get?_push_of_some _ q) (Nat.le_refl _) (dt_empty s.heap I.big)
  have hz := zip_pairTrees [some k] [v] X.env pos rfl rfl
  rw [arm_eval_Dict, hz, dictDisplay_pairs _ (by intro z; cases z) (by show 1 < 17; decide)]
  refine wpAny_bind (wpAny_standAt (wpAny_bind (wpAny_subDictH (knd := tupleKind (mixKind X.prog X.w)) (show X.A.units < cLine by omega) (by show 1 ≤ 15; decide) ?_)))
  refine pairTrees_cons_walk (thn (hk.run pins _ σ _ _ I1 (q _ hn)) fun kv s1 ⟨x, H1, I2, rx, q1⟩ => thn (hv.run pins s1 σ _ _ I2 q1) fun vv s2 ⟨y, H2, I3, ry, qq, b, ex, hb, hp, q2⟩ => pairTrees_nil_walk ?_)
  subst ex
  obtain rfl : kv = Value.ref b := rx
  obtain ⟨z, hd, xs0, rel, dd⟩ := dt_of I3.hok hp
  cases rel
  refine ⟨[(qq, b, vv)], ⟨rfl, rfl, key_of I3.hok hb, trivial⟩, dd, fun h' tk' dd' hs => wpAny_pure ⟨.ref s.heap.objs.size, upd H2 s.heap.objs.size (.dT [(qq, y)]), ?_, rfl, q2⟩⟩
  obtain ⟨o, es, ep, hq, h2, h3, h4, h5, h6⟩ := dd'
  refine d_write (ob := .dT [(qq, y)]) I3 (by rw [hp]; exact True.intro) hs ⟨o, hq⟩ ⟨Nat.le_of_lt (small1000 (by decide : 1 ≤ 1000)), hd, [(qq, b, vv)], .cons ⟨rfl, ?_, ry⟩ .nil, o, es, ep, hq, h2, h3, h4, h6⟩
  rw [upd_ne (ne_of hb hp (fun z => nomatch z))]
  exact hb
/-! ### the small interpreter's rules -/
theorem RepL.reverse {K : PySem.W.Frag} {G : Hp} {m : List Addr} : ∀ {vs : List V} {xs : List MV}, RepL K G m vs xs → RepL K G m vs.reverse xs.reverse
  | [], [], _ => .nil
  | _ :: _, _ :: _, .cons h h' => by
    rw [List.reverse_cons, List.reverse_cons]
    exact (RepL.reverse h').append (.cons h .nil)
theorem keys_rep {K : PySem.W.Frag} {G : Hp} {m : List Addr} : ∀ {vs : List V} {xs : List MV} {q : List Key}, RepL K G m vs xs → keysOf xs = some q → vs = q.map kV
  | [], [], q, _, e => by
    cases e
    rfl
  | v :: vs, x :: xs, q, .cons h h', e => by
    unfold keysOf mapO at e
    cases e1 : keyOf x with
    | none => rw [e1] at e; cases e
    | some k =>
      rw [e1] at e
      cases e2 : mapO keyOf xs with
      | none => rw [e2] at e; cases e
      | some ks =>
        rw [e2] at e
        cases e
        rw [List.map_cons, key_rep h e1, keys_rep (xs := xs) h' e2]
theorem keyT_rep {K : PySem.W.Frag} {O m : List Addr} {H : Hp} {v : V} {x : MV} {q : List Key} (r : RepV K (gr O m H) m v x) (e : keyT x = some q) : ∃ b, v = .ref b ∧ H b = some (.tup (q.map kV)) := by
  cases x with
  | tup xs =>
    obtain ⟨b, vs, rfl, h1, h2⟩ := tup_at r
    refine ⟨b, rfl, ?_⟩
    rw [h1, keys_rep h2 e]
  | _ => cases e
theorem dct_of {K : PySem.W.Frag} {O m : List Addr} {M : Mem} {H : Hp} {v : V} {x : MV} {kvs : List (List Key × MV)} (S : Sim K O m M H) (r : RepV K (gr O m H) m v x) (e : dctV M x = some kvs) : ∃ n a ps, x = .ref n ∧ v = .ref a ∧ M[n]? = some (.dct kvs) ∧ m[n]? = some a ∧ H a = some (.dT ps) ∧ RepT K (gr O m H) m ps kvs := by
  cases x with
  | ref n =>
    unfold dctV at e
    simp only at e
    cases q : M[n]? with
    | none => rw [q] at e; cases e
    | some c =>
      rw [q] at e
      cases c with
      | dct ks =>
        cases e
        cases r with
        | ref h1 =>
          obtain ⟨a, h2, ps, h3, h4⟩ := S.cel n _ q
          rw [h1] at h2
          cases h2
          exact ⟨n, _, ps, rfl, rfl, q, h1, h3, h4⟩
      | _ => cases e
  | _ => cases e
section
variable {X : Cx} {W : WX} {g : Cfg} {a b c e f o : Expr} {es rest : List Expr} {ca cb cc ce cf co : CE} {cs : CL} {pos p apos p1 p2 p3 : Pos} {k : Nat}
theorem m_rev {j} (ha : ME X W g a ca) : ME X W g (.Subscript a (.Slice none none (some (.UnaryOp .USub (.Constant (.int 1) j p1) p2)) p3) pos) (.rev ca) := PE_imp (pe_revL ha) fun s H Q ⟨O, m, M, r, S, R, h⟩ => by
  simp only [evE] at h
  refine ⟨O, m, M, r, S, R, h.bindE.imp fun v H1 ⟨x, m1, M1, e1, S1, r1, h1⟩ => ?_⟩
  obtain ⟨z, ez, fin⟩ := h1.opt
  obtain ⟨xs, ex, rfl⟩ := map_some ez
  obtain ⟨b, vs, rfl, hb, rl⟩ := asL_of S1 r1 ex
  exact ⟨b, vs, rfl, SqL.of hb, fun p hp => fin.lst S1 hp rl.reverse⟩
theorem m_dix (hu : X.A.units + 1 < cLine) (ha : ME X W g a ca) (hb : ME X W g b cb) (hs : NoSl b) : ME X W g (.Subscript a b pos) (.dix ca cb) := PE_imp (pe_dget hu ha hb hs) fun s H Q ⟨O, m, M, r, S, R, h⟩ => by
  simp only [evE] at h
  refine ⟨O, m, M, r, S, R, h.bindE.imp fun v H1 ⟨x, m1, M1, e1, S1, r1, h1⟩ => ?_⟩
  refine ⟨O, m1, M1, r, S1, R.ext e1, h1.bindE.imp fun w H2 ⟨y, m2, M2, e2, S2, r2, h2⟩ => ?_⟩
  obtain ⟨z, ez, fin⟩ := h2.opt
  obtain ⟨kvs, q1, ez⟩ := bind_some ez
  obtain ⟨q, q2, q3⟩ := bind_some ez
  obtain ⟨n, a', ps, rfl, rfl, hn, hm, ha', rt⟩ := dct_of S2 (r1.ext e2) q1
  obtain ⟨b', rfl, hb'⟩ := keyT_rep r2 q2
  rcases rt.look (k := q) with ⟨_, l2⟩ | ⟨v', x', l1, l2, l3⟩
  · rw [l2] at q3; cases q3
  · rw [l2] at q3
    cases q3
    refine ⟨a', v', rfl, ?_, fin.here S2 l3⟩
    rw [← l1]
    exact DGet.t ha' hb'
theorem rec_dct {M : Mem} {x : MV} (h : (dctV M x).isSome = true) : ∃ kvs, dctV M x = some kvs := Option.isSome_iff_exists.mp h
theorem m_popd (hu : X.A.units + 1 < cLine) (ho : ME X W g o co) (he : ME X W g e ce) (hf : ME X W g f cf) (m : M2 X o "pop" apos e f pos) : ME X W g (.Call (.Attribute o "pop" apos) [e, f] [] pos) (.bmt .popd co (.cons ce (.cons cf .nil))) :=
  PE_imp (pe_d2 PySem.F.slot_dict_pop PySem.F.type_dict_pop (L2.DX.mt_popT hu) ho he hf m) fun s H Q ⟨O, m, M, r, S, R, h⟩ => by
    simp only [evE] at h
    refine ⟨O, m, M, r, S, R, h.bindE.imp fun v H1 ⟨x, m1, M1, e1, S1, r1, h1⟩ => ?_⟩
    dsimp only at h1
    split at h1
    · rename_i hr
      obtain ⟨kvs, hk⟩ := rec_dct hr
      obtain ⟨n, a', ps, rfl, rfl, hn, hm, ha', rt⟩ := dct_of S1 r1 hk
      simp only [evL] at h1
      rw [Res.assoc] at h1
      refine ⟨a', rfl, .inr ⟨ps, .inl ha'⟩, O, m1, M1, r, S1, R.ext e1, h1.bindE.imp fun w H2 ⟨y, m2, M2, e2, S2, r2, h2⟩ => ?_⟩
      dsimp only at h2
      rw [Res.assoc, Res.assoc] at h2
      refine ⟨O, m2, M2, r, S2, (R.ext e1).ext e2, h2.bindE.imp fun u H3 ⟨z, m3, M3, e3, S3, r3, h3⟩ => ?_⟩
      simp only [Res.bind_ok] at h3
      have r1' := (r1.ext e2).ext e3
      cases qc : M3[n]? with
      | none => simp only [bmtV, qc] at h3; exact h3.elim
      | some c =>
        cases c with
        | lst _ => simp only [bmtV, qc] at h3; exact h3.elim
        | ins _ _ => simp only [bmtV, qc] at h3; exact h3.elim
        | dct kvs3 =>
          cases q : keyT y with
          | none => simp only [bmtV, qc, q] at h3; exact h3.elim
          | some k =>
            simp only [bmtV, qc, q] at h3
            obtain ⟨n', a3, ps3, en, ea, hn3, hm3, ha3, rt3⟩ := dct_of S3 r1' (show dctV M3 (.ref n) = some kvs3 by simp only [dctV, qc])
            cases en
            cases ea
            obtain ⟨b', rfl, hb'⟩ := keyT_rep (r2.ext e3) q
            refine ⟨a', ps3, k, b', u, rfl, rfl, ha3, hb', fun v' hv => ?_, fun hv => ?_⟩
            · rcases rt3.look (k := k) with ⟨l1, l2⟩ | ⟨v2, x2, l1, l2, l3⟩
              · rw [l1] at hv; cases hv
              · rw [l1] at hv
                cases hv
                rw [l2] at h3
                refine h3 _ m3 _ (Ext.write hm3) (S3.write hm3 ⟨_, upd_same, ?_⟩) ?_
                · rw [gr_write (List.mem_of_getElem? hm3)]
                  exact rt3.drop k
                · rw [gr_write (List.mem_of_getElem? hm3)]
                  exact l3
            · rcases rt3.look (k := k) with ⟨l1, l2⟩ | ⟨v2, x2, l1, l2, l3⟩
              · rw [l2] at h3
                exact h3 u m3 H3 Ext.refl S3 r3
              · rw [l1] at hv; cases hv
    · exact h1.elim
theorem m_setd (hu : X.A.units + 1 < cLine) (ho : ME X W g o co) (he : ME X W g e ce) (hf : ME X W g f cf) (m : M2 X o "setdefault" apos e f pos) : ME X W g (.Call (.Attribute o "setdefault" apos) [e, f] [] pos) (.bmt .setd co (.cons ce (.cons cf .nil))) :=
  PE_imp (pe_d2 PySem.F.slot_dict_setdefault PySem.F.type_dict_setdefault (mt_setdT hu) ho he hf m) fun s H Q ⟨O, m, M, r, S, R, h⟩ => by
    simp only [evE] at h
    refine ⟨O, m, M, r, S, R, h.bindE.imp fun v H1 ⟨x, m1, M1, e1, S1, r1, h1⟩ => ?_⟩
    dsimp only at h1
    split at h1
    · rename_i hr
      obtain ⟨kvs, hk⟩ := rec_dct hr
      obtain ⟨n, a', ps, rfl, rfl, hn, hm, ha', rt⟩ := dct_of S1 r1 hk
      simp only [evL] at h1
      rw [Res.assoc] at h1
      refine ⟨a', rfl, .inr ⟨ps, .inl ha'⟩, O, m1, M1, r, S1, R.ext e1, h1.bindE.imp fun w H2 ⟨y, m2, M2, e2, S2, r2, h2⟩ => ?_⟩
      dsimp only at h2
      rw [Res.assoc, Res.assoc] at h2
      refine ⟨O, m2, M2, r, S2, (R.ext e1).ext e2, h2.bindE.imp fun u H3 ⟨z, m3, M3, e3, S3, r3, h3⟩ => ?_⟩
      simp only [Res.bind_ok] at h3
      have r1' := (r1.ext e2).ext e3
      cases qc : M3[n]? with
      | none => simp only [bmtV, qc] at h3; exact h3.elim
      | some c =>
        cases c with
        | lst _ => simp only [bmtV, qc] at h3; exact h3.elim
        | ins _ _ => simp only [bmtV, qc] at h3; exact h3.elim
        | dct kvs3 =>
          cases q : keyT y with
          | none => simp only [bmtV, qc, q] at h3; exact h3.elim
          | some k =>
            simp only [bmtV, qc, q] at h3
            obtain ⟨n', a3, ps3, en, ea, hn3, hm3, ha3, rt3⟩ := dct_of S3 r1' (show dctV M3 (.ref n) = some kvs3 by simp only [dctV, qc])
            cases en
            cases ea
            obtain ⟨b', rfl, hb'⟩ := keyT_rep (r2.ext e3) q
            rcases rt3.look (k := k) with ⟨l1, l2⟩ | ⟨v2, x2, l1, l2, l3⟩
            · rw [l2] at h3
              dsimp only at h3
              split at h3
              · rename_i ym eq
                obtain ⟨hz, eq⟩ := ite_some eq
                cases eq
                refine ⟨a', ps3, k, b', u, rfl, rfl, ha3, hb', fun v' hv => ?_, fun hv => ⟨by rw [rt3.len]; exact hz, ?_⟩⟩
                · rw [l1] at hv; cases hv
                · refine h3 u m3 _ (Ext.write hm3) (S3.write hm3 ⟨_, upd_same, ?_⟩) ?_
                  · rw [gr_write (List.mem_of_getElem? hm3)]
                    exact rt3.put r3 l1 l2
                  · rw [gr_write (List.mem_of_getElem? hm3)]
                    exact r3
              · exact h3.elim
            · rw [l2] at h3
              dsimp only at h3
              refine ⟨a', ps3, k, b', u, rfl, rfl, ha3, hb', fun v' hv => ?_, fun hv => ?_⟩
              · rw [l1] at hv
                cases hv
                exact h3 v2 m3 H3 Ext.refl S3 l3
              · rw [l1] at hv; cases hv
    · exact h1.elim
theorem m_dd1 (hu : X.A.units + 1 < cLine) (ha : ME X W g a ca) (hb : ME X W g b cb) : ME X W g (.Dict [some a] [b] pos) (.dd1 ca cb) := PE_imp (pe_disp1 hu ha hb) fun s H Q ⟨O, m, M, r, S, R, h⟩ p hp => by
  simp only [evE] at h
  have S0 : Sim X.K O (m ++ [p]) (M ++ [.dct []]) (upd H p (.dT [])) := S.cell hp ⟨[], upd_same, .nil⟩
  have e0 : Ext m H (m ++ [p]) (upd H p (.dT [])) := Ext.cell S hp
  have hmp : (m ++ [p])[M.length]? = some p := by rw [← S.len]; simp
  refine ⟨O, m ++ [p], _, r, S0, R.ext e0, (h.later e0).bindE.imp fun v H1 ⟨x, m1, M1, e1, S1, r1, h1⟩ => ?_⟩
  refine ⟨O, m1, M1, r, S1, (R.ext e0).ext e1, h1.bindE.imp fun w H2 ⟨y, m2, M2, e2, S2, r2, h2⟩ => ?_⟩
  dsimp only at h2
  have hmp2 := pre_get e2.pre (pre_get e1.pre hmp)
  split at h2
  · rename_i q eq1 eq2
    obtain ⟨b', rfl, hb'⟩ := keyT_rep (r1.ext e2) eq1
    obtain ⟨p', h3, ps, h4, h5⟩ := S2.cel _ _ eq2
    rw [hmp2] at h3
    cases h3
    cases h5
    refine ⟨q, b', rfl, hb', h4, h2 (.ref p) m2 _ (Ext.write hmp2) (S2.write hmp2 ⟨_, upd_same, ?_⟩) (.ref hmp2)⟩
    rw [gr_write (List.mem_of_getElem? hmp2)]
    exact .cons r2 .nil
  · exact h2.elim
/-- a call of the def f that a variable holds -/
theorem m_cav {fa : Addr} {fd : FuncData} {ps : List Str} {f : Str} {x : Str} (i : Nat) (F : FnOk X.prog X.w X.K X.mg X.base (L2.CX X.prog X.w) k fa fd ps (spF X.K g.call (f, none))) (hr : Room k X.A) (tk : Takes X W) (hfa : fa = He.ga X.K f) (hk : PySem.W.keepIn X.K (.ref fa) = true) (hb : Binds X.K fd ps [])
    (ha : MA X W g (e :: es) cs) (hN : X.N[i]? = some x := by rfl) (hv : Vis X.env.scope x := by first | exact Or.inl rfl | exact Or.inr (Or.inl rfl) | exact Or.inr (Or.inr rfl)) (hdb : (x == ("__debug__" : Str)) = false := by decide) (hcd : (x == ("__classdict__" : Str)) = false := by decide) (he : starEach (e :: es) X.env = (false, eval e X.env) :: starEach es X.env := by rfl) (hpl : (backTo pos (starEach es X.env)).any (·.1) = false := by rfl) :
    ME X W g (.Call (.Name x p) (e :: es) [] pos) (.cav f (.var i) cs) := by
  refine ⟨fun pins s σ H Q I h => ?_⟩
  obtain ⟨O, m, M, r, S, R, h⟩ := h
  simp only [evE] at h
  cases q : r[i]? with
  | none => rw [q] at h; exact h.elim
  | some ox =>
    cases ox with
    | none => rw [q] at h; exact h.elim
    | some z =>
      rw [q] at h
      simp only [Res.bind_ok] at h
      cases z with
      | glo y =>
        dsimp only at h
        split at h
        · rename_i hy
          subst hy
          obtain ⟨v, hv1, hv2⟩ := R.2 i _ q
          cases hv2
          subst hfa
          refine wpAny_Call_Name_kw (thn ((pe_var (pos := p) hN hv hdb hcd).run pins s σ H (fun v H1 => v = .ref (He.ga X.K y) ∧ H1 = H) I ⟨.ref (He.ga X.K y), hv1, rfl, rfl⟩) fun u s1 ⟨v, H1, I1, r1, q1⟩ => ?_)
          obtain ⟨rfl, rfl⟩ := q1
          cases r1
          refine PySem.W.callWith_K (h₀ := X.base) I.ok.mod.kin hk (thn (ha.run pos pins s1 σ _ _ I1 ⟨O, m, M, r, S, R, h.bindL⟩) fun us s2 ⟨vs, H2, I2, rr, xs, m1, M1, e1, S1, r1, h1⟩ => ⟨I2.kIn, ?_⟩) he hpl
          exact run_fnSD (E := fun σ => WE W σ) F hr hb .nil (passAt tk σ) I2 rr ⟨O, m1, M1, xs, S1, by rw [List.append_nil]; exact r1, h1.wish⟩
        · exact h.elim
      | _ => exact h.elim
end
/-- a def's name as a value -/
theorem m_fun {X : Cx} {W : WX} {g : Cfg} {x : Str} {pos : Pos} (hg : Gl X x) (hm : X.mg x = some (.ref (He.ga X.K x))) (hd : (x == ("__debug__" : Str)) = false := by decide) : ME X W g (.Name x pos) (.con (.glo x)) := by
  refine ⟨fun pins s σ H Q I h => ?_⟩
  obtain ⟨O, m, M, r, S, R, h⟩ := h
  simp only [evE] at h
  exact ld_glob I hg hm ⟨.ref (He.ga X.K x), H, I, rfl, h _ m H Ext.refl S (.glo x)⟩ hd
/-! ### except without a name -/
def MH0 (X : Cx) (W : WX) (g : Cfg) (hds : List ExceptHandler) (ch : CH) : Prop := ∃ l, HdsOk X hds l ∧ ∀ O m M H s na D c x d v, Sim X.K O m M H → RepV X.K (gr O m H) m v x → H d = some (.xd [(fo c, v)]) → PostS X.K O m H W na s D (evH g ch s.length c x M) → wMany X.K W D l (.ref (He.ga X.K c)) (some d) s H
section
variable {X : Cx} {W : WX} {g : Cfg} {hds : List ExceptHandler} {h₀ : ExceptHandler} {ch : CH} {c0 n : Str} {i : Nat} {b₀ : Stmt} {suite body : List Stmt} {np pos pos' p : Pos} {b : Hx} {na : Bool} {cb : CB}
theorem mh0_nil : MH0 X W g [] .nil := ⟨[], .nil, fun O m M H s na D c x d v S R hd h => h s d v m H (fun _ => rfl) Ext.refl S R hd⟩
theorem mh0_bl {j} {z : Bool} (hS : SubOk X.K g.sub) (hc : Gl X c0) (hm : X.mg c0 = some (.ref (He.ga X.K c0)))
    (r : MH0 X W g hds ch) (hdb : (c0 == ("__debug__" : Str)) = false := by decide) :
    MH0 X W g (.ExceptHandler (some (.Name c0 np)) none [.Return (some (.Constant (.bool z) j p)) pos] pos' :: hds) (.con0 c0 (.one (.con (.bl z))) ch) := by
  obtain ⟨l, hl, hw⟩ := r
  refine ⟨_, .cons (c := .ref (He.ga X.K c0)) (ts := fun a cls d => fun D σ H => D.rt (.bl z) H) ⟨hc, hdb, .inl hm⟩ (fun a oe cls d pn hz hf => PSs_imp (pss_one (ps_ret pe_bl)) fun D s H h => h) hl, fun O m M H s na D c x d v S R hd h => ?_⟩
  simp only [evH] at h
  cases q : g.sub c c0 with
  | none => rw [q] at h; exact h.elim
  | some k =>
    rw [q] at h
    refine ⟨k, hS _ _ _ q, fun hk a ha => ?_, fun hk => ?_⟩
    · subst hk
      exact h (.bl z) m H Ext.refl S (.bl z)
    · subst hk
      exact hw O m M H s na D c x d v S R hd h
theorem s_try0 (hs : X.stack = X.env :: X.outer) (hf : X.env.frame = some X.env.locals) (tk : Takes X W)
    (hb : ∀ (W : WX) (pn : List (Addr × Obj)) (xe : Value → Shared → Prop), Takes (X.tr pn xe) W → PassesOwn (model X.prog X.w) X.A X.env xe → MB (X.tr pn xe) W g true body cb)
    (hh : MH0 X W g (h₀ :: hds) ch) : MS X W g na (.Try body (h₀ :: hds) [] [] pos) (.tryA cb ch) := by
  obtain ⟨l, hl, hw⟩ := hh
  refine PS_imp (ps_try_many (tb := fun W => tBl X.K W g true cb) hs hf tk hb hl) fun D s H ⟨O, m, M, r, S, R, h⟩ => ?_
  simp only [evS] at h
  refine ⟨O, m, M, r, S, R, ?_⟩
  cases q : evB g cb r M with
  | stuck => rw [q] at h; exact h.elim
  | ok w M' =>
    rw [q] at h
    cases w with
    | next r' => exact fun s' m' H' hs' e' S' R' => h s' m' H' (fun _ => hs' rfl) e' S' R'
    | brk r' => exact fun s' m' H' hs' e' S' R' => h s' m' H' (fun _ => hs' rfl) e' S' R'
    | cnt r' => exact fun s' m' H' hs' e' S' R' => h s' m' H' (fun _ => hs' rfl) e' S' R'
    | ret x => exact h
  | exn c x M' =>
    rw [q] at h
    intro s' d v m' H' hs' e' S' r' hd
    obtain rfl := hs' rfl
    have h1 : PostS X.K O m' H' W na s' D (evH g ch s'.length c x M') := by
      rw [R.1]
      exact PostS.later h e' fun _ => rfl
    exact hw O m' M' H' s' na D c x d v S' r' hd h1
end
end Mini

set_option Elab.async false
set_option linter.all false
set_option maxRecDepth 100000
set_option maxHeartbeats 1000000
/-! MiK: a def of the text keeps what the small interpreter says of it. -/
namespace Mini
open PySem L2
section
variable {P : Program} {w : World} {K : PySem.W.Frag} {mg : Str → Option Value} {base : Heap}
theorem postE_out {O m : List Addr} {H : Hp} {E : XK} {s : St} {Q : VK} {R : Res Flw} (h : PostE K O m H (fun c d _ H => E c d H) [] Q (outF R)) : PostS K O m H (fun c d _ H => E c d H) false s { nx := fun _ H' => Q .non H', rt := Q } R := by
  cases R with
  | stuck => exact h
  | exn c x M' => exact fun s' d v m' H' _ e' S' r' q => h d v m' H' e' S' r' q
  | ok fl M' =>
    cases fl with
    | next r' => exact fun s' m' H' _ e' S' _ => h .non m' H' e' S' .non
    | ret x => exact fun v m' H' e' S' r' => h v m' H' e' S' r'
    | brk r' => exact (h : False).elim
    | cnt r' => exact (h : False).elim
theorem rep_start {G : Hp} {m : List Addr} {N : List Str} {vs : List V} {xs : List MV} {d : FD} (r : RepL K G m vs xs) (h1 : xs.length = d.np) (h2 : d.ns = N.length) : EnvR K G m (L2.start N vs) (start d xs) := by
  have hl := r.len
  refine ⟨?_, fun i x q => ?_⟩
  · simp only [L2.start, start, List.length_append, List.length_map, List.length_replicate, h2, ← h1, hl]
  · unfold start at q
    unfold L2.start
    by_cases c : i < xs.length
    · rw [List.getElem?_append_left (by rw [List.length_map]; exact c), List.getElem?_map] at q
      cases e : xs[i]? with
      | none => rw [e] at q; cases q
      | some y =>
        rw [e] at q
        obtain rfl : y = x := Option.some.inj (Option.some.inj q)
        obtain ⟨v, e2, r2⟩ := r.get e
        refine ⟨v, ?_, r2⟩
        rw [List.getElem?_append_left (by rw [List.length_map, hl]; exact c), List.getElem?_map, e2]
        rfl
    · rw [List.getElem?_append_right (by rw [List.length_map]; omega), List.getElem?_replicate] at q
      split at q
      · cases q
      · cases q
theorem spF_len {t : Env} {n : Nat} {key : FK} {d : FD} {ps : List Str} (ht : t.tab key = some d) (h1 : d.np = ps.length) : ∀ vs H Q E, spF K (evF t n) key vs H Q E → vs.length = ps.length := by
  intro vs H Q E ⟨O, m, M, xs, S, r, h⟩
  cases n with
  | zero => rw [evF_zero] at h; exact (h : False).elim
  | succ n =>
    simp only [evF_succ, ht] at h
    split at h
    · rename_i q
      rw [r.len, q, h1]
    · exact (h : False).elim
/-- no room: nothing is promised -/
theorem fn_zero {t : Env} {k : Nat} {f : Addr} {fd : FuncData} {ps : List Str} {key : FK} : FnOk P w K mg base (L2.CX P w) k f fd ps (spF K (evF t 0) key) where
  len := fun vs H Q E ⟨O, m, M, xs, S, r, h⟩ => by
    rw [evF_zero] at h
    exact (h : False).elim
  run := fun A outer s H args us vs Q E hr h0 hb hv ⟨O, m, M, xs, S, r, h⟩ => by
    rw [evF_zero] at h
    exact (h : False).elim
theorem fn_ok {x qual : Str} {params : Arguments} {body : List Stmt} {scope : Scope} {f : Addr} {fd : FuncData} {N ps : List Str} {k n : Nat} {t : Env} {key : FK} {d : FD} {dvs : List V} {kws : List (Str × V)} (F : FunD K x qual params body scope dvs kws f fd) (S : FnScope N ps scope) (ht : t.tab key = some d) (h1 : d.np = ps.length) (h2 : d.ns = N.length)
    (hbody : ∀ (cdv : Value) (A : Around) (outer : List PySem.Env) (s : Shared) (H : Hp) (E : XK), Room k (A.deeper (PyProof.Rows.envOfC qual scope s.heap.objs.size f cdv)) → Takes (cxOf (L2.CX P w) P w K mg base N qual scope f cdv A outer s H E) (fun c d _ H => E c d H) → PassesOwn (model P w) (cxOf (L2.CX P w) P w K mg base N qual scope f cdv A outer s H E).A (cxOf (L2.CX P w) P w K mg base N qual scope f cdv A outer s H E).env (cxOf (L2.CX P w) P w K mg base N qual scope f cdv A outer s H E).xe → MB (cxOf (L2.CX P w) P w K mg base N qual scope f cdv A outer s H E) (fun c d _ H => E c d H) (t.cfg n) false body d.body) :
    FnOk P w K mg base (L2.CX P w) (k + 1) f fd ps (spF K (evF t (n + 1)) key) := by
  refine F.ok S (spF_len ht h1) fun cdv A outer s H vs Q E hr ⟨O, m, M, xs, S0, r, h⟩ => ⟨_, hbody cdv A outer s H E hr (takes_of rfl rfl rfl rfl) (passes_of rfl), ?_⟩
  simp only [evF_succ, ht] at h
  split at h
  · rename_i q
    exact ⟨O, m, M, start d xs, S0, rep_start r q h2, postE_out (fin_of S0 h)⟩
  · exact (h : False).elim
end
end Mini

set_option Elab.async false
set_option linter.all false
set_option maxRecDepth 100000
set_option maxHeartbeats 1000000
/-! MiL: what the head tells. -/
namespace Mini
open PySem L2
/-! ### own errors -/
abbrev ErW : Type := Option (Str × Str × Arguments × FuncBody × Scope × Addr × Addr)
def erI (K : PySem.W.Frag) (c : Str) : Addr := He.ma K (He.ga K c) "__init__"
def erW (K : PySem.W.Frag) (c : Str) : ErW := match K.lookup (erI K c) with
  | some ⟨_, _, .func fd, _⟩ => some (fd.name, fd.qualname, fd.params, fd.body, fd.scope, fd.globals, fd.builtins)
  | _ => none
/-- an own error's class: its name, its __init__'s qualified name, where its text stands -/
structure ErD where
  c : Str
  q : Str
  p : List Pos
def ErD.pos (d : ErD) (i : Nat) : Pos := d.p.getD i ⟨0, 0, 0, 0⟩
def ErD.val (d : ErD) : ErW := some ("__init__", d.q, erArgs (d.pos 0) (d.pos 1), .stmts (erBody (d.pos 2) (d.pos 3) (d.pos 4) (d.pos 5) (d.pos 6) (d.pos 7) (d.pos 8) (d.pos 9) (d.pos 10) (d.pos 11)), erScope, mainGlobals, builtinsNs)
def clsB (C : Addr) : Option Obj → Bool
  | some ⟨.type t, _, .cls cd, sl⟩ => decide (t = "type") && (cd.hasDict && (!cd.hasDel && ((match cd.mro with
    | .ref D :: bm => decide (D = C) && HandSPX.refsVE bm
    | _ => false) && (match sl.toList with
    | [_, _, _, _, some (.builtin n), _] => decide (n = "ValueError.__new__")
    | _ => false))))
  | _ => false
theorem clsB_ok {K : PySem.W.Frag} {C : Addr} (h : clsB C (K.lookup C) = true) : ∃ nm q N bs bm sn sub ab col dd k0 k1 k2 k3 k5, K.lookup C = some (excClassObj nm q C N bs bm true sn sub ab col dd k0 k1 k2 k3 k5 "ValueError.__new__") ∧ HandSPX.refsVE bm = true := by
  cases e : K.lookup C with
  | none => rw [e] at h; cases h
  | some o =>
    obtain ⟨oc, od, dt, sl⟩ := o
    rw [e] at h
    cases oc with
    | type t =>
      cases dt with
      | cls cd =>
        obtain ⟨n1, n2, n3, n4, n5, n6, n7, n8, n9, n10, n11⟩ := cd
        simp only [clsB, Bool.and_eq_true, decide_eq_true_eq, Bool.not_eq_true'] at h
        obtain ⟨h1, h2, h3, h4, h5⟩ := h
        subst h1 h2 h3
        split at h4
        · rename_i D bm
          obtain ⟨h6, h7⟩ := Bool.and_eq_true_iff.mp h4
          obtain rfl := of_decide_eq_true h6
          split at h5
          · rename_i k0 k1 k2 k3 n k5 q
            obtain rfl := of_decide_eq_true h5
            obtain ⟨l⟩ := sl
            have q2 : l = [k0, k1, k2, k3, some (.builtin "ValueError.__new__"), k5] := q
            subst q2
            exact ⟨_, _, _, _, bm, _, _, _, _, _, k0, k1, k2, k3, k5, rfl, h7⟩
          · cases h5
        · cases h4
      | _ => cases h
    | _ => cases dt <;> cases h
def fnB (file : Str) (K : PySem.W.Frag) (C : Addr) : Option Obj → Bool
  | some ⟨_, _, .func fd, _⟩ => (match fd.defaults with
    | .none => true
    | _ => false) && ((match fd.closure with
    | [(x, cc)] => decide (x = ("__class__" : Str)) && (match K.lookup cc with
      | some ⟨_, _, .cell (some (.ref D)), _⟩ => decide (D = C)
      | _ => false)
    | _ => false) && (match fd.code with
    | .ref cda => PySem.W.codeIn K (.ref cda) fd.qualname && (match K.lookup cda with
      | some ⟨_, _, .fields vs, _⟩ => (match (vs[2]? : Option Value) with
        | some (.str f _) => file == f
        | _ => false)
      | _ => false)
    | _ => false))
  | _ => false
def ErD.ok (file : Str) (K : PySem.W.Frag) (d : ErD) : Bool :=
  let C := He.ga K d.c
  let f := erI K d.c
  clsB C (K.lookup C) && (decide (PySem.W.findIn K (.ref C) "__setattr__" = some (some (.builtin "object.__setattr__"))) && (decide (PySem.W.findIn K (.ref C) "__getattribute__" = some (some (.builtin "BaseException.__getattribute__"))) && (decide (PySem.W.findIn K (.ref C) "__getattr__" = some none) &&
  (decide (PySem.W.findIn K (.ref C) "told" = some none) && (decide (PySem.W.findIn K (.ref C) "__init__" = some (some (.ref f))) && (decide (PySem.W.typeIn K (.ref f) = some (.type "function")) && (PySem.W.keepIn K (.ref C) && (decide (PySem.W.subIn K (.ref C) (.type "BaseException") = some true) &&
  (decide (PySem.W.typeIn K (.ref C) = some (.type "type")) && (PySem.W.hasDictIn K C && (decide (PySem.W.ks_superIn K C C "__init__" = some (some (.builtin "ValueError.__init__"))) && (decide (PySem.W.subIn K (.ref C) (.type "ValueError") = some true) && (decide (PySem.W.mroIn K C (.ref C) = some true) &&
  (decide (PySem.W.nsIn K cStatics "thirdparty.any" = some none) && (((d.pos 4).endLine == (d.pos 6).line) && fnB file K C (K.lookup f))))))))))))))))
theorem ErD.er {P : Program} {K : PySem.W.Frag} {d : ErD} (h : d.ok (P.main.file : Str) K = true) (e : erW K d.c = d.val) : ErT P K (He.ga K d.c) (erI K d.c) := by
  simp only [ErD.ok, Bool.and_eq_true, decide_eq_true_eq] at h
  obtain ⟨h1, h2, h3, h4, h5, h6, h7, h8, h9, h10, h11, h12, h13, h14, h15, h16, h17⟩ := h
  refine ⟨clsB_ok h1, h2, h3, h4, h5, h6, h7, h8, h9, h10, h11, h12, h13, h14, h15, ?_⟩
  unfold erW at e
  cases q : K.lookup (erI K d.c) with
  | none => rw [q] at h17; cases h17
  | some o =>
    obtain ⟨oc, od, dt, osl⟩ := o
    rw [q] at e h17
    cases dt with
    | func fd =>
      obtain ⟨n1, n2, n3, n4, n5, n6, n7, n8, n9, n10, n11, n12, n13, n14, n15⟩ := fd
      simp only [ErD.val, Option.some.injEq, Prod.mk.injEq] at e
      obtain ⟨e1, e2, e3, e4, e5, e6, e7⟩ := e
      subst e1 e2 e3 e4 e5 e6 e7
      simp only [fnB, Bool.and_eq_true] at h17
      obtain ⟨g1, g2, g3⟩ := h17
      split at g1
      · split at g2
        · rename_i x cc
          obtain ⟨g4, g5⟩ := Bool.and_eq_true_iff.mp g2
          obtain rfl := of_decide_eq_true g4
          split at g5
          · rename_i cl cld D csl lc
            obtain rfl := of_decide_eq_true g5
            split at g3
            · rename_i cda
              obtain ⟨g6, g7⟩ := Bool.and_eq_true_iff.mp g3
              split at g7
              · rename_i ccl cdd vs ccs lcd
                split at g7
                · rename_i f tf e11
                  exact ⟨oc, od, n9, n10, n11, n12, cda, n14, osl, cc, d.q, d.pos 0, d.pos 1, d.pos 2, d.pos 3, d.pos 4, d.pos 5, d.pos 6, d.pos 7, d.pos 8, d.pos 9, d.pos 10, d.pos 11, ccl, cdd, vs, ccs, f, tf, cl, cld, csl, rfl, g6, lcd, e11, g7, h16, lc⟩
                · cases g7
              · cases g7
            · cases g3
          · cases g5
        · cases g2
      · cases g1
    | _ => cases h17
/-! ### the Hook -/
def asM (g : Addr → Option Obj) : Nat → List Addr
  | 0 => [mainGlobals, cStatics]
  | n + 1 => He.growD g (asM g n)
abbrev AlM : Type := He.AlT × Bool × List ErW
def obsM (fa : List He.Fa) (fn : List He.DefD) (ts : List He.Tab) (er : List ErD) (file : Str) (ex : PySem.W.Frag → Bool) (K : PySem.W.Frag) : AlM := (He.obsT fa fn ts K, (er.all fun d => d.ok file K) && ex K, er.map fun d => erW K d.c)
def valM (fn : List He.DefD) (ts : List He.Tab) (er : List ErD) (w : World) : AlM := (He.valT fn ts w, true, er.map ErD.val)
def SaysM (fa : List He.Fa) (fn : List He.DefD) (ts : List He.Tab) (er : List ErD) (file : Str) (ex : PySem.W.Frag → Bool) (w : World) (K : PySem.W.Frag) : Prop := obsM fa fn ts er file ex K = valM fn ts er w
def obsMG (n : Nat) (fa : List He.Fa) (fn : List He.DefD) (ts : List He.Tab) (er : List ErD) (file : Str) (ex : PySem.W.Frag → Bool) (g : Addr → Option Obj) : AlM := obsM fa fn ts er file ex (He.frG g (asM g n))
def hookM (n : Nat) (fa : List He.Fa) (fn : List He.DefD) (ts : List He.Tab) (er : List ErD) (file : Str) (ex : PySem.W.Frag → Bool) : PySem.W.Hook where
  α := AlM
  obs := fun s => obsMG n fa fn ts er file ex s.heap.get?
  val := fun w => valM fn ts er w
  says := fun w h => ∃ K : PySem.W.Frag, K.In h ∧ SaysM fa fn ts er file ex w K
  of := fun _ _ e => ⟨_, He.frG_in, e⟩
  keeps := fun _ _ _ ⟨K, hK, c⟩ k => ⟨K, PySem.W.Frag.In.keeps hK k, c⟩
theorem obsMG_eq {n : Nat} {fa : List He.Fa} {fn : List He.DefD} {ts : List He.Tab} {er : List ErD} {file : Str} {ex : PySem.W.Frag → Bool} {g : Addr → Option Obj} {s : Shared} (h : ∀ a, g a = s.heap.get? a) : obsMG n fa fn ts er file ex g = (hookM n fa fn ts er file ex).obs s := by
  have e : g = s.heap.get? := funext h
  rw [e] <;> rfl
section
variable {fa : List He.Fa} {fn : List He.DefD} {ts : List He.Tab} {er : List ErD} {file : Str} {ex : PySem.W.Frag → Bool} {w : World} {K : PySem.W.Frag}
theorem SaysM.t (c : SaysM fa fn ts er file ex w K) : He.SaysT fa fn ts w K := congrArg (fun z : AlM => z.1) c
theorem SaysM.d (c : SaysM fa fn ts er file ex w K) : He.SaysD fa fn K := c.t.d
theorem SaysM.b (c : SaysM fa fn ts er file ex w K) : ((er.all fun d => d.ok file K) && ex K) = true := congrArg (fun z : AlM => z.2.1) c
theorem SaysM.more (c : SaysM fa fn ts er file ex w K) : ex K = true := (Bool.and_eq_true_iff.mp c.b).2
theorem SaysM.errs {P : Program} (c : SaysM fa fn ts er (P.main.file : Str) ex w K) {d : ErD} (h : d ∈ er) : ErT P K (He.ga K d.c) (erI K d.c) := by
  have e : er.map (fun d => erW K d.c) = er.map ErD.val := congrArg (fun z : AlM => z.2.2) c
  obtain ⟨i, hi⟩ := List.getElem?_of_mem h
  have e2 : (er.map fun d => erW K d.c)[i]? = (er.map ErD.val)[i]? := by rw [e]
  rw [List.getElem?_map, List.getElem?_map, hi] at e2
  exact ErD.er (List.all_eq_true.mp (Bool.and_eq_true_iff.mp c.b).1 d h) (Option.some.inj e2)
end
theorem ErT.xf {P : Program} {K : PySem.W.Frag} {C f : Addr} (T : ErT P K C f) : XfC K C := ⟨T.ga, T.gg, T.exC, T.hdC⟩
end Mini

set_option Elab.async false
set_option linter.all false
set_option maxRecDepth 100000
set_option maxHeartbeats 1000000
/-! MiM: what a law's text gives to the walk; the end. -/
namespace Mini
open PySem L2
def fdOf (K : PySem.W.Frag) (key : FK) : FuncData := match K.lookup (He.fAd K key) with
  | some ⟨_, _, .func fd, _⟩ => fd
  | _ => PySem.W.fnOf "" "" { posonlyargs := [], args := [], vararg := none, kwonlyargs := [], kw_defaults := [], kwarg := none, defaults := [] } [] { kind := .function, names := [], isGenerator := false, isCoroutine := false } .none .none .none .none none .none .none
theorem fdOf_eq {K : PySem.W.Frag} {key : FK} {x qual : Str} {params : Arguments} {body : List Stmt} {scope : Scope} {dvs : List V} {kws : List (Str × V)} {fd : FuncData} (F : FunD K x qual params body scope dvs kws (He.fAd K key) fd) : fd = fdOf K key := by
  obtain ⟨oc, od, dV, kV, doc, pm, an, cdv, ct, osl, h1, lk, _⟩ := F.ex
  unfold fdOf
  rw [lk]
/-- the lists that a law's text is told by -/
structure Tell where
  fn : List He.DefD
  glos : List Str
  frees : List Str
  clss : List Str
  mths : List (Str × Str)
  mks : List Str
  strT : List (Str × Str)
  intT : List (Str × Int)
  dcts : List (Str × List (Str × Str))
  noat : List (Str × Str)
  ers : List ErD
  file : Str
def Tell.fa (t : Tell) : List He.Fa := t.glos.map He.Fa.glo ++ (t.frees.map He.Fa.free ++ (t.clss.map He.Fa.cls ++ (t.mths.map (fun p => He.Fa.meth p.1 p.2) ++ (t.mks.map He.Fa.mkr ++ (t.strT.map (fun p => He.Fa.str p.1 p.2) ++ (t.intT.map (fun p => He.Fa.int p.1 p.2) ++ (t.noat.map (fun p => He.Fa.noat p.1 p.2) ++ t.dcts.map fun p => He.Fa.glo p.1)))))))
def Tell.ts (t : Tell) : List He.Tab := t.dcts.map fun p => (fun K => He.ga K p.1, p.2.map (·.1))
def erPairs (ers : List ErD) : List (Str × Str × Bool) := ers.flatMap fun d => ers.map fun e => (d.c, e.c, decide (d.c = e.c))
def Tell.ex (t : Tell) (K : PySem.W.Frag) : Bool := ((erPairs t.ers).all fun p => decide (PySem.W.exmOne K (.ref (He.ga K p.1)) (.ref (He.ga K p.2.1)) = some p.2.2)) && (t.dcts.all fun p => He.valsB K (He.ga K p.1) (p.2.map fun q => (q.1, He.Dv.str q.2)))
/-- the interpreter's side of it -/
def Tell.glob (t : Tell) (x : Str) : Option MV := match t.strT.lookup x with
  | some z => some (.str z)
  | none => (match t.intT.lookup x with
    | some i => some (.int i)
    | none => (t.dcts.lookup x).map fun _ => .glo x)
def Tell.kd (t : Tell) (x : Str) : Option (List (Str × MV)) := (t.dcts.lookup x).map fun l => l.map fun q => (q.1, MV.str q.2)
def Tell.sub (t : Tell) (c d : Str) : Option Bool := ((erPairs t.ers).find? fun p => decide (p.1 = c ∧ p.2.1 = d)).map (·.2.2)
def Tell.cl (t : Tell) (c f : Str) : Bool := decide (c ∈ t.clss) && decide ((c, f) ∈ t.noat)
def Tell.env (t : Tell) (tab : FK → Option FD) (fuel : Nat) : Env := ⟨tab, t.glob, t.kd, t.sub, t.cl, fuel⟩
/-- what holds of it -/
structure Txt (t : Tell) (P : Program) (w : World) (K : PySem.W.Frag) (mg : Str → Option Value) : Prop where
  f : ∀ (i : Nat) (d : He.DefD), t.fn[i]? = some d → FunD K d.name d.qual d.params d.body d.scope (d.dvs K) (d.kws K) (He.fAd K d.at_) (fdOf K d.at_)
  glo : ∀ (i : Nat) {x : Str}, t.glos[i]? = some x → mg x = some (.ref (He.ga K x))
  free : ∀ (i : Nat) {x : Str}, t.frees[i]? = some x → mg x = none
  cls : ∀ (i : Nat) {x : Str}, t.clss[i]? = some x → Cls K (He.ga K x)
  mth : ∀ (i : Nat) {p : Str × Str}, t.mths[i]? = some p → Meth K (He.ga K p.1) p.2 (He.ma K (He.ga K p.1) p.2)
  mkr : ∀ (i : Nat) {x : Str}, t.mks[i]? = some x → Mk K (He.ga K x) (He.ma K (He.ga K x) "__init__")
  er : ∀ (i : Nat) {d : ErD}, t.ers[i]? = some d → ErT P K (He.ga K d.c) (erI K d.c)
  hG : GlOk K mg t.glob
  hC : ClOk K t.cl
  hK : KdOk K w t.kd
  hS : SubOk K t.sub
theorem look_mem {β : Type} {x : Str} {y : β} : ∀ {l : List (Str × β)}, l.lookup x = some y → (x, y) ∈ l
  | [], h => by cases h
  | (a, b) :: r, h => by
    rw [List.lookup_cons] at h
    cases q : (x == a) with
    | true =>
      rw [q] at h
      obtain rfl := Option.some.inj h
      rw [eq_of_beq q]
      exact List.mem_cons_self
    | false =>
      rw [q] at h
      exact List.mem_cons_of_mem _ (look_mem h)
section
variable {t : Tell} {P : Program} {w : World} {K : PySem.W.Frag} {h : Heap} {mg : Str → Option Value}
theorem fa_mem {l : List Str} {g : Str → He.Fa} {L : List He.Fa} (c : ∀ f ∈ L, f.ok K = true) (s : ∀ f ∈ l.map g, f ∈ L) {i : Nat} {x : Str} (e : l[i]? = some x) : (g x).ok K = true := c _ (s _ (List.mem_map_of_mem (List.mem_of_getElem? e)))
theorem sub_ok (e : t.ex K = true) : SubOk K t.sub := by
  intro c d b q
  unfold Tell.sub at q
  cases z : (erPairs t.ers).find? fun p => decide (p.1 = c ∧ p.2.1 = d) with
  | none => rw [z] at q; cases q
  | some p =>
    rw [z] at q
    obtain rfl := Option.some.inj q
    have h1 := List.find?_some z
    obtain ⟨rfl, rfl⟩ := of_decide_eq_true h1
    have h2 := List.all_eq_true.mp (Bool.and_eq_true_iff.mp e).1 p (List.mem_of_find?_eq_some z)
    exact of_decide_eq_true h2
theorem sub_self {c d : Str} (q : t.sub c d = some true) : c = d := by
  unfold Tell.sub at q
  cases z : (erPairs t.ers).find? fun p => decide (p.1 = c ∧ p.2.1 = d) with
  | none => rw [z] at q; cases q
  | some p =>
    rw [z] at q
    have q2 : p.2.2 = true := Option.some.inj q
    have h1 := List.find?_some z
    obtain ⟨rfl, rfl⟩ := of_decide_eq_true h1
    have h2 := List.mem_of_find?_eq_some z
    obtain ⟨d1, _, h3⟩ := List.mem_flatMap.mp h2
    obtain ⟨d2, _, rfl⟩ := List.mem_map.mp h3
    exact of_decide_eq_true q2
theorem txt_of (X : K.In h) (G : h.Ns mainGlobals mg) (c : SaysM t.fa t.fn t.ts t.ers (P.main.file : Str) t.ex w K) : Txt t P w K mg := by
  have fs : ∀ f ∈ t.fa, f.ok K = true := fun f hf => c.d.facts hf
  have e := c.more
  refine ⟨fun i d hd => ?_, fun i x hx => ?_, fun i x hx => ?_, fun i x hx => ?_, fun i p hp => ?_, fun i x hx => ?_, fun i d hd => ?_, ?_, ?_, ?_, sub_ok e⟩
  · obtain ⟨fd, F⟩ := c.d.def_ i hd
    have q := fdOf_eq F
    subst q
    exact F
  · exact He.glo_ok X G (fs _ (by unfold Tell.fa; simp only [List.mem_append, List.mem_map]; exact .inl ⟨x, List.mem_of_getElem? hx, rfl⟩))
  · exact He.free_ok X G (fs _ (by unfold Tell.fa; simp only [List.mem_append, List.mem_map]; exact .inr (.inl ⟨x, List.mem_of_getElem? hx, rfl⟩)))
  · exact He.cls_ok (fs _ (by unfold Tell.fa; simp only [List.mem_append, List.mem_map]; exact .inr (.inr (.inl ⟨x, List.mem_of_getElem? hx, rfl⟩))))
  · exact He.meth_ok (fs _ (by unfold Tell.fa; simp only [List.mem_append, List.mem_map]; exact .inr (.inr (.inr (.inl ⟨p, List.mem_of_getElem? hp, rfl⟩)))))
  · exact He.mkr_ok (fs _ (by unfold Tell.fa; simp only [List.mem_append, List.mem_map]; exact .inr (.inr (.inr (.inr (.inl ⟨x, List.mem_of_getElem? hx, rfl⟩))))))
  · exact c.errs (List.mem_of_getElem? hd)
  · intro x z hz
    unfold Tell.glob at hz
    cases q1 : t.strT.lookup x with
    | some y =>
      rw [q1] at hz
      obtain rfl := Option.some.inj hz
      obtain ⟨tk, e1⟩ := He.str_ok X G (fs _ (by unfold Tell.fa; simp only [List.mem_append, List.mem_map]; exact .inr (.inr (.inr (.inr (.inr (.inl ⟨(x, y), look_mem q1, rfl⟩)))))))
      exact ⟨.str y, _, e1, ⟨tk, rfl⟩, fun G m => .str y⟩
    | none =>
      rw [q1] at hz
      dsimp only at hz
      cases q2 : t.intT.lookup x with
      | some y =>
        rw [q2] at hz
        obtain rfl := Option.some.inj hz
        obtain ⟨tk, e1⟩ := He.int_ok X G (fs _ (by unfold Tell.fa; simp only [List.mem_append, List.mem_map]; exact .inr (.inr (.inr (.inr (.inr (.inr (.inl ⟨(x, y), look_mem q2, rfl⟩))))))))
        exact ⟨.int y, _, e1, ⟨tk, rfl⟩, fun G m => .int y⟩
      | none =>
        rw [q2] at hz
        dsimp only at hz
        cases q3 : t.dcts.lookup x with
        | none => rw [q3] at hz; cases hz
        | some l =>
          rw [q3] at hz
          obtain rfl := Option.some.inj hz
          exact ⟨.ref (He.ga K x), _, He.glo_ok X G (fs _ (by unfold Tell.fa; simp only [List.mem_append, List.mem_map]; exact .inr (.inr (.inr (.inr (.inr (.inr (.inr (.inr ⟨(x, l), look_mem q3, rfl⟩))))))))), rfl, fun G m => .glo x⟩
  · intro c0 f0 q
    unfold Tell.cl at q
    obtain ⟨q1, q2⟩ := Bool.and_eq_true_iff.mp q
    exact ⟨He.cls_ok (fs _ (by unfold Tell.fa; simp only [List.mem_append, List.mem_map]; exact .inr (.inr (.inl ⟨c0, of_decide_eq_true q1, rfl⟩)))), He.noat_ok (fs _ (by unfold Tell.fa; simp only [List.mem_append, List.mem_map]; exact .inr (.inr (.inr (.inr (.inr (.inr (.inr (.inl ⟨(c0, f0), of_decide_eq_true q2, rfl⟩)))))))))⟩
  · intro d kvs k x q1 q2
    unfold Tell.kd at q1
    cases q3 : t.dcts.lookup d with
    | none => rw [q3] at q1; cases q1
    | some l =>
      rw [q3] at q1
      obtain rfl := Option.some.inj q1
      obtain ⟨i, hi⟩ := List.getElem?_of_mem (look_mem q3)
      have hts : t.ts[i]? = some (fun K => He.ga K d, l.map (·.1)) := by unfold Tell.ts; rw [List.getElem?_map, hi]; rfl
      obtain ⟨es, n, kd⟩ := c.t.tab i hts
      obtain ⟨⟨k1, z⟩, hm, hz⟩ := List.mem_map.mp (look_mem q2)
      obtain ⟨rfl, rfl⟩ := Prod.mk.inj hz
      have hv := List.all_eq_true.mp (Bool.and_eq_true_iff.mp e).2 _ (look_mem q3)
      obtain ⟨u, hu1, hu2⟩ := He.valsB_ok hv (List.mem_map_of_mem (f := fun q : Str × Str => (q.1, He.Dv.str q.2)) hm)
      exact ⟨.str z, ⟨es, n, u, kd.1, kd.2, hu1, hu2⟩, fun G m => .str z⟩
end
end Mini

set_option Elab.async false
set_option linter.all false
set_option maxRecDepth 100000
set_option maxHeartbeats 1000000
/-! MiN: all defs of a law's text together; the end of a law. -/
namespace Mini
open PySem L2
abbrev OkF (P : Program) (w : World) (K : PySem.W.Frag) (mg : Str → Option Value) (base : Heap) (t : Env) (n : Nat) (q : FK × List Str) : Prop := FnOk P w K mg base (L2.CX P w) (2 * n) (He.fAd K q.1) (fdOf K q.1) q.2 (spF K (evF t n) q.1)
def AllOk (P : Program) (w : World) (K : PySem.W.Frag) (mg : Str → Option Value) (base : Heap) (t : Env) (n : Nat) (ks : List (FK × List Str)) : Prop := ∀ (i : Nat) {q : FK × List Str}, ks[i]? = some q → OkF P w K mg base t n q
section
variable {P : Program} {w : World} {K : PySem.W.Frag} {mg : Str → Option Value} {base : Heap} {t : Env} {n : Nat} {q : FK × List Str} {ks : List (FK × List Str)}
theorem ok_nil : AllOk P w K mg base t n [] := fun i q h => by simp at h
theorem ok_cons (h : OkF P w K mg base t n q) (hs : AllOk P w K mg base t n ks) : AllOk P w K mg base t n (q :: ks) := fun i p e => by
  cases i with
  | zero =>
    obtain rfl : q = p := Option.some.inj e
    exact h
  | succ i => exact hs i (by simpa using e)
theorem ok_zero : AllOk P w K mg base t 0 ks := fun _ _ _ => fn_zero
theorem takesN {X : Cx} : Takes X Wno := takes0
/-- the law's promise, from what the small interpreter says of it -/
theorem law_sp {K : PySem.W.Frag} {t : Env} {D : Nat} {H : Hp} {a : Addr} {ns : List Int} (h : ∃ M, evF t D ("law", none) [.scr ns] [] = .ok (.bl true) M) (hS : SqL K H a (ns.map V.int)) : spF K (evF t D) ("law", none) [.ref a] H (fun v _ => v = .bl true) fun _ _ _ => False := by
  obtain ⟨M, e⟩ := h
  have hg : gr [] [] H = H := by
    funext b
    exact hide_of (by simp)
  refine ⟨[], [], [], [.scr ns], ⟨rfl, List.nodup_nil, fun _ z => by simp at z, fun i c z => by simp at z, fun _ z => by simp at z⟩, .cons (.scr (by rw [hg]; exact hS)) .nil, ?_⟩
  rw [e]
  intro v m' H' _ _ r
  cases r
  rfl
end
theorem walk_ofM {l : PySem.W.OpenLaw} {n k : Nat} {q : Program} {loose : List Str} {XP : (Str → Option Value) → Heap → Prop} {YP : World → Heap → Prop} {d : DefRec} {x : Str}
    (hn : l.most = some n) (hn2 : n ≤ sizeLine) (hdf : d.params.defaults = []) (hr : Room k callerA)
    (F : ∀ (w : World) (mg : Str → Option Value) (fa : Addr) (h : Heap), YP w h → h.Ns mainGlobals mg → mg d.name = some (.ref fa) →
      ∃ (K : PySem.W.Frag) (fd : FuncData) (sp : Sp), K.In h ∧ (∀ (s : Shared) (u : Value), BindsTo s fd ⟨[u], []⟩ [(x, u)]) ∧
        (∀ (H : Hp) (a : Addr) (ns : List Int), ns.length ≤ n → SqL K H a (ns.map V.int) → sp [.ref a] H (fun v _ => v = .bl true) fun _ _ _ => False) ∧
        ∀ base : Heap, FnOk l.prog w K mg base (L2.CX l.prog w) k fa fd [x] sp) :
    PySem.W.WalkO q loose XP YP l.row.toRowW d [] (fun f vs => PySem.call f vs) := by
  refine Att.attach_call hn hdf fun w s₀ s₁ mg mb fa o pm cd doc a vs ns G Y ho hd hcd hmg hobj hints hlen hg => ?_
  obtain ⟨K, fd, sp, KX, hb, hsp, hF⟩ := F w mg fa _ Y G.T.g hmg
  exact law_call KX G.T.g G.T.b G.T.builtins G.T.nolimit hg hobj hints (Nat.le_trans hlen hn2) hr (fun base _ _ => hF base) hb (fun H hO hS => hsp H a ns hlen hS) fun H e s' h => by
    obtain ⟨_, _, _, _, _, _, _, _, _, _, _, _, z⟩ := h
    exact z.elim
end Mini

set_option Elab.async false
set_option linter.all false
set_option maxRecDepth 100000
set_option maxHeartbeats 1000000
/-! MiP: tools for the plain part: what evF computes. -/
namespace Mini
open PySem L2
theorem evF_of {t : Env} {n : Nat} {f : FK} {xs : List MV} {M : Mem} {d : FD} (h : t.tab f = some d) (hl : xs.length = d.np) : evF t (n + 1) f xs M = fin d.keep M (outF (evB (t.cfg n) d.body (start d xs) M)) := by
  simp only [evF_succ, h, hl, if_true]
theorem fin_same {k : Bool} {M : Mem} {v : MV} : fin k M (.ok v M) = .ok v M := by
  unfold fin
  simp
theorem fin_len {k : Bool} {M M1 : Mem} {v : MV} (h : M1.length = M.length) : fin k M (.ok v M1) = .ok v M1 := by
  unfold fin
  simp [h]
theorem fin_keep {M M1 : Mem} {v : MV} : fin true M (.ok v M1) = .ok v M1 := by
  unfold fin
  simp
theorem fin_lenX {k : Bool} {M M1 : Mem} {c : Str} {v : MV} (h : M1.length = M.length) : fin k M (.exn c v M1) = .exn c v M1 := by
  unfold fin
  simp [h]
theorem fin_frz {M M1 : Mem} {v u : MV} (h1 : M1.length ≠ M.length) (h : M1.take M.length = M) (h2 : frz M1 M.length 64 v = some u) : fin false M (.ok v M1) = .ok u M := by
  unfold fin
  simp [h1, h, h2]
theorem fin_frzX {M M1 : Mem} {c : Str} {v u : MV} (h1 : M1.length ≠ M.length) (h : M1.take M.length = M) (h2 : frz M1 M.length 64 v = some u) : fin false M (.exn c v M1) = .exn c u M := by
  unfold fin
  simp [h1, h, h2]
theorem fin_dirty {k : Bool} {M M1 : Mem} {v : MV} (h : M1.take M.length ≠ M) : fin k M (.ok v M1) = .ok v M1 := by
  unfold fin
  simp [h]
theorem fin_dirtyX {k : Bool} {M M1 : Mem} {c : Str} {v : MV} (h : M1.take M.length ≠ M) : fin k M (.exn c v M1) = .exn c v M1 := by
  unfold fin
  simp [h]
@[simp] theorem outF_ret {x : MV} {M : Mem} : outF (.ok (.ret x) M) = .ok x M := rfl
@[simp] theorem outF_next {r : Rho} {M : Mem} : outF (.ok (.next r) M) = .ok .non M := rfl
@[simp] theorem outF_exn {c : Str} {x : MV} {M : Mem} : outF (.exn c x M) = .exn c x M := rfl
/-- a list cell changed -/
theorem set_len {M : Mem} {p : Nat} {c : Cell} : (M.set p c).length = M.length := List.length_set
theorem get_set {M : Mem} {p : Nat} {c c' : Cell} (h : M[p]? = some c') : (M.set p c)[p]? = some c := by
  obtain ⟨hl, _⟩ := List.getElem?_eq_some_iff.mp h
  simp [hl]
end Mini
namespace Mini
open PySem L2
/-! ### what a result is asked -/
@[irreducible] def Is {α : Type} (R : Res α) (Q : α → Mem → Prop) (E : Str → MV → Mem → Prop) : Prop := match R with
  | .ok a M => Q a M
  | .exn c x M => E c x M
  | .stuck => False
def Op {α : Type} (o : Option α) (Q : α → Prop) : Prop := ∃ a, o = some a ∧ Q a
theorem is_ok {α : Type} {R : Res α} {a : α} {M : Mem} {Q : α → Mem → Prop} {E : Str → MV → Mem → Prop} (e : R = .ok a M) (h : Q a M) : Is R Q E := by subst e; unfold Is; exact h
theorem is_exn {α : Type} {R : Res α} {c : Str} {x : MV} {M : Mem} {Q : α → Mem → Prop} {E : Str → MV → Mem → Prop} (e : R = .exn c x M) (h : E c x M) : Is R Q E := by subst e; unfold Is; exact h
theorem ok_is {α : Type} {a : α} {M : Mem} {Q : α → Mem → Prop} {E : Str → MV → Mem → Prop} (h : Is (.ok a M) Q E) : Q a M := by unfold Is at h; exact h
theorem exn_is {α : Type} {c : Str} {x : MV} {M : Mem} {Q : α → Mem → Prop} {E : Str → MV → Mem → Prop} (h : Is (.exn c x M : Res α) Q E) : E c x M := by unfold Is at h; exact h
theorem stuck_is {α : Type} {Q : α → Mem → Prop} {E : Str → MV → Mem → Prop} {A : Prop} (h : Is (.stuck : Res α) Q E) : A := by unfold Is at h; exact False.elim h
theorem Is.mono {α : Type} {R : Res α} {Q Q' : α → Mem → Prop} {E E' : Str → MV → Mem → Prop} (h : Is R Q E) (hq : ∀ a M, Q a M → Q' a M) (he : ∀ c x M, E c x M → E' c x M) : Is R Q' E' := by
  cases R with
  | ok a M => exact is_ok rfl (hq _ _ (ok_is h))
  | exn c x M => exact is_exn rfl (he _ _ _ (exn_is h))
  | stuck => exact stuck_is h
theorem Is.imp {α : Type} {R : Res α} {Q Q' : α → Mem → Prop} {E : Str → MV → Mem → Prop} (h : Is R Q E) (hq : ∀ a M, Q a M → Q' a M) : Is R Q' E := h.mono hq fun _ _ _ z => z
theorem Is.ex {α : Type} {R : Res α} {Q : α → Mem → Prop} (h : Is R Q fun _ _ _ => False) : ∃ a M, R = .ok a M ∧ Q a M := by
  cases R with
  | ok a M => exact ⟨a, M, rfl, ok_is h⟩
  | exn c x M => exact (exn_is h).elim
  | stuck => exact stuck_is h
theorem is_bind {α β : Type} {R : Res α} {f : α → Mem → Res β} {Q : β → Mem → Prop} {E : Str → MV → Mem → Prop} (h : Is R (fun a M => Is (f a M) Q E) E) : Is (R.bind f) Q E := by
  cases R with
  | ok a M => exact ok_is h
  | exn c x M => exact is_exn rfl (exn_is h)
  | stuck => exact stuck_is h
theorem is_opt {α : Type} {o : Option α} {M : Mem} {Q : α → Mem → Prop} {E : Str → MV → Mem → Prop} (h : Op o fun a => Q a M) : Is (Res.opt o M) Q E := by
  obtain ⟨a, rfl, q⟩ := h
  exact is_ok rfl q
theorem op_map {α β : Type} {o : Option α} {f : α → β} {Q : β → Prop} (h : Op o fun a => Q (f a)) : Op (o.map f) Q := by
  obtain ⟨a, rfl, q⟩ := h
  exact ⟨_, rfl, q⟩
section
variable {g : Cfg} {r : Rho} {M : Mem} {Q : MV → Mem → Prop} {E : Str → MV → Mem → Prop} {a b c : CE} {es : CL} {x y z : MV} {i : Nat}
theorem w_con (h : Q x M) : Is (evE g r (.con x) M) Q E := by simp only [evE]; first | exact h | exact is_ok rfl h | exact is_exn rfl h
theorem w_var (e : r[i]? = some (some x)) (h : Q x M) : Is (evE g r (.var i) M) Q E := by simp only [evE, e]; first | exact h | exact is_ok rfl h | exact is_exn rfl h
theorem w_glb {n : Str} (e : g.glob n = some x) (h : Q x M) : Is (evE g r (.glb n) M) Q E := by simp only [evE, e]; first | exact h | exact is_ok rfl h | exact is_exn rfl h
theorem w_bin {op : Operator} (h : Is (evE g r a M) (fun x M1 => Is (evE g r b M1) (fun y M2 => Op (binV op M2 x y) fun z => Q z M2) E) E) : Is (evE g r (.bin op a b) M) Q E := by
  simp only [evE]; exact is_bind (h.imp fun x M1 h1 => is_bind (h1.imp fun y M2 h2 => is_opt h2))
theorem w_neg (h : Is (evE g r a M) (fun x M1 => ∃ i, x = .int i ∧ Q (.int (-i)) M1) E) : Is (evE g r (.neg a) M) Q E := by
  simp only [evE]; exact is_bind (h.imp fun x M1 ⟨i, e, q⟩ => by subst e; first | exact q | exact is_ok rfl q | exact is_exn rfl q)
theorem w_not (h : Is (evE g r a M) (fun x M1 => Op (truth M1 x) fun b => Q (.bl (!b)) M1) E) : Is (evE g r (.not a) M) Q E := by
  simp only [evE]; exact is_bind (h.imp fun x M1 h1 => is_opt (op_map h1))
theorem w_and (h : Is (evE g r a M) (fun x M1 => Op (truth M1 x) fun k => if k = true then Is (evE g r b M1) Q E else Q x M1) E) : Is (evE g r (.and a b) M) Q E := by
  simp only [evE]
  refine is_bind (h.imp fun x M1 ⟨k, e, q⟩ => ?_)
  rw [e]
  cases k with
  | true => rw [if_pos rfl] at q; first | exact q | exact is_ok rfl q | exact is_exn rfl q
  | false => rw [if_neg Bool.false_ne_true] at q; first | exact q | exact is_ok rfl q | exact is_exn rfl q
theorem w_or (h : Is (evE g r a M) (fun x M1 => Op (truth M1 x) fun k => if k = true then Q x M1 else Is (evE g r b M1) Q E) E) : Is (evE g r (.or a b) M) Q E := by
  simp only [evE]
  refine is_bind (h.imp fun x M1 ⟨k, e, q⟩ => ?_)
  rw [e]
  cases k with
  | true => rw [if_pos rfl] at q; first | exact q | exact is_ok rfl q | exact is_exn rfl q
  | false => rw [if_neg Bool.false_ne_true] at q; first | exact q | exact is_ok rfl q | exact is_exn rfl q
theorem w_cmp {op : CmpOp} (h : Is (evE g r a M) (fun x M1 => Is (evE g r b M1) (fun y M2 => Op (cmpV op M2 x y) fun k => Q (.bl k) M2) E) E) : Is (evE g r (.cmp op a b) M) Q E := by
  simp only [evE]; exact is_bind (h.imp fun x M1 h1 => is_bind (h1.imp fun y M2 h2 => is_opt (op_map h2)))
theorem w_chn {op op' : CmpOp} (h : Is (evE g r a M) (fun x M1 => Is (evE g r b M1) (fun y M2 => Op (cmpV op M2 x y) fun k => if k = true then Is (evE g r c M2) (fun z M3 => Op (cmpV op' M3 y z) fun k => Q (.bl k) M3) E else Q (.bl false) M2) E) E) : Is (evE g r (.chn op op' a b c) M) Q E := by
  simp only [evE]
  refine is_bind (h.imp fun x M1 h1 => is_bind (h1.imp fun y M2 ⟨k, e, q⟩ => ?_))
  rw [e]
  cases k with
  | true => exact is_bind (Is.imp (by rw [if_pos rfl] at q; first | exact q | exact is_ok rfl q | exact is_exn rfl q) fun z M3 h3 => is_opt (op_map h3))
  | false => rw [if_neg Bool.false_ne_true] at q; first | exact q | exact is_ok rfl q | exact is_exn rfl q
theorem w_ife (h : Is (evE g r c M) (fun x M1 => Op (truth M1 x) fun k => if k = true then Is (evE g r a M1) Q E else Is (evE g r b M1) Q E) E) : Is (evE g r (.ife c a b) M) Q E := by
  simp only [evE]
  refine is_bind (h.imp fun x M1 ⟨k, e, q⟩ => ?_)
  rw [e]
  cases k with
  | true => rw [if_pos rfl] at q; first | exact q | exact is_ok rfl q | exact is_exn rfl q
  | false => rw [if_neg Bool.false_ne_true] at q; first | exact q | exact is_ok rfl q | exact is_exn rfl q
theorem w_tup (h : Is (evL g r es M) (fun xs M1 => xs.length ≤ sizeLine ∧ Q (.tup xs) M1) E) : Is (evE g r (.tup es) M) Q E := by
  simp only [evE]
  exact is_bind (h.imp fun xs M1 ⟨h1, q⟩ => by rw [if_pos h1]; first | exact q | exact is_ok rfl q | exact is_exn rfl q)
theorem w_lst (h : Is (evL g r es M) (fun xs M1 => xs.length ≤ sizeLine ∧ Q (.lst xs) M1) E) : Is (evE g r (.lst es) M) Q E := by
  simp only [evE]
  exact is_bind (h.imp fun xs M1 ⟨h1, q⟩ => by rw [if_pos h1]; first | exact q | exact is_ok rfl q | exact is_exn rfl q)
theorem w_nwl (h : Is (evL g r es M) (fun xs M1 => xs.length ≤ sizeLine ∧ Q (.ref M1.length) (M1 ++ [.lst xs])) E) : Is (evE g r (.nwl es) M) Q E := by
  simp only [evE]
  exact is_bind (h.imp fun xs M1 ⟨h1, q⟩ => by rw [if_pos h1]; first | exact q | exact is_ok rfl q | exact is_exn rfl q)
theorem w_ndd (h : Is (evE g r a M) (fun x M1 => Is (evE g r b M1) (fun y M2 => ∃ xs ys, asL M2 x = some xs ∧ asL M2 y = some ys ∧ xs.length + ys.length ≤ sizeLine ∧ Q (.ref M2.length) (M2 ++ [.lst (xs ++ ys)])) E) E) : Is (evE g r (.ndd a b) M) Q E := by
  simp only [evE]
  exact is_bind (h.imp fun x M1 h1 => is_bind (h1.imp fun y M2 ⟨xs, ys, e1, e2, h2, q⟩ => by
    rw [e1, e2]
    dsimp only
    rw [if_pos h2]
    first | exact q | exact is_ok rfl q | exact is_exn rfl q))
theorem w_idx (h : Is (evE g r a M) (fun x M1 => Is (evE g r b M1) (fun y M2 => Op (idxV M2 g.kd x y) fun z => Q z M2) E) E) : Is (evE g r (.idx a b) M) Q E := by
  simp only [evE]; exact is_bind (h.imp fun x M1 h1 => is_bind (h1.imp fun y M2 h2 => is_opt h2))
theorem w_slc {lo hi : CO} (h : Is (evE g r a M) (fun x M1 => Is (evO g r lo M1) (fun l M2 => Is (evO g r hi M2) (fun k M3 => Op (slcV M3 x l k) fun z => Q z M3) E) E) E) : Is (evE g r (.slc a lo hi) M) Q E := by
  simp only [evE]; exact is_bind (h.imp fun x M1 h1 => is_bind (h1.imp fun y M2 h2 => is_bind (h2.imp fun z M3 h3 => is_opt h3)))
theorem w_att {f : Str} (h : Is (evE g r a M) (fun x M1 => Op (fldV g.cl M1 x f) fun z => Q z M1) E) : Is (evE g r (.att a f) M) Q E := by
  simp only [evE]; exact is_bind (h.imp fun x M1 h1 => is_opt h1)
theorem w_cal {f : Str} (h : Is (evL g r es M) (fun xs M1 => Is (g.call (f, none) xs M1) Q E) E) : Is (evE g r (.cal f es) M) Q E := by
  simp only [evE]; exact is_bind h
theorem w_mth {d m : Str} (h : Is (evE g r a M) (fun x M1 => ∃ fs, insV M1 x = some (d, fs) ∧ fs.lookup m = none ∧ Is (evL g r es M1) (fun xs M2 => Is (g.call (d, some m) (x :: xs) M2) Q E) E) E) : Is (evE g r (.mth d a m es) M) Q E := by
  simp only [evE]
  exact is_bind (h.imp fun x M1 ⟨fs, e1, e2, h2⟩ => by
    rw [e1]
    dsimp only
    rw [if_pos ⟨rfl, e2⟩]
    exact is_bind h2)
theorem w_new {d : Str} (h : Is (evL g r es M) (fun xs M1 => Is (g.call (d, some "__init__") (.ref M1.length :: xs) (M1 ++ [.ins d []])) (fun y M2 => y = .non ∧ Q (.ref M1.length) M2) E) E) : Is (evE g r (.new d es) M) Q E := by
  simp only [evE]
  exact is_bind (h.imp fun xs M1 h1 => is_bind (h1.imp fun y M2 ⟨e, q⟩ => by subst e; first | exact q | exact is_ok rfl q | exact is_exn rfl q))
theorem w_blt {f : Bi} (h : Is (evL g r es M) (fun xs M1 => Op (bltV f M1 xs) fun z => Q z M1) E) : Is (evE g r (.blt f es) M) Q E := by
  simp only [evE]; exact is_bind (h.imp fun x M1 h1 => is_opt h1)
theorem w_isi {ts : List String} (h : Is (evE g r a M) (fun x M1 => Op (isiA M1 x ts) fun k => Q (.bl k) M1) E) : Is (evE g r (.isi a ts) M) Q E := by
  simp only [evE]; exact is_bind (h.imp fun x M1 h1 => is_opt (op_map h1))
theorem w_bmt {m : Bm} (h : Is (evE g r a M) (fun x M1 => recV m M1 x = true ∧ Is (evL g r es M1) (fun xs M2 => Op (bmtV m M2 x xs) fun p => Q p.1 p.2) E) E) : Is (evE g r (.bmt m a es) M) Q E := by
  simp only [evE]
  exact is_bind (h.imp fun x M1 ⟨e, h1⟩ => by
    rw [if_pos e]
    exact is_bind (h1.imp fun xs M2 ⟨p, e2, q⟩ => by rw [e2]; first | exact q | exact is_ok rfl q | exact is_exn rfl q))
theorem w_dsp {ks : List Key} (h : Is (evL g r es M) (fun xs M1 => (xs.length = ks.length ∧ ks.Nodup ∧ ks.length ≤ 15) ∧ Q (.dck (ks.zip xs)) M1) E) : Is (evE g r (.dsp ks es) M) Q E := by
  simp only [evE]
  exact is_bind (h.imp fun xs M1 ⟨e, q⟩ => by rw [if_pos e]; first | exact q | exact is_ok rfl q | exact is_exn rfl q)
/-- a comprehension: f is what one turn gives -/
theorem w_lcp {tg : List Nat} {one : Bool} {it : CI} {t : CO} (h : Is (evI g r it M) (fun xs M1 => Is (mapR (fun x M2 => match bind1 tg one x (wipeR r tg) with
      | none => .stuck
      | some r2 => calm ((evT g r2 t M2).bind fun b M3 => if b then (evE g r2 a M3).bind fun y M4 => .ok (some y) M4 else .ok none M3)) xs M1) (fun ys M2 => ys.length ≤ sizeLine ∧ Q (.lst ys) M2) E) E) : Is (evE g r (.lcp tg one it t a) M) Q E := by
  simp only [evE]
  exact is_bind (h.imp fun xs M1 h1 => is_bind (h1.imp fun ys M2 ⟨e, q⟩ => by rw [if_pos e]; first | exact q | exact is_ok rfl q | exact is_exn rfl q))
theorem w_nil {Q : List MV → Mem → Prop} (h : Q [] M) : Is (evL g r .nil M) Q E := by simp only [evL]; first | exact h | exact is_ok rfl h | exact is_exn rfl h
theorem w_cons {Q : List MV → Mem → Prop} (h : Is (evE g r a M) (fun x M1 => Is (evL g r es M1) (fun xs M2 => Q (x :: xs) M2) E) E) : Is (evL g r (.cons a es) M) Q E := by
  simp only [evL]; exact is_bind (h.imp fun x M1 h1 => is_bind (h1.imp fun xs M2 q => is_ok rfl q))
theorem w_star {Q : List MV → Mem → Prop} (h : Is (evE g r a M) (fun x M1 => ∃ ys, (x = .tup ys ∨ x = .lst ys) ∧ Is (evL g r es M1) (fun xs M2 => Q (ys ++ xs) M2) E) E) : Is (evL g r (.star a es) M) Q E := by
  simp only [evL]
  exact is_bind (h.imp fun x M1 ⟨ys, e, h1⟩ => by
    rcases e with rfl | rfl
    · exact is_bind (h1.imp fun xs M2 q => is_ok rfl q)
    · exact is_bind (h1.imp fun xs M2 q => is_ok rfl q))
theorem w_non {Q : Option Int → Mem → Prop} (h : Q none M) : Is (evO g r .none M) Q E := by simp only [evO]; first | exact h | exact is_ok rfl h | exact is_exn rfl h
theorem w_som {Q : Option Int → Mem → Prop} (h : Is (evE g r a M) (fun x M1 => ∃ i, x = .int i ∧ Q (some i) M1) E) : Is (evO g r (.some a) M) Q E := by
  simp only [evO]; exact is_bind (h.imp fun x M1 ⟨i, e, q⟩ => by subst e; first | exact q | exact is_ok rfl q | exact is_exn rfl q)
theorem w_tno {Q : Bool → Mem → Prop} (h : Q true M) : Is (evT g r .none M) Q E := by simp only [evT]; first | exact h | exact is_ok rfl h | exact is_exn rfl h
theorem w_tso {Q : Bool → Mem → Prop} (h : Is (evE g r a M) (fun x M1 => Op (truth M1 x) fun k => Q k M1) E) : Is (evT g r (.some a) M) Q E := by
  simp only [evT]; exact is_bind (h.imp fun x M1 h1 => is_opt h1)
theorem w_seq {Q : List MV → Mem → Prop} (h : Is (evE g r a M) (fun x M1 => Op (itemsV M1 x) fun xs => Q xs M1) E) : Is (evI g r (.seq a) M) Q E := by
  simp only [evI]; exact is_bind (h.imp fun x M1 h1 => is_opt h1)
theorem w_rng {Q : List MV → Mem → Prop} (h : Is (evE g r a M) (fun x M1 => ∃ j, x = .int j ∧ (-(2 ^ 62) ≤ j ∧ j < 2 ^ 62) ∧ Q (intsFrom 0 j.toNat) M1) E) : Is (evI g r (.rng a) M) Q E := by
  simp only [evI]; exact is_bind (h.imp fun x M1 ⟨i, e, h1, q⟩ => by subst e; dsimp only; rw [if_pos h1]; first | exact q | exact is_ok rfl q | exact is_exn rfl q)
end
section
variable {g : Cfg} {r : Rho} {M : Mem} {Q : Flw → Mem → Prop} {E : Str → MV → Mem → Prop} {a b c o k : CE} {es : CL} {x y z : MV} {i : Nat} {s : CS} {bs bs' : CB} {f : Str}
theorem v_nil (h : Q (.next r) M) : Is (evB g .nil r M) Q E := by simp only [evB]; first | exact h | exact is_ok rfl h | exact is_exn rfl h
theorem v_cons (h : Is (evS g s r M) (fun w M1 => match w with
    | .next r1 => Is (evB g bs r1 M1) Q E
    | w => Q w M1) E) : Is (evB g (.cons s bs) r M) Q E := by
  simp only [evB]
  refine is_bind (h.imp fun w M1 h1 => ?_)
  cases w <;> first | exact h1 | exact is_ok rfl h1 | exact is_exn rfl h1
theorem v_asg (h : Is (evE g r a M) (fun x M1 => Q (.next (r.set i (some x))) M1) E) : Is (evS g (.asg i a) r M) Q E := by
  simp only [evS]; exact is_bind (h.imp fun _ _ q => is_ok rfl q)
theorem v_asgT {is : List Nat} (h : Is (evE g r a M) (fun x M1 => Op (bind1 is false x r) fun r1 => Q (.next r1) M1) E) : Is (evS g (.asgT is a) r M) Q E := by
  simp only [evS]; exact is_bind (h.imp fun x M1 ⟨r1, e, q⟩ => by rw [e]; first | exact q | exact is_ok rfl q | exact is_exn rfl q)
theorem v_asgP {is : List Nat} (h : Is (evL g r es M) (fun xs M1 => Op (bind1 is false (.tup xs) r) fun r1 => Q (.next r1) M1) E) : Is (evS g (.asgP is es) r M) Q E := by
  simp only [evS]; exact is_bind (h.imp fun x M1 ⟨r1, e, q⟩ => by rw [e]; first | exact q | exact is_ok rfl q | exact is_exn rfl q)
theorem v_sat (h : Is (evE g r a M) (fun y M1 => Is (evE g r o M1) (fun x M2 => Op (satV g.cl M2 x f y) fun M3 => Q (.next r) M3) E) E) : Is (evS g (.sat o f a) r M) Q E := by
  simp only [evS]; exact is_bind (h.imp fun y M1 h1 => is_bind (h1.imp fun x M2 ⟨M3, e, q⟩ => by rw [e]; first | exact q | exact is_ok rfl q | exact is_exn rfl q))
theorem v_sub (h : Is (evE g r a M) (fun y M1 => Is (evE g r o M1) (fun x M2 => Is (evE g r k M2) (fun z M3 => Op (subV M3 x z y) fun M4 => Q (.next r) M4) E) E) E) : Is (evS g (.sub o k a) r M) Q E := by
  simp only [evS]; exact is_bind (h.imp fun y M1 h1 => is_bind (h1.imp fun x M2 h2 => is_bind (h2.imp fun z M3 ⟨M4, e, q⟩ => by rw [e]; first | exact q | exact is_ok rfl q | exact is_exn rfl q)))
theorem v_augA {op : Operator} (h : Is (evE g r o M) (fun x M1 => Op (fldV g.cl M1 x f) fun z => Is (evE g r a M1) (fun y M2 => (insV M1 x).map (·.1) = (insV M2 x).map (·.1) ∧ Op (augI op z y) fun u => Op (satV g.cl M2 x f u) fun M3 => Q (.next r) M3) E) E) : Is (evS g (.augA o f op a) r M) Q E := by
  simp only [evS]
  exact is_bind (h.imp fun x M1 ⟨z, e, h1⟩ => by
    rw [e]
    exact is_bind (h1.imp fun y M2 ⟨e1, u, e2, M3, e3, q⟩ => by
      rw [if_pos e1, e2]
      dsimp only
      rw [e3]
      first | exact q | exact is_ok rfl q | exact is_exn rfl q))
theorem v_augV {op : Operator} (e : r[i]? = some (some z)) (h : Is (evE g r a M) (fun y M1 => Op (augI op z y) fun u => Q (.next (r.set i (some u))) M1) E) : Is (evS g (.augV i op a) r M) Q E := by
  simp only [evS, e]
  exact is_bind (h.imp fun y M1 ⟨u, e, q⟩ => by rw [e]; first | exact q | exact is_ok rfl q | exact is_exn rfl q)
theorem v_exp (h : Is (evE g r a M) (fun _ M1 => Q (.next r) M1) E) : Is (evS g (.exp a) r M) Q E := by simp only [evS]; exact is_bind (h.imp fun _ _ q => is_ok rfl q)
theorem v_ret (h : Is (evE g r a M) (fun x M1 => Q (.ret x) M1) E) : Is (evS g (.ret a) r M) Q E := by simp only [evS]; exact is_bind (h.imp fun _ _ q => is_ok rfl q)
theorem v_retN (h : Q (.ret .non) M) : Is (evS g .retN r M) Q E := by simp only [evS]; first | exact h | exact is_ok rfl h | exact is_exn rfl h
theorem v_ite (h : Is (evE g r c M) (fun x M1 => Op (truth M1 x) fun k => if k = true then Is (evB g bs r M1) Q E else Is (evB g bs' r M1) Q E) E) : Is (evS g (.ite c bs bs') r M) Q E := by
  simp only [evS, bitV]
  refine is_bind (is_bind (h.imp fun x M1 h1 => is_opt ?_))
  obtain ⟨k, e, q⟩ := h1
  refine ⟨k, e, ?_⟩
  cases k with
  | true => rw [if_pos rfl] at q; first | exact q | exact is_ok rfl q | exact is_exn rfl q
  | false => rw [if_neg Bool.false_ne_true] at q; first | exact q | exact is_ok rfl q | exact is_exn rfl q
theorem v_for {tg : List Nat} {one : Bool} {it : CI} (h : Is (evI g r it M) (fun xs M1 => Is (forV (fun x r1 M2 => match bind1 tg one x r1 with
    | none => .stuck
    | some r2 => evB g bs r2 M2) xs r M1) Q E) E) : Is (evS g (.forr tg one it bs) r M) Q E := by
  simp only [evS]; exact is_bind h
theorem v_rse (h : Is (evE g r a M) (fun x M1 => E f x M1) E) : Is (evS g (.rse f a) r M) Q E := by
  simp only [evS]; exact is_bind (h.imp fun x M1 q => is_exn rfl q)
theorem v_try {hs : CH} (h : Is (evB g bs r M) Q fun c x M1 => Is (evH g hs r.length c x M1) Q E) : Is (evS g (.tryA bs hs) r M) Q E := by
  simp only [evS]
  cases q : evB g bs r M with
  | ok w M1 => rw [q] at h; exact is_ok rfl (ok_is h)
  | exn c x M1 => rw [q] at h; exact exn_is h
  | stuck => rw [q] at h; exact stuck_is h
theorem v_pas (h : Q (.next r) M) : Is (evS g .pas r M) Q E := by simp only [evS]; first | exact h | exact is_ok rfl h | exact is_exn rfl h
theorem v_cnt (h : Q (.cnt r) M) : Is (evS g .cnt r M) Q E := by simp only [evS]; first | exact h | exact is_ok rfl h | exact is_exn rfl h
theorem v_brk (h : Q (.brk r) M) : Is (evS g .brk r M) Q E := by simp only [evS]; first | exact h | exact is_ok rfl h | exact is_exn rfl h
end
/-- a call, from its body -/
theorem w_body {t : Env} {n : Nat} {f : FK} {xs : List MV} {M : Mem} {d : FD} {Q : MV → Mem → Prop} {E : Str → MV → Mem → Prop} (h : t.tab f = some d) (hl : xs.length = d.np)
    (hb : Is (evB (t.cfg n) d.body (start d xs) M) (fun w M1 => match w with
      | .next _ => Is (fin d.keep M (.ok .non M1)) Q E
      | .ret x => Is (fin d.keep M (.ok x M1)) Q E
      | _ => False) fun c x M1 => Is (fin d.keep M (.exn c x M1)) Q E) : Is (evF t (n + 1) f xs M) Q E := by
  rw [evF_of h hl]
  cases q : evB (t.cfg n) d.body (start d xs) M with
  | ok w M1 =>
    rw [q] at hb
    have hb := ok_is hb
    cases w with
    | next r => exact hb
    | ret x => exact hb
    | brk r => exact (hb : False).elim
    | cnt r => exact (hb : False).elim
  | exn c x M1 => rw [q] at hb; exact exn_is hb
  | stuck => rw [q] at hb; exact stuck_is hb
section
variable {Q : MV → Mem → Prop} {E : Str → MV → Mem → Prop} {M M1 : Mem} {k : Bool} {v u : MV}
theorem isf_same (h : Q v M) : Is (fin k M (.ok v M)) Q E := by rw [fin_same]; first | exact h | exact is_ok rfl h | exact is_exn rfl h
theorem isf_len (hl : M1.length = M.length) (h : Q v M1) : Is (fin k M (.ok v M1)) Q E := by rw [fin_len hl]; first | exact h | exact is_ok rfl h | exact is_exn rfl h
theorem isf_keep (h : Q v M1) : Is (fin true M (.ok v M1)) Q E := by rw [fin_keep]; first | exact h | exact is_ok rfl h | exact is_exn rfl h
end
/-! loops -/
/-- a walk by an invariant over the places -/
theorem for_inv {f : MV → Rho → Mem → Res Flw} {Q : Flw → Mem → Prop} {E : Str → MV → Mem → Prop} (I : List MV → Rho → Mem → Prop) (hs : ∀ x xs r M, I (x :: xs) r M → Is (f x r M) (fun w M1 => match w with
      | .next r1 => I xs r1 M1
      | .cnt r1 => I xs r1 M1
      | .brk r1 => Q (.next r1) M1
      | .ret y => Q (.ret y) M1) E) (he : ∀ r M, I [] r M → Q (.next r) M) : ∀ xs r M, I xs r M → Is (forV f xs r M) Q E
  | [], r, M, h => is_ok rfl (he r M h)
  | x :: xs, r, M, h => by
    unfold forV
    refine is_bind ((hs x xs r M h).imp fun w M1 h1 => ?_)
    cases w with
    | next r1 => exact for_inv I hs he xs r1 M1 h1
    | cnt r1 => exact for_inv I hs he xs r1 M1 h1
    | brk r1 => first | exact h1 | exact is_ok rfl h1 | exact is_exn rfl h1
    | ret y => first | exact h1 | exact is_ok rfl h1 | exact is_exn rfl h1
theorem for_nil {f : MV → Rho → Mem → Res Flw} {r : Rho} {M : Mem} {Q : Flw → Mem → Prop} {E : Str → MV → Mem → Prop} (h : Q (.next r) M) : Is (forV f [] r M) Q E := is_ok rfl h
theorem for_cons {f : MV → Rho → Mem → Res Flw} {x : MV} {xs : List MV} {r : Rho} {M : Mem} {Q : Flw → Mem → Prop} {E : Str → MV → Mem → Prop} (h : Is (f x r M) (fun w M1 => match w with
      | .next r1 => Is (forV f xs r1 M1) Q E
      | .cnt r1 => Is (forV f xs r1 M1) Q E
      | .brk r1 => Q (.next r1) M1
      | .ret y => Q (.ret y) M1) E) : Is (forV f (x :: xs) r M) Q E := by
  unfold forV
  refine is_bind (h.imp fun w M1 h1 => ?_)
  cases w <;> first | exact h1 | exact is_ok rfl h1 | exact is_exn rfl h1
theorem map_nil {f : MV → Mem → Res (Option MV)} {M : Mem} {Q : List MV → Mem → Prop} {E : Str → MV → Mem → Prop} (h : Q [] M) : Is (mapR f [] M) Q E := is_ok rfl h
theorem map_cons {f : MV → Mem → Res (Option MV)} {x : MV} {xs : List MV} {M : Mem} {Q : List MV → Mem → Prop} {E : Str → MV → Mem → Prop} (h : Is (f x M) (fun o M1 => Is (mapR f xs M1) (fun ys M2 => Q (match o with
    | some y => y :: ys
    | none => ys) M2) E) E) : Is (mapR f (x :: xs) M) Q E := by
  unfold mapR
  exact is_bind (h.imp fun o M1 h1 => is_bind (h1.imp fun ys M2 h2 => is_ok rfl h2))
end Mini

set_option Elab.async false
set_option linter.all false
set_option maxRecDepth 100000
set_option maxHeartbeats 4000000
namespace LawK67
open PySem L2 Mini
/-! ### the terms -/
/-- OpenItem.__init__: self, path, row -/
def c0 : FD := ⟨3, 3, (.cons (.sat (.var 0) "own_path" (.var 1)) (.cons (.sat (.var 0) "own_row" (.var 2)) (.cons (.sat (.var 0) "own_many" (.con (.int 0))) .nil))), false⟩
/-- ItemRow.__init__: self, path, first, kind, value -/
def c1 : FD := ⟨5, 5, (.cons (.sat (.var 0) "own_path" (.var 1)) (.cons (.sat (.var 0) "own_first" (.var 2)) (.cons (.sat (.var 0) "own_behind" (.var 2)) (.cons (.sat (.var 0) "own_kind" (.var 3)) (.cons (.sat (.var 0) "own_value" (.var 4)) .nil))))), false⟩
/-- TextWalk.__init__: self, text -/
def c2 : FD := ⟨2, 2, (.cons (.sat (.var 0) "own_text" (.var 1)) (.cons (.sat (.var 0) "own_at" (.con (.int 0))) (.cons (.sat (.var 0) "own_rows" (.nwl .nil)) (.cons (.sat (.var 0) "own_pile" (.nwl (.cons (.new "OpenItem" (.cons (.tup .nil) (.cons (.con .non) .nil))) .nil))) .nil)))), false⟩
/-- TextWalk.next_in: self, signs -/
def c3 : FD := ⟨2, 2, (.cons (.ret (.and (.cmp .Lt (.att (.var 0) "own_at") (.blt .len (.cons (.att (.var 0) "own_text") .nil))) (.cmp .In (.idx (.att (.var 0) "own_text") (.att (.var 0) "own_at")) (.var 1)))) .nil), false⟩
/-- TextWalk.refuse_here: self -/
def c4 : FD := ⟨1, 1, (.cons (.rse "BadText" (.att (.var 0) "own_at")) .nil), false⟩
/-- TextWalk.new_row: self, first, kind, value, holder, row -/
def c5 : FD := ⟨4, 6, (.cons (.asg 4 (.idx (.att (.var 0) "own_pile") (.neg (.con (.int 1))))) (.cons (.asg 5 (.new "ItemRow" (.cons (.tup (.star (.att (.var 4) "own_path") (.cons (.att (.var 4) "own_many") .nil))) (.cons (.var 1) (.cons (.var 2) (.cons (.var 3) .nil)))))) (.cons (.augA (.var 4) "own_many" .Add (.con (.int 1))) (.cons (.exp (.bmt .append (.att (.var 0) "own_rows") (.cons (.var 5) .nil))) (.cons (.ret (.var 5)) .nil))))), false⟩
/-- TextWalk.go_over_name: self, first -/
def c6 : FD := ⟨1, 2, (.cons (.asg 1 (.att (.var 0) "own_at")) (.cons (.whl (.and (.cmp .Lt (.bin .Sub (.att (.var 0) "own_at") (.var 1)) (.glb "MOST_LETTERS")) (.mth "TextWalk" (.var 0) "next_in" (.cons (.glb "TEXT_LETTERS") .nil))) (.cons (.augA (.var 0) "own_at" .Add (.con (.int 1))) .nil)) (.cons (.ite (.mth "TextWalk" (.var 0) "next_in" (.cons (.glb "LEADING_FIGURES") .nil)) (.cons (.augA (.var 0) "own_at" .Add (.con (.int 1))) (.cons (.ite (.mth "TextWalk" (.var 0) "next_in" (.cons (.glb "TEXT_FIGURES") .nil)) (.cons (.augA (.var 0) "own_at" .Add (.con (.int 1))) .nil) .nil) .nil)) .nil) (.cons (.ret (.slc (.att (.var 0) "own_text") (.some (.var 1)) (.some (.att (.var 0) "own_at")))) .nil)))), false⟩
/-- TextWalk.go_over_number: self, first -/
def c7 : FD := ⟨1, 2, (.cons (.asg 1 (.att (.var 0) "own_at")) (.cons (.augA (.var 0) "own_at" .Add (.con (.int 1))) (.cons (.ite (.and (.cmp .NotEq (.idx (.att (.var 0) "own_text") (.var 1)) (.con (.str "0"))) (.mth "TextWalk" (.var 0) "next_in" (.cons (.glb "TEXT_FIGURES") .nil))) (.cons (.augA (.var 0) "own_at" .Add (.con (.int 1))) .nil) .nil) (.cons (.ret (.blt .int (.cons (.slc (.att (.var 0) "own_text") (.some (.var 1)) (.some (.att (.var 0) "own_at"))) .nil))) .nil)))), false⟩
/-- TextWalk.small_item: self, first, row -/
def c8 : FD := ⟨1, 3, (.cons (.asg 1 (.att (.var 0) "own_at")) (.cons (.ite (.mth "TextWalk" (.var 0) "next_in" (.cons (.glb "TEXT_FIGURES") .nil)) (.cons (.asg 2 (.mth "TextWalk" (.var 0) "new_row" (.cons (.var 1) (.cons (.con (.str "number")) (.cons (.mth "TextWalk" (.var 0) "go_over_number" .nil) .nil))))) .nil) (.cons (.ite (.mth "TextWalk" (.var 0) "next_in" (.cons (.glb "TEXT_LETTERS") .nil)) (.cons (.asg 2 (.mth "TextWalk" (.var 0) "new_row" (.cons (.var 1) (.cons (.con (.str "use")) (.cons (.mth "TextWalk" (.var 0) "go_over_name" .nil) .nil))))) .nil) (.cons (.ite (.mth "TextWalk" (.var 0) "next_in" (.cons (.con (.str "?")) .nil)) (.cons (.augA (.var 0) "own_at" .Add (.con (.int 1))) (.cons (.asg 2 (.mth "TextWalk" (.var 0) "new_row" (.cons (.var 1) (.cons (.con (.str "lost")) (.cons (.con .non) .nil))))) .nil)) (.cons (.ret (.con .non)) .nil)) .nil)) .nil)) (.cons (.sat (.var 2) "own_behind" (.att (.var 0) "own_at")) (.cons (.ret (.var 2)) .nil)))), false⟩
/-- TextWalk.begin_item: self, row -/
def c9 : FD := ⟨1, 2, (.cons (.ite (.cmp .IsNot (.mth "TextWalk" (.var 0) "small_item" .nil) (.con .non)) (.cons .retN .nil) .nil) (.cons (.ite (.not (.mth "TextWalk" (.var 0) "next_in" (.cons (.con (.str "(")) .nil))) (.cons (.exp (.mth "TextWalk" (.var 0) "refuse_here" .nil)) .nil) .nil) (.cons (.asg 1 (.mth "TextWalk" (.var 0) "new_row" (.cons (.att (.var 0) "own_at") (.cons (.con (.str "block")) (.cons (.con .non) .nil))))) (.cons (.augA (.var 0) "own_at" .Add (.con (.int 1))) (.cons (.exp (.bmt .append (.att (.var 0) "own_pile") (.cons (.new "OpenItem" (.cons (.att (.var 1) "own_path") (.cons (.var 1) .nil))) .nil))) (.cons (.ite (.mth "TextWalk" (.var 0) "next_in" (.cons (.con (.str "+*")) .nil)) (.cons (.sat (.var 1) "own_kind" (.idx (.glb "SIGNED_KINDS") (.idx (.att (.var 0) "own_text") (.att (.var 0) "own_at")))) (.cons (.augA (.var 0) "own_at" .Add (.con (.int 1))) .nil)) (.cons (.ite (.not (.mth "TextWalk" (.var 0) "next_in" (.cons (.con (.str ")")) .nil))) (.cons (.exp (.mth "TextWalk" (.var 0) "begin_first" .nil)) .nil) .nil) .nil)) .nil)))))), false⟩
/-- TextWalk.begin_first: self, held, row -/
def c10 : FD := ⟨1, 3, (.cons (.asg 1 (.idx (.att (.var 0) "own_pile") (.neg (.con (.int 1))))) (.cons (.asg 2 (.mth "TextWalk" (.var 0) "small_item" .nil)) (.cons (.ite (.cmp .Is (.var 2) (.con .non)) (.cons (.exp (.mth "TextWalk" (.var 0) "begin_item" .nil)) .nil) (.cons (.ite (.and (.cmp .Eq (.att (.var 2) "own_kind") (.con (.str "use"))) (.cmp .Eq (.slc (.att (.var 0) "own_text") (.some (.att (.var 0) "own_at")) (.some (.bin .Add (.att (.var 0) "own_at") (.con (.int 2))))) (.con (.str " =")))) (.cons (.exp (.bmt .pop (.att (.var 0) "own_rows") .nil)) (.cons (.sat (.var 1) "own_many" (.con (.int 0))) (.cons (.sat (.att (.var 1) "own_row") "own_kind" (.con (.str "let"))) (.cons (.sat (.att (.var 1) "own_row") "own_value" (.att (.var 2) "own_value")) (.cons (.augA (.var 0) "own_at" .Add (.con (.int 2))) .nil))))) .nil) .nil)) .nil))), false⟩
/-- TextWalk.close_item: self -/
def c11 : FD := ⟨1, 1, (.cons (.augA (.var 0) "own_at" .Add (.con (.int 1))) (.cons (.sat (.att (.idx (.att (.var 0) "own_pile") (.neg (.con (.int 1)))) "own_row") "own_behind" (.att (.var 0) "own_at")) (.cons (.exp (.bmt .pop (.att (.var 0) "own_pile") .nil)) .nil))), false⟩
/-- TextWalk.go_on: self -/
def c12 : FD := ⟨1, 1, (.cons (.ite (.and (.cmp .Eq (.att (.var 0) "own_at") (.blt .len (.cons (.att (.var 0) "own_text") .nil))) (.cmp .Eq (.blt .len (.cons (.att (.var 0) "own_pile") .nil)) (.con (.int 1)))) (.cons (.ret (.con (.bl false))) .nil) .nil) (.cons (.ite (.and (.mth "TextWalk" (.var 0) "next_in" (.cons (.con (.str ")")) .nil)) (.cmp .Gt (.blt .len (.cons (.att (.var 0) "own_pile") .nil)) (.con (.int 1)))) (.cons (.exp (.mth "TextWalk" (.var 0) "close_item" .nil)) .nil) (.cons (.ite (.mth "TextWalk" (.var 0) "next_in" (.cons (.con (.str " ")) .nil)) (.cons (.augA (.var 0) "own_at" .Add (.con (.int 1))) (.cons (.exp (.mth "TextWalk" (.var 0) "begin_item" .nil)) .nil)) (.cons (.exp (.mth "TextWalk" (.var 0) "refuse_here" .nil)) .nil)) .nil)) (.cons (.ret (.con (.bl true))) .nil))), false⟩
/-- TextWalk.walked_rows: self, going -/
def c13 : FD := ⟨1, 2, (.cons (.ite (.cmp .NotEq (.att (.var 0) "own_text") (.con (.str ""))) (.cons (.exp (.mth "TextWalk" (.var 0) "begin_item" .nil)) (.cons (.asg 1 (.con (.bl true))) (.cons (.whl (.var 1) (.cons (.asg 1 (.mth "TextWalk" (.var 0) "go_on" .nil)) .nil)) .nil))) .nil) (.cons (.ret (.att (.var 0) "own_rows")) .nil)), false⟩
/-- rows_of_text: text -/
def c14 : FD := ⟨1, 1, (.cons (.ite (.not (.isi (.var 0) ["str"])) (.cons (.rse "BadText" (.con (.int 0))) .nil) .nil) (.cons (.ret (.mth "TextWalk" (.new "TextWalk" (.cons (.var 0) .nil)) "walked_rows" .nil)) .nil)), false⟩
/-- nested_rows: rows, made, found, row, items -/
def c15 : FD := ⟨2, 5, (.cons (.asg 2 (.dd1 (.tup .nil) (.nwl .nil))) (.cons (.forr [3] true (.seq (.rev (.var 0))) (.cons (.asg 4 (.bmt .popd (.var 2) (.cons (.att (.var 3) "own_path") (.cons (.nwl .nil) .nil)))) (.cons (.exp (.bmt .append (.bmt .setd (.var 2) (.cons (.slc (.att (.var 3) "own_path") .none (.some (.neg (.con (.int 1))))) (.cons (.nwl .nil) .nil))) (.cons (.cav "plain_item" (.var 1) (.cons (.var 3) (.cons (.blt .tuple (.cons (.rev (.var 4)) .nil)) .nil))) .nil))) .nil))) (.cons (.ret (.blt .tuple (.cons (.rev (.dix (.var 2) (.tup .nil))) .nil))) .nil))), false⟩
/-- plain_item: row, items -/
def c16 : FD := ⟨2, 2, (.cons (.ite (.cmp .Eq (.att (.var 0) "own_kind") (.con (.str "lost"))) (.cons (.ret (.tup (.cons (.con (.str "lost")) .nil))) .nil) .nil) (.cons (.ite (.cmp .In (.att (.var 0) "own_kind") (.tup (.cons (.con (.str "number")) (.cons (.con (.str "use")) .nil)))) (.cons (.ret (.tup (.cons (.att (.var 0) "own_kind") (.cons (.att (.var 0) "own_value") .nil)))) .nil) .nil) (.cons (.ite (.cmp .Eq (.att (.var 0) "own_kind") (.con (.str "let"))) (.cons (.ret (.tup (.cons (.con (.str "let")) (.cons (.att (.var 0) "own_value") (.cons (.var 1) .nil))))) .nil) .nil) (.cons (.ret (.tup (.cons (.att (.var 0) "own_kind") (.cons (.var 1) .nil)))) .nil)))), false⟩
/-- plain_of: text -/
def c17 : FD := ⟨1, 1, (.cons (.ret (.cal "nested_rows" (.cons (.cal "rows_of_text" (.cons (.var 0) .nil)) (.cons (.con (.glo "plain_item")) .nil)))) .nil), false⟩
/-- is_text: value -/
def c18 : FD := ⟨1, 1, (.cons (.tryA (.cons (.exp (.cal "rows_of_text" (.cons (.var 0) .nil))) .nil) (.con0 "BadText" (.one (.con (.bl false))) .nil)) (.cons (.ret (.con (.bl true))) .nil)), false⟩
/-- _law_pool: _law_script, _law_k, _law_cell, _law_big, _law_mixed -/
def c19 : FD := ⟨2, 5, (.cons (.asg 2 (.con (.int 0))) (.cons (.ite (.cmp .Lt (.var 1) (.blt .len (.cons (.var 0) .nil))) (.cons (.asg 2 (.idx (.var 0) (.var 1))) .nil) .nil) (.cons (.asg 3 (.blt .max (.cons (.blt .int (.cons (.var 2) .nil)) (.cons (.blt .int (.cons (.bin .Sub (.neg (.con (.int 1))) (.var 2)) .nil)) .nil)))) (.cons (.asg 4 (.bin .Mod (.blt .int (.cons (.bin .Mult (.bin .Add (.bin .Add (.bin .Add (.bin .Mod (.blt .int (.cons (.var 3) .nil)) (.con (.int 2147483629))) (.bin .Mult (.bin .Mult (.con (.int 4093)) (.var 1)) (.var 1))) (.bin .Mult (.con (.int 29)) (.var 1))) (.con (.int 31))) (.con (.int 48271))) .nil)) (.con (.int 2147483647)))) (.cons (.ret (.nwl (.cons (.bin .Mult (.var 3) (.blt .int (.cons (.cmp .GtE (.var 3) (.bin .Pow (.con (.int 10)) (.con (.int 18)))) .nil))) (.cons (.var 4) .nil)))) .nil))))), true⟩
/-- _law_take: _law_pool_here, _law_bound, _law_result -/
def c20 : FD := ⟨2, 3, (.cons (.ite (.cmp .Gt (.idx (.var 0) (.con (.int 0))) (.con (.int 0))) (.cons (.asg 2 (.bin .Mod (.blt .int (.cons (.idx (.var 0) (.con (.int 0))) .nil)) (.var 1))) (.cons (.sub (.var 0) (.con (.int 0)) (.bin .FloorDiv (.idx (.var 0) (.con (.int 0))) (.var 1))) (.cons (.ret (.var 2)) .nil))) .nil) (.cons (.sub (.var 0) (.con (.int 1)) (.bin .Mod (.blt .int (.cons (.bin .Add (.bin .Mult (.idx (.var 0) (.con (.int 1))) (.con (.int 39373))) (.con (.int 7))) .nil)) (.con (.int 2147483647)))) (.cons (.ret (.bin .Mod (.blt .int (.cons (.bin .FloorDiv (.bin .Mod (.blt .int (.cons (.bin .Mult (.idx (.var 0) (.con (.int 1))) (.idx (.var 0) (.con (.int 1)))) .nil)) (.con (.int 2147483629))) (.con (.int 32))) .nil)) (.var 1))) .nil))), false⟩
/-- _law_one: _law_pool_here, _law_things -/
def c21 : FD := ⟨2, 2, (.cons (.ret (.idx (.var 1) (.cal "_law_take" (.cons (.var 0) (.cons (.blt .len (.cons (.var 1) .nil)) .nil))))) .nil), false⟩
/-- _law_item: _law_pool_here, _law_deep, _law_names, _law_way, _law_items, _law_turn -/
def c22 : FD := ⟨3, 6, (.cons (.asg 3 (.cal "_law_take" (.cons (.var 0) (.cons (.con (.int 9)) .nil)))) (.cons (.ite (.or (.cmp .Eq (.var 1) (.con (.int 0))) (.cmp .Lt (.var 3) (.con (.int 4)))) (.cons (.ite (.or (.cmp .Eq (.var 3) (.con (.int 3))) (.cmp .Eq (.var 2) (.lst .nil))) (.cons (.ret (.tup (.cons (.con (.str "number")) (.cons (.cal "_law_take" (.cons (.var 0) (.cons (.con (.int 100)) .nil))) .nil)))) .nil) .nil) (.cons (.ret (.ife (.cmp .Eq (.var 3) (.con (.int 2))) (.tup (.cons (.con (.str "lost")) .nil)) (.tup (.cons (.con (.str "use")) (.cons (.cal "_law_one" (.cons (.var 0) (.cons (.var 2) .nil))) .nil))))) .nil)) .nil) (.cons (.asg 4 (.blt .tuple (.cons (.lcp [5] true (.rng (.cal "_law_take" (.cons (.var 0) (.cons (.con (.int 4)) .nil)))) .none (.cal "_law_item" (.cons (.var 0) (.cons (.bin .Sub (.var 1) (.con (.int 1))) (.cons (.var 2) .nil))))) .nil))) (.cons (.ite (.cmp .Lt (.var 3) (.con (.int 7))) (.cons (.ret (.tup (.cons (.idx (.lst (.cons (.con (.str "block")) (.cons (.con (.str "sum")) (.cons (.con (.str "product")) .nil)))) (.bin .Sub (.var 3) (.con (.int 4)))) (.cons (.var 4) .nil)))) .nil) .nil) (.cons (.ret (.tup (.cons (.con (.str "let")) (.cons (.cal "_law_one" (.cons (.var 0) (.cons (.bin .Add (.var 2) (.lst (.cons (.con (.str "b")) .nil))) .nil))) (.cons (.var 4) .nil))))) .nil))))), false⟩
/-- _law_program: _law_pool_here, _law_names, _law_turn -/
def c23 : FD := ⟨2, 3, (.cons (.ret (.blt .tuple (.cons (.lcp [2] true (.rng (.cal "_law_take" (.cons (.var 0) (.cons (.con (.int 5)) .nil)))) .none (.cal "_law_item" (.cons (.var 0) (.cons (.con (.int 3)) (.cons (.var 1) .nil))))) .nil))) .nil), false⟩
/-- _law_word: _law_item_here, _law_words, _law_one_here, _law_opening -/
def c24 : FD := ⟨1, 4, (.cons (.ite (.cmp .Eq (.idx (.var 0) (.con (.int 0))) (.con (.str "number"))) (.cons (.ret (.blt .str (.cons (.idx (.var 0) (.con (.int 1))) .nil))) .nil) .nil) (.cons (.ite (.cmp .Eq (.idx (.var 0) (.con (.int 0))) (.con (.str "lost"))) (.cons (.ret (.con (.str "?"))) .nil) .nil) (.cons (.ite (.cmp .Eq (.idx (.var 0) (.con (.int 0))) (.con (.str "use"))) (.cons (.ret (.idx (.var 0) (.con (.int 1)))) .nil) .nil) (.cons (.asg 1 (.lcp [2] true (.seq (.idx (.var 0) (.neg (.con (.int 1))))) .none (.cal "_law_word" (.cons (.var 2) .nil)))) (.cons (.ite (.cmp .Eq (.idx (.var 0) (.con (.int 0))) (.con (.str "block"))) (.cons (.ret (.bin .Add (.bin .Add (.con (.str "(")) (.bmt .join (.con (.str " ")) (.cons (.var 1) .nil))) (.con (.str ")")))) .nil) .nil) (.cons (.asg 3 (.bmt .dget (.dsp [.inr "sum", .inr "product"] (.cons (.con (.str "(+")) (.cons (.con (.str "(*")) .nil))) (.cons (.idx (.var 0) (.con (.int 0))) (.cons (.bin .Add (.bin .Add (.con (.str "(")) (.blt .str (.cons (.idx (.var 0) (.con (.int 1))) .nil))) (.con (.str " ="))) .nil)))) (.cons (.ret (.bin .Add (.bmt .join (.con (.str " ")) (.cons (.bin .Add (.lst (.cons (.var 3) .nil)) (.var 1)) .nil)) (.con (.str ")")))) .nil))))))), false⟩
/-- _law_text: _law_program_here, _law_item_here -/
def c25 : FD := ⟨1, 2, (.cons (.ret (.bmt .join (.con (.str " ")) (.cons (.lcp [1] true (.seq (.var 0)) .none (.cal "_law_word" (.cons (.var 1) .nil))) .nil))) .nil), false⟩
/-- _law_goes: _law_word_here, _law_sign, _law_letters, _law_one_here -/
def c26 : FD := ⟨2, 4, (.cons (.ite (.cmp .In (.idx (.var 0) (.con (.int 0))) (.con (.str "0123456789?"))) (.cons (.ret (.and (.cmp .Eq (.blt .len (.cons (.var 0) .nil)) (.con (.int 1))) (.and (.cmp .In (.idx (.var 0) (.con (.int 0))) (.con (.str "123456789"))) (.cmp .In (.var 1) (.con (.str "0123456789")))))) .nil) .nil) (.cons (.asg 2 (.blt .len (.cons (.lcp [3] true (.chr (.var 0)) (.some (.cmp .In (.var 3) (.con (.str "abcdefghijklmnopqrstuvwxyz")))) (.var 3)) .nil))) (.cons (.ite (.cmp .Eq (.var 2) (.blt .len (.cons (.var 0) .nil))) (.cons (.ret (.or (.and (.cmp .Lt (.var 2) (.con (.int 4))) (.cmp .In (.var 1) (.con (.str "abcdefghijklmnopqrstuvwxyz")))) (.cmp .In (.var 1) (.con (.str "123456789"))))) .nil) .nil) (.cons (.ret (.and (.cmp .Eq (.blt .len (.cons (.var 0) .nil)) (.bin .Add (.var 2) (.con (.int 1)))) (.cmp .In (.var 1) (.con (.str "0123456789"))))) .nil)))), false⟩
/-- _law_wrong: _law_text_here, _law_open_ones, _law_state, _law_word_here, _law_named, _law_at, _law_sign, _law_begins -/
def c27 : FD := ⟨1, 8, (.cons (.asgT [1, 2, 3, 4] (.tup (.cons (.con (.int 0)) (.cons (.con (.str "start")) (.cons (.con (.str "")) (.cons (.con (.bl false)) .nil)))))) (.cons (.forr [5] true (.rng (.blt .len (.cons (.var 0) .nil))) (.cons (.asg 6 (.idx (.var 0) (.var 5))) (.cons (.ite (.and (.cmp .Eq (.var 2) (.con (.str "word"))) (.cal "_law_goes" (.cons (.var 3) (.cons (.var 6) .nil)))) (.cons (.asg 3 (.bin .Add (.var 3) (.var 6))) (.cons .cnt .nil)) .nil) (.cons (.asg 2 (.ife (.cmp .Eq (.var 2) (.con (.str "word"))) (.con (.str "after")) (.var 2))) (.cons (.asg 7 (.cmp .In (.var 2) (.tup (.cons (.con (.str "start")) (.cons (.con (.str "item")) (.cons (.con (.str "open")) (.cons (.con (.str "gap")) .nil))))))) (.cons (.ite (.and (.var 7) (.cmp .In (.var 6) (.con (.str "0123456789abcdefghijklmnopqrstuvwxyz?")))) (.cons (.asg 4 (.and (.cmp .Eq (.var 2) (.con (.str "open"))) (.cmp .In (.var 6) (.con (.str "abcdefghijklmnopqrstuvwxyz"))))) (.cons (.asgP [2, 3] (.cons (.con (.str "word")) (.cons (.var 6) .nil))) .nil)) (.cons (.ite (.and (.var 7) (.cmp .Eq (.var 6) (.con (.str "(")))) (.cons (.asgP [2, 4, 1] (.cons (.con (.str "open")) (.cons (.con (.bl false)) (.cons (.bin .Add (.var 1) (.con (.int 1))) .nil)))) .nil) (.cons (.ite (.or (.and (.cmp .Eq (.var 2) (.con (.str "open"))) (.cmp .In (.var 6) (.con (.str "+*")))) (.and (.cmp .Eq (.var 2) (.con (.str "gap"))) (.cmp .Eq (.var 6) (.con (.str "="))))) (.cons (.asg 2 (.con (.str "sign"))) .nil) (.cons (.ite (.and (.cmp .Eq (.var 6) (.con (.str ")"))) (.and (.cmp .Gt (.var 1) (.con (.int 0))) (.cmp .In (.var 2) (.tup (.cons (.con (.str "open")) (.cons (.con (.str "after")) (.cons (.con (.str "sign")) .nil))))))) (.cons (.asgP [2, 4, 1] (.cons (.con (.str "after")) (.cons (.con (.bl false)) (.cons (.bin .Sub (.var 1) (.con (.int 1))) .nil)))) .nil) (.cons (.ite (.and (.cmp .Eq (.var 6) (.con (.str " "))) (.cmp .In (.var 2) (.tup (.cons (.con (.str "after")) (.cons (.con (.str "sign")) .nil))))) (.cons (.asgP [2, 4] (.cons (.ife (.and (.var 4) (.cmp .Eq (.var 2) (.con (.str "after")))) (.con (.str "gap")) (.con (.str "item"))) (.cons (.con (.bl false)) .nil))) .nil) (.cons (.ret (.var 5)) .nil)) .nil)) .nil)) .nil)) .nil)) .nil)))))) (.cons (.ret (.ife (.or (.cmp .Gt (.var 1) (.con (.int 0))) (.cmp .In (.var 2) (.tup (.cons (.con (.str "item")) (.cons (.con (.str "gap")) .nil))))) (.blt .len (.cons (.var 0) .nil)) (.con .non))) .nil))), false⟩
/-- _law_told: _law_text_here, e -/
def c28 : FD := ⟨1, 2, (.cons (.tryA (.cons (.ret (.cal "plain_of" (.cons (.var 0) .nil))) .nil) (.cons "BadText" 1 (.lst [(.con (.str "wrong")), .pay]) .nil)) .nil), false⟩
/-- _law_bent: _law_pool_here, _law_text_here, _law_at, _law_way, _law_sign -/
def c29 : FD := ⟨2, 5, (.cons (.asgP [2, 3] (.cons (.cal "_law_take" (.cons (.var 0) (.cons (.bin .Add (.blt .len (.cons (.var 1) .nil)) (.con (.int 1))) .nil))) (.cons (.cal "_law_take" (.cons (.var 0) (.cons (.con (.int 3)) .nil))) .nil))) (.cons (.asg 4 (.cal "_law_one" (.cons (.var 0) (.cons (.lst (.cons (.con (.str "(")) (.cons (.con (.str ")")) (.cons (.con (.str " ")) (.cons (.con (.str "+")) (.cons (.con (.str "*")) (.cons (.con (.str "=")) (.cons (.con (.str "a")) (.cons (.con (.str "0")) (.cons (.con (.str "7")) (.cons (.con (.str "?")) (.cons (.con (.str "zzzz")) (.cons (.con (.str "A")) (.cons (.con (.str "\n")) (.cons (.con (.str " =")) (.cons (.con (.str "x10")) .nil)))))))))))))))) .nil)))) (.cons (.ret (.bin .Add (.bin .Add (.slc (.var 1) .none (.some (.var 2))) (.ife (.cmp .NotEq (.var 3) (.con (.int 1))) (.var 4) (.con (.str "")))) (.slc (.var 1) (.some (.bin .Add (.var 2) (.blt .int (.cons (.cmp .Gt (.var 3) (.con (.int 0))) .nil)))) .none))) .nil))), false⟩
/-- law: _law_script, _law_k, _law_pool_here, _law_program_here, _law_text_here, _law_turn, _law_bent_here, _law_told_here, _law_wrong_here, _law_odd -/
def c30 : FD := ⟨1, 10, (.cons (.forr [1] true (.rng (.blt .max (.cons (.con (.int 1)) (.cons (.blt .min (.cons (.con (.int 4)) (.cons (.blt .len (.cons (.var 0) .nil)) .nil))) .nil)))) (.cons (.asg 2 (.cal "_law_pool" (.cons (.var 0) (.cons (.var 1) .nil)))) (.cons (.asg 3 (.cal "_law_program" (.cons (.var 2) (.cons (.lst (.cons (.con (.str "a")) (.cons (.con (.str "b")) (.cons (.con (.str "ab")) (.cons (.con (.str "x1")) (.cons (.con (.str "b12")) (.cons (.con (.str "zzzz")) (.cons (.con (.str "q99")) .nil)))))))) .nil)))) (.cons (.asg 4 (.cal "_law_text" (.cons (.var 3) .nil))) (.cons (.ite (.or (.cmp .IsNot (.cal "_law_wrong" (.cons (.var 4) .nil)) (.con .non)) (.or (.cmp .NotEq (.cal "plain_of" (.cons (.var 4) .nil)) (.var 3)) (.cmp .IsNot (.cal "is_text" (.cons (.var 4) .nil)) (.con (.bl true))))) (.cons (.ret (.con (.bl false))) .nil) .nil) (.cons (.forr [5] true (.rng (.con (.int 6))) (.cons (.asg 6 (.cal "_law_bent" (.cons (.var 2) (.cons (.var 4) .nil)))) (.cons (.ite (.cmp .Eq (.cal "_law_take" (.cons (.var 2) (.cons (.con (.int 2)) .nil))) (.con (.int 0))) (.cons (.asg 6 (.cal "_law_bent" (.cons (.var 2) (.cons (.var 6) .nil)))) .nil) .nil) (.cons (.asgP [7, 8] (.cons (.cal "_law_told" (.cons (.var 6) .nil)) (.cons (.cal "_law_wrong" (.cons (.var 6) .nil)) .nil))) (.cons (.ite (.cmp .NotEq (.cal "is_text" (.cons (.var 6) .nil)) (.cmp .Is (.var 8) (.con .non))) (.cons (.ret (.con (.bl false))) .nil) .nil) (.cons (.ite (.and (.cmp .IsNot (.var 8) (.con .non)) (.cmp .NotEq (.var 7) (.lst (.cons (.con (.str "wrong")) (.cons (.var 8) .nil))))) (.cons (.ret (.con (.bl false))) .nil) .nil) (.cons (.ite (.and (.cmp .Is (.var 8) (.con .non)) (.or (.not (.isi (.var 7) ["tuple"])) (.cmp .NotEq (.cal "_law_text" (.cons (.var 7) .nil)) (.var 6)))) (.cons (.ret (.con (.bl false))) .nil) .nil) .nil))))))) (.cons (.forr [9] true (.seq (.lst (.cons (.con .non) (.cons (.con (.int 5)) (.cons (.tup (.cons (.con (.str "1")) .nil)) (.cons (.lst (.cons (.con (.str "1")) .nil)) .nil)))))) (.cons (.ite (.or (.cmp .IsNot (.cal "is_text" (.cons (.var 9) .nil)) (.con (.bl false))) (.cmp .NotEq (.cal "_law_told" (.cons (.var 9) .nil)) (.lst (.cons (.con (.str "wrong")) (.cons (.con (.int 0)) .nil))))) (.cons (.ret (.con (.bl false))) .nil) .nil) .nil)) .nil))))))) (.cons (.ret (.con (.bl true))) .nil)), false⟩
def tabL : List (FK × FD) := [(("OpenItem", some "__init__"), c0), (("ItemRow", some "__init__"), c1), (("TextWalk", some "__init__"), c2), (("TextWalk", some "next_in"), c3), (("TextWalk", some "refuse_here"), c4), (("TextWalk", some "new_row"), c5), (("TextWalk", some "go_over_name"), c6), (("TextWalk", some "go_over_number"), c7), (("TextWalk", some "small_item"), c8), (("TextWalk", some "begin_item"), c9), (("TextWalk", some "begin_first"), c10), (("TextWalk", some "close_item"), c11), (("TextWalk", some "go_on"), c12), (("TextWalk", some "walked_rows"), c13), (("rows_of_text", none), c14), (("nested_rows", none), c15), (("plain_item", none), c16), (("plain_of", none), c17), (("is_text", none), c18), (("_law_pool", none), c19), (("_law_take", none), c20), (("_law_one", none), c21), (("_law_item", none), c22), (("_law_program", none), c23), (("_law_word", none), c24), (("_law_text", none), c25), (("_law_goes", none), c26), (("_law_wrong", none), c27), (("_law_told", none), c28), (("_law_bent", none), c29), (("law", none), c30)]
def tab (k : FK) : Option FD := tabL.lookup k
def glos : List Str := ["rows_of_text", "nested_rows", "plain_item", "plain_of", "is_text", "_law_pool", "_law_take", "_law_one", "_law_item", "_law_program", "_law_word", "_law_text", "_law_goes", "_law_wrong", "_law_told", "_law_bent", "law", "OpenItem", "ItemRow", "TextWalk", "BadText"]
def tell0 (fn : List He.DefD) : Tell := ⟨fn, glos, ["len", "super", "int", "isinstance", "str", "tuple", "max", "range", "min"], ["OpenItem", "ItemRow", "TextWalk"], [("TextWalk", "next_in"), ("TextWalk", "refuse_here"), ("TextWalk", "new_row"), ("TextWalk", "go_over_name"), ("TextWalk", "go_over_number"), ("TextWalk", "small_item"), ("TextWalk", "begin_item"), ("TextWalk", "begin_first"), ("TextWalk", "close_item"), ("TextWalk", "go_on"), ("TextWalk", "walked_rows")], ["OpenItem", "ItemRow", "TextWalk"], [("TEXT_FIGURES", "0123456789"), ("LEADING_FIGURES", "123456789"), ("TEXT_LETTERS", "abcdefghijklmnopqrstuvwxyz")], [("MOST_LETTERS", 4)], [("SIGNED_KINDS", [("+", "sum"), ("*", "product")])], [("OpenItem", "own_path"), ("OpenItem", "own_row"), ("OpenItem", "own_many"), ("ItemRow", "own_path"), ("ItemRow", "own_first"), ("ItemRow", "own_behind"), ("ItemRow", "own_kind"), ("ItemRow", "own_value"), ("TextWalk", "own_text"), ("TextWalk", "own_at"), ("TextWalk", "own_rows"), ("TextWalk", "own_pile")], [⟨"BadText", "BadText.__init__", [⟨6, 17, 6, 21⟩, ⟨6, 23, 6, 27⟩, ⟨7, 8, 7, 13⟩, ⟨7, 8, 7, 15⟩, ⟨7, 8, 7, 24⟩, ⟨7, 25, 7, 29⟩, ⟨7, 8, 7, 30⟩, ⟨7, 8, 7, 30⟩, ⟨8, 8, 8, 12⟩, ⟨8, 8, 8, 17⟩, ⟨8, 20, 8, 24⟩, ⟨8, 8, 8, 24⟩]⟩], "/claim/cut.py"⟩
def fuel : Nat := 5000
abbrev prog : Program := PySem.Challenge.pw_sharedscopes_k67_whole_plain_programs_of
def top (i : Nat) : Stmt := prog.main.body.getD i (.Pass ⟨0, 0, 0, 0⟩)
def d0 : He.DefD := ⟨("OpenItem", some "__init__"), "__init__", "OpenItem.__init__", defArgs (inClass (top 9) 0), defBody (inClass (top 9) 0), defScope (inClass (top 9) 0), [], []⟩
def d1 : He.DefD := ⟨("ItemRow", some "__init__"), "__init__", "ItemRow.__init__", defArgs (inClass (top 10) 0), defBody (inClass (top 10) 0), defScope (inClass (top 10) 0), [], []⟩
def d2 : He.DefD := ⟨("TextWalk", some "__init__"), "__init__", "TextWalk.__init__", defArgs (inClass (top 11) 0), defBody (inClass (top 11) 0), defScope (inClass (top 11) 0), [], []⟩
def d3 : He.DefD := ⟨("TextWalk", some "next_in"), "next_in", "TextWalk.next_in", defArgs (inClass (top 11) 1), defBody (inClass (top 11) 1), defScope (inClass (top 11) 1), [], []⟩
def d4 : He.DefD := ⟨("TextWalk", some "refuse_here"), "refuse_here", "TextWalk.refuse_here", defArgs (inClass (top 11) 2), defBody (inClass (top 11) 2), defScope (inClass (top 11) 2), [], []⟩
def d5 : He.DefD := ⟨("TextWalk", some "new_row"), "new_row", "TextWalk.new_row", defArgs (inClass (top 11) 3), defBody (inClass (top 11) 3), defScope (inClass (top 11) 3), [], []⟩
def d6 : He.DefD := ⟨("TextWalk", some "go_over_name"), "go_over_name", "TextWalk.go_over_name", defArgs (inClass (top 11) 4), defBody (inClass (top 11) 4), defScope (inClass (top 11) 4), [], []⟩
def d7 : He.DefD := ⟨("TextWalk", some "go_over_number"), "go_over_number", "TextWalk.go_over_number", defArgs (inClass (top 11) 5), defBody (inClass (top 11) 5), defScope (inClass (top 11) 5), [], []⟩
def d8 : He.DefD := ⟨("TextWalk", some "small_item"), "small_item", "TextWalk.small_item", defArgs (inClass (top 11) 6), defBody (inClass (top 11) 6), defScope (inClass (top 11) 6), [], []⟩
def d9 : He.DefD := ⟨("TextWalk", some "begin_item"), "begin_item", "TextWalk.begin_item", defArgs (inClass (top 11) 7), defBody (inClass (top 11) 7), defScope (inClass (top 11) 7), [], []⟩
def d10 : He.DefD := ⟨("TextWalk", some "begin_first"), "begin_first", "TextWalk.begin_first", defArgs (inClass (top 11) 8), defBody (inClass (top 11) 8), defScope (inClass (top 11) 8), [], []⟩
def d11 : He.DefD := ⟨("TextWalk", some "close_item"), "close_item", "TextWalk.close_item", defArgs (inClass (top 11) 9), defBody (inClass (top 11) 9), defScope (inClass (top 11) 9), [], []⟩
def d12 : He.DefD := ⟨("TextWalk", some "go_on"), "go_on", "TextWalk.go_on", defArgs (inClass (top 11) 10), defBody (inClass (top 11) 10), defScope (inClass (top 11) 10), [], []⟩
def d13 : He.DefD := ⟨("TextWalk", some "walked_rows"), "walked_rows", "TextWalk.walked_rows", defArgs (inClass (top 11) 11), defBody (inClass (top 11) 11), defScope (inClass (top 11) 11), [], []⟩
def d14 : He.DefD := ⟨("rows_of_text", none), "rows_of_text", "rows_of_text", defArgs (top 12), defBody (top 12), defScope (top 12), [], []⟩
def d15 : He.DefD := ⟨("nested_rows", none), "nested_rows", "nested_rows", defArgs (top 13), defBody (top 13), defScope (top 13), [], []⟩
def d16 : He.DefD := ⟨("plain_item", none), "plain_item", "plain_item", defArgs (top 14), defBody (top 14), defScope (top 14), [], []⟩
def d17 : He.DefD := ⟨("plain_of", none), "plain_of", "plain_of", defArgs (top 15), defBody (top 15), defScope (top 15), [], []⟩
def d18 : He.DefD := ⟨("is_text", none), "is_text", "is_text", defArgs (top 16), defBody (top 16), defScope (top 16), [], []⟩
def d19 : He.DefD := ⟨("_law_pool", none), "_law_pool", "_law_pool", defArgs (top 18), defBody (top 18), defScope (top 18), [], []⟩
def d20 : He.DefD := ⟨("_law_take", none), "_law_take", "_law_take", defArgs (top 19), defBody (top 19), defScope (top 19), [], []⟩
def d21 : He.DefD := ⟨("_law_one", none), "_law_one", "_law_one", defArgs (top 20), defBody (top 20), defScope (top 20), [], []⟩
def d22 : He.DefD := ⟨("_law_item", none), "_law_item", "_law_item", defArgs (top 21), defBody (top 21), defScope (top 21), [], []⟩
def d23 : He.DefD := ⟨("_law_program", none), "_law_program", "_law_program", defArgs (top 22), defBody (top 22), defScope (top 22), [], []⟩
def d24 : He.DefD := ⟨("_law_word", none), "_law_word", "_law_word", defArgs (top 23), defBody (top 23), defScope (top 23), [], []⟩
def d25 : He.DefD := ⟨("_law_text", none), "_law_text", "_law_text", defArgs (top 24), defBody (top 24), defScope (top 24), [], []⟩
def d26 : He.DefD := ⟨("_law_goes", none), "_law_goes", "_law_goes", defArgs (top 25), defBody (top 25), defScope (top 25), [], []⟩
def d27 : He.DefD := ⟨("_law_wrong", none), "_law_wrong", "_law_wrong", defArgs (top 26), defBody (top 26), defScope (top 26), [], []⟩
def d28 : He.DefD := ⟨("_law_told", none), "_law_told", "_law_told", defArgs (top 27), defBody (top 27), defScope (top 27), [], []⟩
def d29 : He.DefD := ⟨("_law_bent", none), "_law_bent", "_law_bent", defArgs (top 28), defBody (top 28), defScope (top 28), [], []⟩
def d30 : He.DefD := ⟨("law", none), "law", "law", defArgs (top 29), defBody (top 29), defScope (top 29), [], []⟩
def fn : List He.DefD := [d0, d1, d2, d3, d4, d5, d6, d7, d8, d9, d10, d11, d12, d13, d14, d15, d16, d17, d18, d19, d20, d21, d22, d23, d24, d25, d26, d27, d28, d29, d30]
abbrev tell : Tell := tell0 fn
abbrev env : Mini.Env := tell.env tab fuel
def ks : List (FK × List Str) := [(("OpenItem", some "__init__"), ["self", "path", "row"]), (("ItemRow", some "__init__"), ["self", "path", "first", "kind", "value"]), (("TextWalk", some "__init__"), ["self", "text"]), (("TextWalk", some "next_in"), ["self", "signs"]), (("TextWalk", some "refuse_here"), ["self"]), (("TextWalk", some "new_row"), ["self", "first", "kind", "value"]), (("TextWalk", some "go_over_name"), ["self"]), (("TextWalk", some "go_over_number"), ["self"]), (("TextWalk", some "small_item"), ["self"]), (("TextWalk", some "begin_item"), ["self"]), (("TextWalk", some "begin_first"), ["self"]), (("TextWalk", some "close_item"), ["self"]), (("TextWalk", some "go_on"), ["self"]), (("TextWalk", some "walked_rows"), ["self"]), (("rows_of_text", none), ["text"]), (("nested_rows", none), ["rows", "made"]), (("plain_item", none), ["row", "items"]), (("plain_of", none), ["text"]), (("is_text", none), ["value"]), (("_law_pool", none), ["_law_script", "_law_k"]), (("_law_take", none), ["_law_pool_here", "_law_bound"]), (("_law_one", none), ["_law_pool_here", "_law_things"]), (("_law_item", none), ["_law_pool_here", "_law_deep", "_law_names"]), (("_law_program", none), ["_law_pool_here", "_law_names"]), (("_law_word", none), ["_law_item_here"]), (("_law_text", none), ["_law_program_here"]), (("_law_goes", none), ["_law_word_here", "_law_sign"]), (("_law_wrong", none), ["_law_text_here"]), (("_law_told", none), ["_law_text_here"]), (("_law_bent", none), ["_law_pool_here", "_law_text_here"]), (("law", none), ["_law_script"])]
theorem bt_len : bootBuiltins "len" = some (.builtin "len") := by decide +kernel
theorem bt_int : bootBuiltins "int" = some (.type "int") := by decide +kernel
theorem bt_str : bootBuiltins "str" = some (.type "str") := by decide +kernel
theorem bt_max : bootBuiltins "max" = some (.builtin "max") := by decide +kernel
theorem bt_min : bootBuiltins "min" = some (.builtin "min") := by decide +kernel
theorem bt_tuple : bootBuiltins "tuple" = some (.type "tuple") := by decide +kernel
theorem bt_list : bootBuiltins "list" = some (.type "list") := by decide +kernel
theorem bt_super : bootBuiltins "super" = some (.type "super") := by decide +kernel
theorem bt_bool : bootBuiltins "bool" = some (.type "bool") := by decide +kernel
section
variable {w : World} {K : PySem.W.Frag} {mg : Str → Option Value} {base : Heap} {n : Nat}
theorem sc_0 : FnScope ["self", "path", "row"] ["self", "path", "row"] (defScope (inClass (top 9) 0)) := ⟨rfl, rfl, rfl, by decide +kernel, rfl, by decide +kernel, by decide +kernel⟩
theorem kp_0 (T : Txt tell prog w K mg) : PySem.W.keepIn K (.ref (He.fAd K ("OpenItem", some "__init__"))) = true := (T.f 0 d0 rfl).kp
theorem bd_0 (T : Txt tell prog w K mg) : Binds K (fdOf K ("OpenItem", some "__init__")) ["self", "path", "row"] [] := (T.f 0 d0 rfl).bindsN (ps := ["self", "path", "row"]) fun _ _ _ _ _ _ us hl => match us, hl with | [_, _, _], _ => rfl
theorem sc_1 : FnScope ["self", "path", "first", "kind", "value"] ["self", "path", "first", "kind", "value"] (defScope (inClass (top 10) 0)) := ⟨rfl, rfl, rfl, by decide +kernel, rfl, by decide +kernel, by decide +kernel⟩
theorem kp_1 (T : Txt tell prog w K mg) : PySem.W.keepIn K (.ref (He.fAd K ("ItemRow", some "__init__"))) = true := (T.f 1 d1 rfl).kp
theorem bd_1 (T : Txt tell prog w K mg) : Binds K (fdOf K ("ItemRow", some "__init__")) ["self", "path", "first", "kind", "value"] [] := (T.f 1 d1 rfl).bindsN (ps := ["self", "path", "first", "kind", "value"]) fun _ _ _ _ _ _ us hl => match us, hl with | [_, _, _, _, _], _ => rfl
theorem sc_2 : FnScope ["self", "text"] ["self", "text"] (defScope (inClass (top 11) 0)) := ⟨rfl, rfl, rfl, by decide +kernel, rfl, by decide +kernel, by decide +kernel⟩
theorem kp_2 (T : Txt tell prog w K mg) : PySem.W.keepIn K (.ref (He.fAd K ("TextWalk", some "__init__"))) = true := (T.f 2 d2 rfl).kp
theorem bd_2 (T : Txt tell prog w K mg) : Binds K (fdOf K ("TextWalk", some "__init__")) ["self", "text"] [] := (T.f 2 d2 rfl).bindsN (ps := ["self", "text"]) fun _ _ _ _ _ _ us hl => match us, hl with | [_, _], _ => rfl
theorem sc_3 : FnScope ["self", "signs"] ["self", "signs"] (defScope (inClass (top 11) 1)) := ⟨rfl, rfl, rfl, by decide +kernel, rfl, by decide +kernel, by decide +kernel⟩
theorem kp_3 (T : Txt tell prog w K mg) : PySem.W.keepIn K (.ref (He.fAd K ("TextWalk", some "next_in"))) = true := (T.f 3 d3 rfl).kp
theorem bd_3 (T : Txt tell prog w K mg) : Binds K (fdOf K ("TextWalk", some "next_in")) ["self", "signs"] [] := (T.f 3 d3 rfl).bindsN (ps := ["self", "signs"]) fun _ _ _ _ _ _ us hl => match us, hl with | [_, _], _ => rfl
theorem sc_4 : FnScope ["self"] ["self"] (defScope (inClass (top 11) 2)) := ⟨rfl, rfl, rfl, by decide +kernel, rfl, by decide +kernel, by decide +kernel⟩
theorem kp_4 (T : Txt tell prog w K mg) : PySem.W.keepIn K (.ref (He.fAd K ("TextWalk", some "refuse_here"))) = true := (T.f 4 d4 rfl).kp
theorem bd_4 (T : Txt tell prog w K mg) : Binds K (fdOf K ("TextWalk", some "refuse_here")) ["self"] [] := (T.f 4 d4 rfl).bindsN (ps := ["self"]) fun _ _ _ _ _ _ us hl => match us, hl with | [_], _ => rfl
theorem sc_5 : FnScope ["self", "first", "kind", "value", "holder", "row"] ["self", "first", "kind", "value"] (defScope (inClass (top 11) 3)) := ⟨rfl, rfl, rfl, by decide +kernel, rfl, by decide +kernel, by decide +kernel⟩
theorem kp_5 (T : Txt tell prog w K mg) : PySem.W.keepIn K (.ref (He.fAd K ("TextWalk", some "new_row"))) = true := (T.f 5 d5 rfl).kp
theorem bd_5 (T : Txt tell prog w K mg) : Binds K (fdOf K ("TextWalk", some "new_row")) ["self", "first", "kind", "value"] [] := (T.f 5 d5 rfl).bindsN (ps := ["self", "first", "kind", "value"]) fun _ _ _ _ _ _ us hl => match us, hl with | [_, _, _, _], _ => rfl
theorem sc_6 : FnScope ["self", "first"] ["self"] (defScope (inClass (top 11) 4)) := ⟨rfl, rfl, rfl, by decide +kernel, rfl, by decide +kernel, by decide +kernel⟩
theorem kp_6 (T : Txt tell prog w K mg) : PySem.W.keepIn K (.ref (He.fAd K ("TextWalk", some "go_over_name"))) = true := (T.f 6 d6 rfl).kp
theorem bd_6 (T : Txt tell prog w K mg) : Binds K (fdOf K ("TextWalk", some "go_over_name")) ["self"] [] := (T.f 6 d6 rfl).bindsN (ps := ["self"]) fun _ _ _ _ _ _ us hl => match us, hl with | [_], _ => rfl
theorem sc_7 : FnScope ["self", "first"] ["self"] (defScope (inClass (top 11) 5)) := ⟨rfl, rfl, rfl, by decide +kernel, rfl, by decide +kernel, by decide +kernel⟩
theorem kp_7 (T : Txt tell prog w K mg) : PySem.W.keepIn K (.ref (He.fAd K ("TextWalk", some "go_over_number"))) = true := (T.f 7 d7 rfl).kp
theorem bd_7 (T : Txt tell prog w K mg) : Binds K (fdOf K ("TextWalk", some "go_over_number")) ["self"] [] := (T.f 7 d7 rfl).bindsN (ps := ["self"]) fun _ _ _ _ _ _ us hl => match us, hl with | [_], _ => rfl
theorem sc_8 : FnScope ["self", "first", "row"] ["self"] (defScope (inClass (top 11) 6)) := ⟨rfl, rfl, rfl, by decide +kernel, rfl, by decide +kernel, by decide +kernel⟩
theorem kp_8 (T : Txt tell prog w K mg) : PySem.W.keepIn K (.ref (He.fAd K ("TextWalk", some "small_item"))) = true := (T.f 8 d8 rfl).kp
theorem bd_8 (T : Txt tell prog w K mg) : Binds K (fdOf K ("TextWalk", some "small_item")) ["self"] [] := (T.f 8 d8 rfl).bindsN (ps := ["self"]) fun _ _ _ _ _ _ us hl => match us, hl with | [_], _ => rfl
theorem sc_9 : FnScope ["self", "row"] ["self"] (defScope (inClass (top 11) 7)) := ⟨rfl, rfl, rfl, by decide +kernel, rfl, by decide +kernel, by decide +kernel⟩
theorem kp_9 (T : Txt tell prog w K mg) : PySem.W.keepIn K (.ref (He.fAd K ("TextWalk", some "begin_item"))) = true := (T.f 9 d9 rfl).kp
theorem bd_9 (T : Txt tell prog w K mg) : Binds K (fdOf K ("TextWalk", some "begin_item")) ["self"] [] := (T.f 9 d9 rfl).bindsN (ps := ["self"]) fun _ _ _ _ _ _ us hl => match us, hl with | [_], _ => rfl
theorem sc_10 : FnScope ["self", "held", "row"] ["self"] (defScope (inClass (top 11) 8)) := ⟨rfl, rfl, rfl, by decide +kernel, rfl, by decide +kernel, by decide +kernel⟩
theorem kp_10 (T : Txt tell prog w K mg) : PySem.W.keepIn K (.ref (He.fAd K ("TextWalk", some "begin_first"))) = true := (T.f 10 d10 rfl).kp
theorem bd_10 (T : Txt tell prog w K mg) : Binds K (fdOf K ("TextWalk", some "begin_first")) ["self"] [] := (T.f 10 d10 rfl).bindsN (ps := ["self"]) fun _ _ _ _ _ _ us hl => match us, hl with | [_], _ => rfl
theorem sc_11 : FnScope ["self"] ["self"] (defScope (inClass (top 11) 9)) := ⟨rfl, rfl, rfl, by decide +kernel, rfl, by decide +kernel, by decide +kernel⟩
theorem kp_11 (T : Txt tell prog w K mg) : PySem.W.keepIn K (.ref (He.fAd K ("TextWalk", some "close_item"))) = true := (T.f 11 d11 rfl).kp
theorem bd_11 (T : Txt tell prog w K mg) : Binds K (fdOf K ("TextWalk", some "close_item")) ["self"] [] := (T.f 11 d11 rfl).bindsN (ps := ["self"]) fun _ _ _ _ _ _ us hl => match us, hl with | [_], _ => rfl
theorem sc_12 : FnScope ["self"] ["self"] (defScope (inClass (top 11) 10)) := ⟨rfl, rfl, rfl, by decide +kernel, rfl, by decide +kernel, by decide +kernel⟩
theorem kp_12 (T : Txt tell prog w K mg) : PySem.W.keepIn K (.ref (He.fAd K ("TextWalk", some "go_on"))) = true := (T.f 12 d12 rfl).kp
theorem bd_12 (T : Txt tell prog w K mg) : Binds K (fdOf K ("TextWalk", some "go_on")) ["self"] [] := (T.f 12 d12 rfl).bindsN (ps := ["self"]) fun _ _ _ _ _ _ us hl => match us, hl with | [_], _ => rfl
theorem sc_13 : FnScope ["self", "going"] ["self"] (defScope (inClass (top 11) 11)) := ⟨rfl, rfl, rfl, by decide +kernel, rfl, by decide +kernel, by decide +kernel⟩
theorem kp_13 (T : Txt tell prog w K mg) : PySem.W.keepIn K (.ref (He.fAd K ("TextWalk", some "walked_rows"))) = true := (T.f 13 d13 rfl).kp
theorem bd_13 (T : Txt tell prog w K mg) : Binds K (fdOf K ("TextWalk", some "walked_rows")) ["self"] [] := (T.f 13 d13 rfl).bindsN (ps := ["self"]) fun _ _ _ _ _ _ us hl => match us, hl with | [_], _ => rfl
theorem sc_14 : FnScope ["text"] ["text"] (defScope (top 12)) := ⟨rfl, rfl, rfl, by decide +kernel, rfl, by decide +kernel, by decide +kernel⟩
theorem kp_14 (T : Txt tell prog w K mg) : PySem.W.keepIn K (.ref (He.fAd K ("rows_of_text", none))) = true := (T.f 14 d14 rfl).kp
theorem bd_14 (T : Txt tell prog w K mg) : Binds K (fdOf K ("rows_of_text", none)) ["text"] [] := (T.f 14 d14 rfl).bindsN (ps := ["text"]) fun _ _ _ _ _ _ us hl => match us, hl with | [_], _ => rfl
theorem sc_15 : FnScope ["rows", "made", "found", "row", "items"] ["rows", "made"] (defScope (top 13)) := ⟨rfl, rfl, rfl, by decide +kernel, rfl, by decide +kernel, by decide +kernel⟩
theorem kp_15 (T : Txt tell prog w K mg) : PySem.W.keepIn K (.ref (He.fAd K ("nested_rows", none))) = true := (T.f 15 d15 rfl).kp
theorem bd_15 (T : Txt tell prog w K mg) : Binds K (fdOf K ("nested_rows", none)) ["rows", "made"] [] := (T.f 15 d15 rfl).bindsN (ps := ["rows", "made"]) fun _ _ _ _ _ _ us hl => match us, hl with | [_, _], _ => rfl
theorem sc_16 : FnScope ["row", "items"] ["row", "items"] (defScope (top 14)) := ⟨rfl, rfl, rfl, by decide +kernel, rfl, by decide +kernel, by decide +kernel⟩
theorem kp_16 (T : Txt tell prog w K mg) : PySem.W.keepIn K (.ref (He.fAd K ("plain_item", none))) = true := (T.f 16 d16 rfl).kp
theorem bd_16 (T : Txt tell prog w K mg) : Binds K (fdOf K ("plain_item", none)) ["row", "items"] [] := (T.f 16 d16 rfl).bindsN (ps := ["row", "items"]) fun _ _ _ _ _ _ us hl => match us, hl with | [_, _], _ => rfl
theorem sc_17 : FnScope ["text"] ["text"] (defScope (top 15)) := ⟨rfl, rfl, rfl, by decide +kernel, rfl, by decide +kernel, by decide +kernel⟩
theorem kp_17 (T : Txt tell prog w K mg) : PySem.W.keepIn K (.ref (He.fAd K ("plain_of", none))) = true := (T.f 17 d17 rfl).kp
theorem bd_17 (T : Txt tell prog w K mg) : Binds K (fdOf K ("plain_of", none)) ["text"] [] := (T.f 17 d17 rfl).bindsN (ps := ["text"]) fun _ _ _ _ _ _ us hl => match us, hl with | [_], _ => rfl
theorem sc_18 : FnScope ["value"] ["value"] (defScope (top 16)) := ⟨rfl, rfl, rfl, by decide +kernel, rfl, by decide +kernel, by decide +kernel⟩
theorem kp_18 (T : Txt tell prog w K mg) : PySem.W.keepIn K (.ref (He.fAd K ("is_text", none))) = true := (T.f 18 d18 rfl).kp
theorem bd_18 (T : Txt tell prog w K mg) : Binds K (fdOf K ("is_text", none)) ["value"] [] := (T.f 18 d18 rfl).bindsN (ps := ["value"]) fun _ _ _ _ _ _ us hl => match us, hl with | [_], _ => rfl
theorem sc_19 : FnScope ["_law_script", "_law_k", "_law_cell", "_law_big", "_law_mixed"] ["_law_script", "_law_k"] (defScope (top 18)) := ⟨rfl, rfl, rfl, by decide +kernel, rfl, by decide +kernel, by decide +kernel⟩
theorem kp_19 (T : Txt tell prog w K mg) : PySem.W.keepIn K (.ref (He.fAd K ("_law_pool", none))) = true := (T.f 19 d19 rfl).kp
theorem bd_19 (T : Txt tell prog w K mg) : Binds K (fdOf K ("_law_pool", none)) ["_law_script", "_law_k"] [] := (T.f 19 d19 rfl).bindsN (ps := ["_law_script", "_law_k"]) fun _ _ _ _ _ _ us hl => match us, hl with | [_, _], _ => rfl
theorem sc_20 : FnScope ["_law_pool_here", "_law_bound", "_law_result"] ["_law_pool_here", "_law_bound"] (defScope (top 19)) := ⟨rfl, rfl, rfl, by decide +kernel, rfl, by decide +kernel, by decide +kernel⟩
theorem kp_20 (T : Txt tell prog w K mg) : PySem.W.keepIn K (.ref (He.fAd K ("_law_take", none))) = true := (T.f 20 d20 rfl).kp
theorem bd_20 (T : Txt tell prog w K mg) : Binds K (fdOf K ("_law_take", none)) ["_law_pool_here", "_law_bound"] [] := (T.f 20 d20 rfl).bindsN (ps := ["_law_pool_here", "_law_bound"]) fun _ _ _ _ _ _ us hl => match us, hl with | [_, _], _ => rfl
theorem sc_21 : FnScope ["_law_pool_here", "_law_things"] ["_law_pool_here", "_law_things"] (defScope (top 20)) := ⟨rfl, rfl, rfl, by decide +kernel, rfl, by decide +kernel, by decide +kernel⟩
theorem kp_21 (T : Txt tell prog w K mg) : PySem.W.keepIn K (.ref (He.fAd K ("_law_one", none))) = true := (T.f 21 d21 rfl).kp
theorem bd_21 (T : Txt tell prog w K mg) : Binds K (fdOf K ("_law_one", none)) ["_law_pool_here", "_law_things"] [] := (T.f 21 d21 rfl).bindsN (ps := ["_law_pool_here", "_law_things"]) fun _ _ _ _ _ _ us hl => match us, hl with | [_, _], _ => rfl
theorem sc_22 : FnScope ["_law_pool_here", "_law_deep", "_law_names", "_law_way", "_law_items", "_law_turn"] ["_law_pool_here", "_law_deep", "_law_names"] (defScope (top 21)) := ⟨rfl, rfl, rfl, by decide +kernel, rfl, by decide +kernel, by decide +kernel⟩
theorem kp_22 (T : Txt tell prog w K mg) : PySem.W.keepIn K (.ref (He.fAd K ("_law_item", none))) = true := (T.f 22 d22 rfl).kp
theorem bd_22 (T : Txt tell prog w K mg) : Binds K (fdOf K ("_law_item", none)) ["_law_pool_here", "_law_deep", "_law_names"] [] := (T.f 22 d22 rfl).bindsN (ps := ["_law_pool_here", "_law_deep", "_law_names"]) fun _ _ _ _ _ _ us hl => match us, hl with | [_, _, _], _ => rfl
theorem sc_23 : FnScope ["_law_pool_here", "_law_names", "_law_turn"] ["_law_pool_here", "_law_names"] (defScope (top 22)) := ⟨rfl, rfl, rfl, by decide +kernel, rfl, by decide +kernel, by decide +kernel⟩
theorem kp_23 (T : Txt tell prog w K mg) : PySem.W.keepIn K (.ref (He.fAd K ("_law_program", none))) = true := (T.f 23 d23 rfl).kp
theorem bd_23 (T : Txt tell prog w K mg) : Binds K (fdOf K ("_law_program", none)) ["_law_pool_here", "_law_names"] [] := (T.f 23 d23 rfl).bindsN (ps := ["_law_pool_here", "_law_names"]) fun _ _ _ _ _ _ us hl => match us, hl with | [_, _], _ => rfl
theorem sc_24 : FnScope ["_law_item_here", "_law_words", "_law_one_here", "_law_opening"] ["_law_item_here"] (defScope (top 23)) := ⟨rfl, rfl, rfl, by decide +kernel, rfl, by decide +kernel, by decide +kernel⟩
theorem kp_24 (T : Txt tell prog w K mg) : PySem.W.keepIn K (.ref (He.fAd K ("_law_word", none))) = true := (T.f 24 d24 rfl).kp
theorem bd_24 (T : Txt tell prog w K mg) : Binds K (fdOf K ("_law_word", none)) ["_law_item_here"] [] := (T.f 24 d24 rfl).bindsN (ps := ["_law_item_here"]) fun _ _ _ _ _ _ us hl => match us, hl with | [_], _ => rfl
theorem sc_25 : FnScope ["_law_program_here", "_law_item_here"] ["_law_program_here"] (defScope (top 24)) := ⟨rfl, rfl, rfl, by decide +kernel, rfl, by decide +kernel, by decide +kernel⟩
theorem kp_25 (T : Txt tell prog w K mg) : PySem.W.keepIn K (.ref (He.fAd K ("_law_text", none))) = true := (T.f 25 d25 rfl).kp
theorem bd_25 (T : Txt tell prog w K mg) : Binds K (fdOf K ("_law_text", none)) ["_law_program_here"] [] := (T.f 25 d25 rfl).bindsN (ps := ["_law_program_here"]) fun _ _ _ _ _ _ us hl => match us, hl with | [_], _ => rfl
theorem sc_26 : FnScope ["_law_word_here", "_law_sign", "_law_letters", "_law_one_here"] ["_law_word_here", "_law_sign"] (defScope (top 25)) := ⟨rfl, rfl, rfl, by decide +kernel, rfl, by decide +kernel, by decide +kernel⟩
theorem kp_26 (T : Txt tell prog w K mg) : PySem.W.keepIn K (.ref (He.fAd K ("_law_goes", none))) = true := (T.f 26 d26 rfl).kp
theorem bd_26 (T : Txt tell prog w K mg) : Binds K (fdOf K ("_law_goes", none)) ["_law_word_here", "_law_sign"] [] := (T.f 26 d26 rfl).bindsN (ps := ["_law_word_here", "_law_sign"]) fun _ _ _ _ _ _ us hl => match us, hl with | [_, _], _ => rfl
theorem sc_27 : FnScope ["_law_text_here", "_law_open_ones", "_law_state", "_law_word_here", "_law_named", "_law_at", "_law_sign", "_law_begins"] ["_law_text_here"] (defScope (top 26)) := ⟨rfl, rfl, rfl, by decide +kernel, rfl, by decide +kernel, by decide +kernel⟩
theorem kp_27 (T : Txt tell prog w K mg) : PySem.W.keepIn K (.ref (He.fAd K ("_law_wrong", none))) = true := (T.f 27 d27 rfl).kp
theorem bd_27 (T : Txt tell prog w K mg) : Binds K (fdOf K ("_law_wrong", none)) ["_law_text_here"] [] := (T.f 27 d27 rfl).bindsN (ps := ["_law_text_here"]) fun _ _ _ _ _ _ us hl => match us, hl with | [_], _ => rfl
theorem sc_28 : FnScope ["_law_text_here", "e"] ["_law_text_here"] (defScope (top 27)) := ⟨rfl, rfl, rfl, by decide +kernel, rfl, by decide +kernel, by decide +kernel⟩
theorem kp_28 (T : Txt tell prog w K mg) : PySem.W.keepIn K (.ref (He.fAd K ("_law_told", none))) = true := (T.f 28 d28 rfl).kp
theorem bd_28 (T : Txt tell prog w K mg) : Binds K (fdOf K ("_law_told", none)) ["_law_text_here"] [] := (T.f 28 d28 rfl).bindsN (ps := ["_law_text_here"]) fun _ _ _ _ _ _ us hl => match us, hl with | [_], _ => rfl
theorem sc_29 : FnScope ["_law_pool_here", "_law_text_here", "_law_at", "_law_way", "_law_sign"] ["_law_pool_here", "_law_text_here"] (defScope (top 28)) := ⟨rfl, rfl, rfl, by decide +kernel, rfl, by decide +kernel, by decide +kernel⟩
theorem kp_29 (T : Txt tell prog w K mg) : PySem.W.keepIn K (.ref (He.fAd K ("_law_bent", none))) = true := (T.f 29 d29 rfl).kp
theorem bd_29 (T : Txt tell prog w K mg) : Binds K (fdOf K ("_law_bent", none)) ["_law_pool_here", "_law_text_here"] [] := (T.f 29 d29 rfl).bindsN (ps := ["_law_pool_here", "_law_text_here"]) fun _ _ _ _ _ _ us hl => match us, hl with | [_, _], _ => rfl
theorem sc_30 : FnScope ["_law_script", "_law_k", "_law_pool_here", "_law_program_here", "_law_text_here", "_law_turn", "_law_bent_here", "_law_told_here", "_law_wrong_here", "_law_odd"] ["_law_script"] (defScope (top 29)) := ⟨rfl, rfl, rfl, by decide +kernel, rfl, by decide +kernel, by decide +kernel⟩
theorem kp_30 (T : Txt tell prog w K mg) : PySem.W.keepIn K (.ref (He.fAd K ("law", none))) = true := (T.f 30 d30 rfl).kp
theorem bd_30 (T : Txt tell prog w K mg) : Binds K (fdOf K ("law", none)) ["_law_script"] [] := (T.f 30 d30 rfl).bindsN (ps := ["_law_script"]) fun _ _ _ _ _ _ us hl => match us, hl with | [_], _ => rfl
theorem ok_0 (T : Txt tell prog w K mg) (A : AllOk prog w K mg base env n ks) : OkF prog w K mg base env (n + 1) (("OpenItem", some "__init__"), ["self", "path", "row"]) := by
  refine fn_ok (k := 2 * n + 1) (d := c0) (N := ["self", "path", "row"]) (T.f 0 d0 rfl) sc_0 rfl rfl rfl fun cdv A0 outer s H E hr tk pw => ?_
  have hr0 := hr.mono (Nat.le_succ (2 * n))
  have nd := sc_0.nd
  exact (b_cons (s_sat T.hC (m_var 0) (m_var 1))
      (b_cons (s_sat T.hC (m_var 0) (m_var 2))
      (b_cons (s_sat T.hC (m_var 0) m_int)
      b_nil)))
theorem ok_1 (T : Txt tell prog w K mg) (A : AllOk prog w K mg base env n ks) : OkF prog w K mg base env (n + 1) (("ItemRow", some "__init__"), ["self", "path", "first", "kind", "value"]) := by
  refine fn_ok (k := 2 * n + 1) (d := c1) (N := ["self", "path", "first", "kind", "value"]) (T.f 1 d1 rfl) sc_1 rfl rfl rfl fun cdv A0 outer s H E hr tk pw => ?_
  have hr0 := hr.mono (Nat.le_succ (2 * n))
  have nd := sc_1.nd
  exact (b_cons (s_sat T.hC (m_var 0) (m_var 1))
      (b_cons (s_sat T.hC (m_var 0) (m_var 2))
      (b_cons (s_sat T.hC (m_var 0) (m_var 2))
      (b_cons (s_sat T.hC (m_var 0) (m_var 3))
      (b_cons (s_sat T.hC (m_var 0) (m_var 4))
      b_nil)))))
theorem ok_2 (T : Txt tell prog w K mg) (A : AllOk prog w K mg base env n ks) : OkF prog w K mg base env (n + 1) (("TextWalk", some "__init__"), ["self", "text"]) := by
  refine fn_ok (k := 2 * n + 1) (d := c2) (N := ["self", "text"]) (T.f 2 d2 rfl) sc_2 rfl rfl rfl fun cdv A0 outer s H E hr tk pw => ?_
  have hr0 := hr.mono (Nat.le_succ (2 * n))
  have nd := sc_2.nd
  exact (b_cons (s_sat T.hC (m_var 0) (m_var 1))
      (b_cons (s_sat T.hC (m_var 0) m_int)
      (b_cons (s_sat T.hC (m_var 0) (m_nwl a_nil))
      (b_cons (s_sat T.hC (m_var 0) (m_nwl (a_cons (m_new ⟨T.mkr 0 rfl, T.glo 17 rfl, A 0 rfl, bd_0 T⟩ hr tk (by rfl) (a_cons (m_tup a_nil) (a_cons m_non a_nil))) a_nil)))
      b_nil))))
theorem ok_3 (T : Txt tell prog w K mg) (A : AllOk prog w K mg base env n ks) : OkF prog w K mg base env (n + 1) (("TextWalk", some "next_in"), ["self", "signs"]) := by
  refine fn_ok (k := 2 * n + 1) (d := c3) (N := ["self", "signs"]) (T.f 3 d3 rfl) sc_3 rfl rfl rfl fun cdv A0 outer s H E hr tk pw => ?_
  have hr0 := hr.mono (Nat.le_succ (2 * n))
  have nd := sc_3.nd
  exact (b_cons (s_ret (m_and (m_cmp hr.units (m_att T.hC (m_var 0)) (m_bltB call_lenM (by rfl) (T.free 0 rfl) bt_len (a_cons (m_att T.hC (m_var 0)) a_nil)) (by rfl)) (m_one (m_cmp hr.units (m_idx T.hK (m_att T.hC (m_var 0)) (m_att T.hC (m_var 0)) (fun _ _ => by rfl)) (m_var 1) (by rfl)))))
      b_nil)
theorem ok_4 (T : Txt tell prog w K mg) (A : AllOk prog w K mg base env n ks) : OkF prog w K mg base env (n + 1) (("TextWalk", some "refuse_here"), ["self"]) := by
  refine fn_ok (k := 2 * n + 1) (d := c4) (N := ["self"]) (T.f 4 d4 rfl) sc_4 rfl rfl rfl fun cdv A0 outer s H E hr tk pw => ?_
  have hr0 := hr.mono (Nat.le_succ (2 * n))
  have nd := sc_4.nd
  exact (b_cons (s_rse (by rfl) (T.er 0 rfl) (by rfl) hr tk (T.glo 20 rfl) (T.free 1 rfl) bt_super (by rfl) (m_att T.hC (m_var 0)) (by rfl))
      b_nil)
theorem ok_5 (T : Txt tell prog w K mg) (A : AllOk prog w K mg base env n ks) : OkF prog w K mg base env (n + 1) (("TextWalk", some "new_row"), ["self", "first", "kind", "value"]) := by
  refine fn_ok (k := 2 * n + 1) (d := c5) (N := ["self", "first", "kind", "value", "holder", "row"]) (T.f 5 d5 rfl) sc_5 rfl rfl rfl fun cdv A0 outer s H E hr tk pw => ?_
  have hr0 := hr.mono (Nat.le_succ (2 * n))
  have nd := sc_5.nd
  exact (b_cons (s_asg nd (by rfl) (by first | exact .inl rfl | exact .inr rfl) (m_idx T.hK (m_att T.hC (m_var 0)) (m_neg m_int) (fun _ _ => by rfl)))
      (b_cons (s_asg nd (by rfl) (by first | exact .inl rfl | exact .inr rfl) (m_new ⟨T.mkr 1 rfl, T.glo 18 rfl, A 1 rfl, bd_1 T⟩ hr tk (by rfl) (a_cons (m_tup (a_star (m_att T.hC (m_var 4)) (a_cons (m_att T.hC (m_var 4)) a_nil))) (a_cons (m_var 1) (a_cons (m_var 2) (a_cons (m_var 3) a_nil))))))
      (b_cons (s_augA T.hC (m_var 4) m_int)
      (b_cons (s_exp (m_append (m_att T.hC (m_var 0)) (m_var 5)))
      (b_cons (s_ret (m_var 5))
      b_nil)))))
theorem ok_6 (T : Txt tell prog w K mg) (A : AllOk prog w K mg base env n ks) : OkF prog w K mg base env (n + 1) (("TextWalk", some "go_over_name"), ["self"]) := by
  refine fn_ok (k := 2 * n + 1) (d := c6) (N := ["self", "first"]) (T.f 6 d6 rfl) sc_6 rfl rfl rfl fun cdv A0 outer s H E hr tk pw => ?_
  have hr0 := hr.mono (Nat.le_succ (2 * n))
  have nd := sc_6.nd
  exact (b_cons (s_asg nd (by rfl) (by first | exact .inl rfl | exact .inr rfl) (m_att T.hC (m_var 0)))
      (b_cons (s_whl pw (PW.pt (t_and (t_cmp hr.units (m_bin (m_att T.hC (m_var 0)) (m_var 1)) (m_glb T.hG (by rfl) (by rfl)) (by rfl)) (t_and1 (t_of (m_mth ⟨T.cls 2 rfl, T.mth 0 rfl, A 3 rfl, bd_3 T⟩ hr0 tk (m_var 0) (a_cons (m_glb T.hG (by rfl) (by rfl)) a_nil)))))) (b_cons (s_augA T.hC (m_var 0) m_int)
      b_nil))
      (b_cons (s_ite (t_of (m_mth ⟨T.cls 2 rfl, T.mth 0 rfl, A 3 rfl, bd_3 T⟩ hr0 tk (m_var 0) (a_cons (m_glb T.hG (by rfl) (by rfl)) a_nil))) (b_cons (s_augA T.hC (m_var 0) m_int)
      (b_cons (s_ite (t_of (m_mth ⟨T.cls 2 rfl, T.mth 0 rfl, A 3 rfl, bd_3 T⟩ hr0 tk (m_var 0) (a_cons (m_glb T.hG (by rfl) (by rfl)) a_nil))) (b_cons (s_augA T.hC (m_var 0) m_int)
      b_nil) b_nil)
      b_nil)) b_nil)
      (b_cons (s_ret (m_slc (m_att T.hC (m_var 0)) (p_some (m_var 1)) (p_some (m_att T.hC (m_var 0)))))
      b_nil))))
theorem ok_7 (T : Txt tell prog w K mg) (A : AllOk prog w K mg base env n ks) : OkF prog w K mg base env (n + 1) (("TextWalk", some "go_over_number"), ["self"]) := by
  refine fn_ok (k := 2 * n + 1) (d := c7) (N := ["self", "first"]) (T.f 7 d7 rfl) sc_7 rfl rfl rfl fun cdv A0 outer s H E hr tk pw => ?_
  have hr0 := hr.mono (Nat.le_succ (2 * n))
  have nd := sc_7.nd
  exact (b_cons (s_asg nd (by rfl) (by first | exact .inl rfl | exact .inr rfl) (m_att T.hC (m_var 0)))
      (b_cons (s_augA T.hC (m_var 0) m_int)
      (b_cons (s_ite (PW.pt (t_and (t_cmp hr.units (m_idx T.hK (m_att T.hC (m_var 0)) (m_var 1) (fun _ _ => by rfl)) m_str (by rfl)) (t_and1 (t_of (m_mth ⟨T.cls 2 rfl, T.mth 0 rfl, A 3 rfl, bd_3 T⟩ hr0 tk (m_var 0) (a_cons (m_glb T.hG (by rfl) (by rfl)) a_nil)))))) (b_cons (s_augA T.hC (m_var 0) m_int)
      b_nil) b_nil)
      (b_cons (s_ret (m_bltT call_intM (by rfl) (T.free 2 rfl) bt_int (a_cons (m_slc (m_att T.hC (m_var 0)) (p_some (m_var 1)) (p_some (m_att T.hC (m_var 0)))) a_nil)))
      b_nil))))
theorem ok_8 (T : Txt tell prog w K mg) (A : AllOk prog w K mg base env n ks) : OkF prog w K mg base env (n + 1) (("TextWalk", some "small_item"), ["self"]) := by
  refine fn_ok (k := 2 * n + 1) (d := c8) (N := ["self", "first", "row"]) (T.f 8 d8 rfl) sc_8 rfl rfl rfl fun cdv A0 outer s H E hr tk pw => ?_
  have hr0 := hr.mono (Nat.le_succ (2 * n))
  have nd := sc_8.nd
  exact (b_cons (s_asg nd (by rfl) (by first | exact .inl rfl | exact .inr rfl) (m_att T.hC (m_var 0)))
      (b_cons (s_ite (t_of (m_mth ⟨T.cls 2 rfl, T.mth 0 rfl, A 3 rfl, bd_3 T⟩ hr0 tk (m_var 0) (a_cons (m_glb T.hG (by rfl) (by rfl)) a_nil))) (b_cons (s_asg nd (by rfl) (by first | exact .inl rfl | exact .inr rfl) (m_mth ⟨T.cls 2 rfl, T.mth 2 rfl, A 5 rfl, bd_5 T⟩ hr0 tk (m_var 0) (a_cons (m_var 1) (a_cons m_str (a_cons (m_mth0 ⟨T.cls 2 rfl, T.mth 4 rfl, A 7 rfl, bd_7 T⟩ hr0 tk (m_var 0)) a_nil)))))
      b_nil) (b_cons (s_ite (t_of (m_mth ⟨T.cls 2 rfl, T.mth 0 rfl, A 3 rfl, bd_3 T⟩ hr0 tk (m_var 0) (a_cons (m_glb T.hG (by rfl) (by rfl)) a_nil))) (b_cons (s_asg nd (by rfl) (by first | exact .inl rfl | exact .inr rfl) (m_mth ⟨T.cls 2 rfl, T.mth 2 rfl, A 5 rfl, bd_5 T⟩ hr0 tk (m_var 0) (a_cons (m_var 1) (a_cons m_str (a_cons (m_mth0 ⟨T.cls 2 rfl, T.mth 3 rfl, A 6 rfl, bd_6 T⟩ hr0 tk (m_var 0)) a_nil)))))
      b_nil) (b_cons (s_ite (t_of (m_mth ⟨T.cls 2 rfl, T.mth 0 rfl, A 3 rfl, bd_3 T⟩ hr0 tk (m_var 0) (a_cons m_str a_nil))) (b_cons (s_augA T.hC (m_var 0) m_int)
      (b_cons (s_asg nd (by rfl) (by first | exact .inl rfl | exact .inr rfl) (m_mth ⟨T.cls 2 rfl, T.mth 2 rfl, A 5 rfl, bd_5 T⟩ hr0 tk (m_var 0) (a_cons (m_var 1) (a_cons m_str (a_cons m_non a_nil)))))
      b_nil)) (b_cons (s_ret m_non)
      b_nil))
      b_nil))
      b_nil))
      (b_cons (s_sat T.hC (m_var 2) (m_att T.hC (m_var 0)))
      (b_cons (s_ret (m_var 2))
      b_nil))))
theorem ok_9 (T : Txt tell prog w K mg) (A : AllOk prog w K mg base env n ks) : OkF prog w K mg base env (n + 1) (("TextWalk", some "begin_item"), ["self"]) := by
  refine fn_ok (k := 2 * n + 1) (d := c9) (N := ["self", "row"]) (T.f 9 d9 rfl) sc_9 rfl rfl rfl fun cdv A0 outer s H E hr tk pw => ?_
  have hr0 := hr.mono (Nat.le_succ (2 * n))
  have nd := sc_9.nd
  exact (b_cons (s_ite (t_cmp hr.units (m_mth0 ⟨T.cls 2 rfl, T.mth 5 rfl, A 8 rfl, bd_8 T⟩ hr0 tk (m_var 0)) m_non (by rfl)) (b_cons s_retN
      b_nil) b_nil)
      (b_cons (s_ite (t_not (t_of (m_mth ⟨T.cls 2 rfl, T.mth 0 rfl, A 3 rfl, bd_3 T⟩ hr0 tk (m_var 0) (a_cons m_str a_nil)))) (b_cons (s_exp (m_mth0 ⟨T.cls 2 rfl, T.mth 1 rfl, A 4 rfl, bd_4 T⟩ hr0 tk (m_var 0)))
      b_nil) b_nil)
      (b_cons (s_asg nd (by rfl) (by first | exact .inl rfl | exact .inr rfl) (m_mth ⟨T.cls 2 rfl, T.mth 2 rfl, A 5 rfl, bd_5 T⟩ hr0 tk (m_var 0) (a_cons (m_att T.hC (m_var 0)) (a_cons m_str (a_cons m_non a_nil)))))
      (b_cons (s_augA T.hC (m_var 0) m_int)
      (b_cons (s_exp (m_append (m_att T.hC (m_var 0)) (m_new ⟨T.mkr 0 rfl, T.glo 17 rfl, A 0 rfl, bd_0 T⟩ hr tk (by rfl) (a_cons (m_att T.hC (m_var 1)) (a_cons (m_var 1) a_nil)))))
      (b_cons (s_ite (t_of (m_mth ⟨T.cls 2 rfl, T.mth 0 rfl, A 3 rfl, bd_3 T⟩ hr0 tk (m_var 0) (a_cons m_str a_nil))) (b_cons (s_sat T.hC (m_var 1) (m_idx T.hK (m_glb T.hG (by rfl) (by rfl)) (m_idx T.hK (m_att T.hC (m_var 0)) (m_att T.hC (m_var 0)) (fun _ _ => by rfl)) (fun _ _ => by rfl)))
      (b_cons (s_augA T.hC (m_var 0) m_int)
      b_nil)) (b_cons (s_ite (t_not (t_of (m_mth ⟨T.cls 2 rfl, T.mth 0 rfl, A 3 rfl, bd_3 T⟩ hr0 tk (m_var 0) (a_cons m_str a_nil)))) (b_cons (s_exp (m_mth0 ⟨T.cls 2 rfl, T.mth 7 rfl, A 10 rfl, bd_10 T⟩ hr0 tk (m_var 0)))
      b_nil) b_nil)
      b_nil))
      b_nil))))))
theorem ok_10 (T : Txt tell prog w K mg) (A : AllOk prog w K mg base env n ks) : OkF prog w K mg base env (n + 1) (("TextWalk", some "begin_first"), ["self"]) := by
  refine fn_ok (k := 2 * n + 1) (d := c10) (N := ["self", "held", "row"]) (T.f 10 d10 rfl) sc_10 rfl rfl rfl fun cdv A0 outer s H E hr tk pw => ?_
  have hr0 := hr.mono (Nat.le_succ (2 * n))
  have nd := sc_10.nd
  exact (b_cons (s_asg nd (by rfl) (by first | exact .inl rfl | exact .inr rfl) (m_idx T.hK (m_att T.hC (m_var 0)) (m_neg m_int) (fun _ _ => by rfl)))
      (b_cons (s_asg nd (by rfl) (by first | exact .inl rfl | exact .inr rfl) (m_mth0 ⟨T.cls 2 rfl, T.mth 5 rfl, A 8 rfl, bd_8 T⟩ hr0 tk (m_var 0)))
      (b_cons (s_ite (t_cmp hr.units (m_var 2) m_non (by rfl)) (b_cons (s_exp (m_mth0 ⟨T.cls 2 rfl, T.mth 6 rfl, A 9 rfl, bd_9 T⟩ hr0 tk (m_var 0)))
      b_nil) (b_cons (s_ite (PW.pt (t_and (t_cmp hr.units (m_att T.hC (m_var 2)) m_str (by rfl)) (t_and1 (t_cmp hr.units (m_slc (m_att T.hC (m_var 0)) (p_some (m_att T.hC (m_var 0))) (p_some (m_bin (m_att T.hC (m_var 0)) m_int))) m_str (by rfl))))) (b_cons (s_exp (m_pop (m_att T.hC (m_var 0))))
      (b_cons (s_sat T.hC (m_var 1) m_int)
      (b_cons (s_sat T.hC (m_att T.hC (m_var 1)) m_str)
      (b_cons (s_sat T.hC (m_att T.hC (m_var 1)) (m_att T.hC (m_var 2)))
      (b_cons (s_augA T.hC (m_var 0) m_int)
      b_nil))))) b_nil)
      b_nil))
      b_nil)))
theorem ok_11 (T : Txt tell prog w K mg) (A : AllOk prog w K mg base env n ks) : OkF prog w K mg base env (n + 1) (("TextWalk", some "close_item"), ["self"]) := by
  refine fn_ok (k := 2 * n + 1) (d := c11) (N := ["self"]) (T.f 11 d11 rfl) sc_11 rfl rfl rfl fun cdv A0 outer s H E hr tk pw => ?_
  have hr0 := hr.mono (Nat.le_succ (2 * n))
  have nd := sc_11.nd
  exact (b_cons (s_augA T.hC (m_var 0) m_int)
      (b_cons (s_sat T.hC (m_att T.hC (m_idx T.hK (m_att T.hC (m_var 0)) (m_neg m_int) (fun _ _ => by rfl))) (m_att T.hC (m_var 0)))
      (b_cons (s_exp (m_pop (m_att T.hC (m_var 0))))
      b_nil)))
theorem ok_12 (T : Txt tell prog w K mg) (A : AllOk prog w K mg base env n ks) : OkF prog w K mg base env (n + 1) (("TextWalk", some "go_on"), ["self"]) := by
  refine fn_ok (k := 2 * n + 1) (d := c12) (N := ["self"]) (T.f 12 d12 rfl) sc_12 rfl rfl rfl fun cdv A0 outer s H E hr tk pw => ?_
  have hr0 := hr.mono (Nat.le_succ (2 * n))
  have nd := sc_12.nd
  exact (b_cons (s_ite (PW.pt (t_and (t_cmp hr.units (m_att T.hC (m_var 0)) (m_bltB call_lenM (by rfl) (T.free 0 rfl) bt_len (a_cons (m_att T.hC (m_var 0)) a_nil)) (by rfl)) (t_and1 (t_cmp hr.units (m_bltB call_lenM (by rfl) (T.free 0 rfl) bt_len (a_cons (m_att T.hC (m_var 0)) a_nil)) m_int (by rfl))))) (b_cons (s_ret m_bl)
      b_nil) b_nil)
      (b_cons (s_ite (PW.pt (t_and (t_of (m_mth ⟨T.cls 2 rfl, T.mth 0 rfl, A 3 rfl, bd_3 T⟩ hr0 tk (m_var 0) (a_cons m_str a_nil))) (t_and1 (t_cmp hr.units (m_bltB call_lenM (by rfl) (T.free 0 rfl) bt_len (a_cons (m_att T.hC (m_var 0)) a_nil)) m_int (by rfl))))) (b_cons (s_exp (m_mth0 ⟨T.cls 2 rfl, T.mth 8 rfl, A 11 rfl, bd_11 T⟩ hr0 tk (m_var 0)))
      b_nil) (b_cons (s_ite (t_of (m_mth ⟨T.cls 2 rfl, T.mth 0 rfl, A 3 rfl, bd_3 T⟩ hr0 tk (m_var 0) (a_cons m_str a_nil))) (b_cons (s_augA T.hC (m_var 0) m_int)
      (b_cons (s_exp (m_mth0 ⟨T.cls 2 rfl, T.mth 6 rfl, A 9 rfl, bd_9 T⟩ hr0 tk (m_var 0)))
      b_nil)) (b_cons (s_exp (m_mth0 ⟨T.cls 2 rfl, T.mth 1 rfl, A 4 rfl, bd_4 T⟩ hr0 tk (m_var 0)))
      b_nil))
      b_nil))
      (b_cons (s_ret m_bl)
      b_nil)))
theorem ok_13 (T : Txt tell prog w K mg) (A : AllOk prog w K mg base env n ks) : OkF prog w K mg base env (n + 1) (("TextWalk", some "walked_rows"), ["self"]) := by
  refine fn_ok (k := 2 * n + 1) (d := c13) (N := ["self", "going"]) (T.f 13 d13 rfl) sc_13 rfl rfl rfl fun cdv A0 outer s H E hr tk pw => ?_
  have hr0 := hr.mono (Nat.le_succ (2 * n))
  have nd := sc_13.nd
  exact (b_cons (s_ite (t_cmp hr.units (m_att T.hC (m_var 0)) m_str (by rfl)) (b_cons (s_exp (m_mth0 ⟨T.cls 2 rfl, T.mth 6 rfl, A 9 rfl, bd_9 T⟩ hr0 tk (m_var 0)))
      (b_cons (s_asg nd (by rfl) (by first | exact .inl rfl | exact .inr rfl) m_bl)
      (b_cons (s_whl pw (t_of (m_var 1)) (b_cons (s_asg nd (by rfl) (by first | exact .inl rfl | exact .inr rfl) (m_mth0 ⟨T.cls 2 rfl, T.mth 9 rfl, A 12 rfl, bd_12 T⟩ hr0 tk (m_var 0)))
      b_nil))
      b_nil))) b_nil)
      (b_cons (s_ret (m_att T.hC (m_var 0)))
      b_nil))
theorem ok_14 (T : Txt tell prog w K mg) (A : AllOk prog w K mg base env n ks) : OkF prog w K mg base env (n + 1) (("rows_of_text", none), ["text"]) := by
  refine fn_ok (k := 2 * n + 1) (d := c14) (N := ["text"]) (T.f 14 d14 rfl) sc_14 rfl rfl rfl fun cdv A0 outer s H E hr tk pw => ?_
  have hr0 := hr.mono (Nat.le_succ (2 * n))
  have nd := sc_14.nd
  exact (b_cons (s_ite (t_not (t_of (m_isi (by rfl) (T.free 3 rfl) (by rfl) (T.free 4 rfl) bt_str (m_var 0)))) (b_cons (s_rse (by rfl) (T.er 0 rfl) (by rfl) hr tk (T.glo 20 rfl) (T.free 1 rfl) bt_super (by rfl) m_int (by rfl))
      b_nil) b_nil)
      (b_cons (s_ret (m_mth0 ⟨T.cls 2 rfl, T.mth 10 rfl, A 13 rfl, bd_13 T⟩ hr0 tk (m_new ⟨T.mkr 2 rfl, T.glo 19 rfl, A 2 rfl, bd_2 T⟩ hr tk (by rfl) (a_cons (m_var 0) a_nil))))
      b_nil))
theorem ok_15 (T : Txt tell prog w K mg) (A : AllOk prog w K mg base env n ks) : OkF prog w K mg base env (n + 1) (("nested_rows", none), ["rows", "made"]) := by
  refine fn_ok (k := 2 * n + 1) (d := c15) (N := ["rows", "made", "found", "row", "items"]) (T.f 15 d15 rfl) sc_15 rfl rfl rfl fun cdv A0 outer s H E hr tk pw => ?_
  have hr0 := hr.mono (Nat.le_succ (2 * n))
  have nd := sc_15.nd
  exact (b_cons (s_asg nd (by rfl) (by first | exact .inl rfl | exact .inr rfl) (m_dd1 (hu_of hr) (m_tup a_nil) (m_nwl a_nil)))
      (b_cons (s_for pw (by rfl) (i_seq (m_rev (m_var 0))) (g_name nd (by rfl) (by first | exact .inl rfl | exact .inr rfl)) (b_cons (s_asg nd (by rfl) (by first | exact .inl rfl | exact .inr rfl) (m_popd (hu_of hr) (m_var 2) (m_att T.hC (m_var 3)) (m_nwl a_nil) ⟨by rfl, by rfl, by rfl, by rfl⟩))
      (b_cons (s_exp (m_append (m_setd (hu_of hr) (m_var 2) (m_slc (m_att T.hC (m_var 3)) p_none (p_some (m_neg m_int))) (m_nwl a_nil) ⟨by rfl, by rfl, by rfl, by rfl⟩) (m_cav 1 (A 16 rfl) hr0 tk (by rfl) (kp_16 T) (bd_16 T) (a_cons (m_var 3) (a_cons (m_bltT call_tupleM (by rfl) (T.free 5 rfl) bt_tuple (a_cons (m_rev (m_var 4)) a_nil)) a_nil)))))
      b_nil)))
      (b_cons (s_ret (m_bltT call_tupleM (by rfl) (T.free 5 rfl) bt_tuple (a_cons (m_rev (m_dix (hu_of hr) (m_var 2) (m_tup a_nil) (fun _ _ => by rfl))) a_nil)))
      b_nil)))
theorem ok_16 (T : Txt tell prog w K mg) (A : AllOk prog w K mg base env n ks) : OkF prog w K mg base env (n + 1) (("plain_item", none), ["row", "items"]) := by
  refine fn_ok (k := 2 * n + 1) (d := c16) (N := ["row", "items"]) (T.f 16 d16 rfl) sc_16 rfl rfl rfl fun cdv A0 outer s H E hr tk pw => ?_
  have hr0 := hr.mono (Nat.le_succ (2 * n))
  have nd := sc_16.nd
  exact (b_cons (s_ite (t_cmp hr.units (m_att T.hC (m_var 0)) m_str (by rfl)) (b_cons (s_ret (m_tup (a_cons m_str a_nil)))
      b_nil) b_nil)
      (b_cons (s_ite (t_cmp hr.units (m_att T.hC (m_var 0)) (m_tup (a_cons m_str (a_cons m_str a_nil))) (by rfl)) (b_cons (s_ret (m_tup (a_cons (m_att T.hC (m_var 0)) (a_cons (m_att T.hC (m_var 0)) a_nil))))
      b_nil) b_nil)
      (b_cons (s_ite (t_cmp hr.units (m_att T.hC (m_var 0)) m_str (by rfl)) (b_cons (s_ret (m_tup (a_cons m_str (a_cons (m_att T.hC (m_var 0)) (a_cons (m_var 1) a_nil)))))
      b_nil) b_nil)
      (b_cons (s_ret (m_tup (a_cons (m_att T.hC (m_var 0)) (a_cons (m_var 1) a_nil))))
      b_nil))))
theorem ok_17 (T : Txt tell prog w K mg) (A : AllOk prog w K mg base env n ks) : OkF prog w K mg base env (n + 1) (("plain_of", none), ["text"]) := by
  refine fn_ok (k := 2 * n + 1) (d := c17) (N := ["text"]) (T.f 17 d17 rfl) sc_17 rfl rfl rfl fun cdv A0 outer s H E hr tk pw => ?_
  have hr0 := hr.mono (Nat.le_succ (2 * n))
  have nd := sc_17.nd
  exact (b_cons (s_ret (m_cal (A 15 rfl) hr0 tk (by rfl) (T.glo 1 rfl) (kp_15 T) (bd_15 T) (a_cons (m_cal (A 14 rfl) hr0 tk (by rfl) (T.glo 0 rfl) (kp_14 T) (bd_14 T) (a_cons (m_var 0) a_nil)) (a_cons (m_fun (by rfl) (T.glo 2 rfl)) a_nil))))
      b_nil)
theorem ok_18 (T : Txt tell prog w K mg) (A : AllOk prog w K mg base env n ks) : OkF prog w K mg base env (n + 1) (("is_text", none), ["value"]) := by
  refine fn_ok (k := 2 * n + 1) (d := c18) (N := ["value"]) (T.f 18 d18 rfl) sc_18 rfl rfl rfl fun cdv A0 outer s H E hr tk pw => ?_
  have hr0 := hr.mono (Nat.le_succ (2 * n))
  have nd := sc_18.nd
  exact (b_cons (s_try0 (by rfl) (by rfl) tk (fun _ _ _ tk1 pw1 => (b_cons (s_exp (m_cal (A 14 rfl) hr0 tk1 (by rfl) (T.glo 0 rfl) (kp_14 T) (bd_14 T) (a_cons (m_var 0) a_nil)))
      b_nil)) (mh0_bl T.hS (by rfl) (T.glo 20 rfl) mh0_nil))
      (b_cons (s_ret m_bl)
      b_nil))
theorem ok_19 (T : Txt tell prog w K mg) (A : AllOk prog w K mg base env n ks) : OkF prog w K mg base env (n + 1) (("_law_pool", none), ["_law_script", "_law_k"]) := by
  refine fn_ok (k := 2 * n + 1) (d := c19) (N := ["_law_script", "_law_k", "_law_cell", "_law_big", "_law_mixed"]) (T.f 19 d19 rfl) sc_19 rfl rfl rfl fun cdv A0 outer s H E hr tk pw => ?_
  have hr0 := hr.mono (Nat.le_succ (2 * n))
  have nd := sc_19.nd
  exact (b_cons (s_asg nd (by rfl) (by first | exact .inl rfl | exact .inr rfl) m_int)
      (b_cons (s_ite (t_cmp hr.units (m_var 1) (m_bltB call_lenM (by rfl) (T.free 0 rfl) bt_len (a_cons (m_var 0) a_nil)) (by rfl)) (b_cons (s_asg nd (by rfl) (by first | exact .inl rfl | exact .inr rfl) (m_idx T.hK (m_var 0) (m_var 1) (fun _ _ => by rfl)))
      b_nil) b_nil)
      (b_cons (s_asg nd (by rfl) (by first | exact .inl rfl | exact .inr rfl) (m_bltB (call_maxM (by rfl)) (by rfl) (T.free 6 rfl) bt_max (a_cons (m_bltT call_intM (by rfl) (T.free 2 rfl) bt_int (a_cons (m_var 2) a_nil)) (a_cons (m_bltT call_intM (by rfl) (T.free 2 rfl) bt_int (a_cons (m_bin (m_neg m_int) (m_var 2)) a_nil)) a_nil))))
      (b_cons (s_asg nd (by rfl) (by first | exact .inl rfl | exact .inr rfl) (m_bin (m_bltT call_intM (by rfl) (T.free 2 rfl) bt_int (a_cons (m_bin (m_bin (m_bin (m_bin (m_bin (m_bltT call_intM (by rfl) (T.free 2 rfl) bt_int (a_cons (m_var 3) a_nil)) m_int) (m_bin (m_bin m_int (m_var 1)) (m_var 1))) (m_bin m_int (m_var 1))) m_int) m_int) a_nil)) m_int))
      (b_cons (s_ret (m_nwl (a_cons (m_bin (m_var 3) (m_bltT call_intM (by rfl) (T.free 2 rfl) bt_int (a_cons (m_cmp hr.units (m_var 3) (m_bin m_int m_int) (by rfl)) a_nil))) (a_cons (m_var 4) a_nil))))
      b_nil)))))
theorem ok_20 (T : Txt tell prog w K mg) (A : AllOk prog w K mg base env n ks) : OkF prog w K mg base env (n + 1) (("_law_take", none), ["_law_pool_here", "_law_bound"]) := by
  refine fn_ok (k := 2 * n + 1) (d := c20) (N := ["_law_pool_here", "_law_bound", "_law_result"]) (T.f 20 d20 rfl) sc_20 rfl rfl rfl fun cdv A0 outer s H E hr tk pw => ?_
  have hr0 := hr.mono (Nat.le_succ (2 * n))
  have nd := sc_20.nd
  exact (b_cons (s_ite (t_cmp hr.units (m_idx T.hK (m_var 0) m_int (fun _ _ => by rfl)) m_int (by rfl)) (b_cons (s_asg nd (by rfl) (by first | exact .inl rfl | exact .inr rfl) (m_bin (m_bltT call_intM (by rfl) (T.free 2 rfl) bt_int (a_cons (m_idx T.hK (m_var 0) m_int (fun _ _ => by rfl)) a_nil)) (m_var 1)))
      (b_cons (s_sub (m_var 0) m_int (m_bin (m_idx T.hK (m_var 0) m_int (fun _ _ => by rfl)) (m_var 1)))
      (b_cons (s_ret (m_var 2))
      b_nil))) b_nil)
      (b_cons (s_sub (m_var 0) m_int (m_bin (m_bltT call_intM (by rfl) (T.free 2 rfl) bt_int (a_cons (m_bin (m_bin (m_idx T.hK (m_var 0) m_int (fun _ _ => by rfl)) m_int) m_int) a_nil)) m_int))
      (b_cons (s_ret (m_bin (m_bltT call_intM (by rfl) (T.free 2 rfl) bt_int (a_cons (m_bin (m_bin (m_bltT call_intM (by rfl) (T.free 2 rfl) bt_int (a_cons (m_bin (m_idx T.hK (m_var 0) m_int (fun _ _ => by rfl)) (m_idx T.hK (m_var 0) m_int (fun _ _ => by rfl))) a_nil)) m_int) m_int) a_nil)) (m_var 1)))
      b_nil)))
theorem ok_21 (T : Txt tell prog w K mg) (A : AllOk prog w K mg base env n ks) : OkF prog w K mg base env (n + 1) (("_law_one", none), ["_law_pool_here", "_law_things"]) := by
  refine fn_ok (k := 2 * n + 1) (d := c21) (N := ["_law_pool_here", "_law_things"]) (T.f 21 d21 rfl) sc_21 rfl rfl rfl fun cdv A0 outer s H E hr tk pw => ?_
  have hr0 := hr.mono (Nat.le_succ (2 * n))
  have nd := sc_21.nd
  exact (b_cons (s_ret (m_idx T.hK (m_var 1) (m_cal (A 20 rfl) hr0 tk (by rfl) (T.glo 6 rfl) (kp_20 T) (bd_20 T) (a_cons (m_var 0) (a_cons (m_bltB call_lenM (by rfl) (T.free 0 rfl) bt_len (a_cons (m_var 1) a_nil)) a_nil))) (fun _ _ => by rfl)))
      b_nil)
theorem ok_22 (T : Txt tell prog w K mg) (A : AllOk prog w K mg base env n ks) : OkF prog w K mg base env (n + 1) (("_law_item", none), ["_law_pool_here", "_law_deep", "_law_names"]) := by
  refine fn_ok (k := 2 * n + 1) (d := c22) (N := ["_law_pool_here", "_law_deep", "_law_names", "_law_way", "_law_items", "_law_turn"]) (T.f 22 d22 rfl) sc_22 rfl rfl rfl fun cdv A0 outer s H E hr tk pw => ?_
  have hr0 := hr.mono (Nat.le_succ (2 * n))
  have nd := sc_22.nd
  exact (b_cons (s_asg nd (by rfl) (by first | exact .inl rfl | exact .inr rfl) (m_cal (A 20 rfl) hr0 tk (by rfl) (T.glo 6 rfl) (kp_20 T) (bd_20 T) (a_cons (m_var 0) (a_cons m_int a_nil))))
      (b_cons (s_ite (PW.pt (t_or (t_cmp hr.units (m_var 1) m_int (by rfl)) (t_or1 (t_cmp hr.units (m_var 3) m_int (by rfl))))) (b_cons (s_ite (PW.pt (t_or (t_cmp hr.units (m_var 3) m_int (by rfl)) (t_or1 (t_cmp hr.units (m_var 2) (m_lst a_nil) (by rfl))))) (b_cons (s_ret (m_tup (a_cons m_str (a_cons (m_cal (A 20 rfl) hr0 tk (by rfl) (T.glo 6 rfl) (kp_20 T) (bd_20 T) (a_cons (m_var 0) (a_cons m_int a_nil))) a_nil))))
      b_nil) b_nil)
      (b_cons (s_ret (m_ife (t_cmp hr.units (m_var 3) m_int (by rfl)) (m_tup (a_cons m_str a_nil)) (m_tup (a_cons m_str (a_cons (m_cal (A 21 rfl) hr0 tk (by rfl) (T.glo 7 rfl) (kp_21 T) (bd_21 T) (a_cons (m_var 0) (a_cons (m_var 2) a_nil))) a_nil)))))
      b_nil)) b_nil)
      (b_cons (s_asg nd (by rfl) (by first | exact .inl rfl | exact .inr rfl) (m_bltT call_tupleM (by rfl) (T.free 5 rfl) bt_tuple (a_cons (m_lcp (by rfl) nd (i_rng (by rfl) (T.free 7 rfl) (m_cal (A 20 rfl) hr0 tk (by rfl) (T.glo 6 rfl) (kp_20 T) (bd_20 T) (a_cons (m_var 0) (a_cons m_int a_nil)))) (blkOk_by (own := [("_law_turn", 5)]) (by kernel_rfl)) (fun _ _ _ _ _ => (g_name nd (by rfl) (by first | exact .inl rfl | exact .inr rfl))) (fun _ _ _ _ _ => ts_nil) (fun _ _ _ _ _ => (m_cal (A 22 rfl) hr0 takesN (by rfl) (T.glo 8 rfl) (kp_22 T) (bd_22 T) (a_cons (m_var 0) (a_cons (m_bin (m_var 1) m_int) (a_cons (m_var 2) a_nil)))))) a_nil)))
      (b_cons (s_ite (t_cmp hr.units (m_var 3) m_int (by rfl)) (b_cons (s_ret (m_tup (a_cons (m_idx T.hK (m_lst (a_cons m_str (a_cons m_str (a_cons m_str a_nil)))) (m_bin (m_var 3) m_int) (fun _ _ => by rfl)) (a_cons (m_var 4) a_nil))))
      b_nil) b_nil)
      (b_cons (s_ret (m_tup (a_cons m_str (a_cons (m_cal (A 21 rfl) hr0 tk (by rfl) (T.glo 7 rfl) (kp_21 T) (bd_21 T) (a_cons (m_var 0) (a_cons (m_bin (m_var 2) (m_lst (a_cons m_str a_nil))) a_nil))) (a_cons (m_var 4) a_nil)))))
      b_nil)))))
theorem ok_23 (T : Txt tell prog w K mg) (A : AllOk prog w K mg base env n ks) : OkF prog w K mg base env (n + 1) (("_law_program", none), ["_law_pool_here", "_law_names"]) := by
  refine fn_ok (k := 2 * n + 1) (d := c23) (N := ["_law_pool_here", "_law_names", "_law_turn"]) (T.f 23 d23 rfl) sc_23 rfl rfl rfl fun cdv A0 outer s H E hr tk pw => ?_
  have hr0 := hr.mono (Nat.le_succ (2 * n))
  have nd := sc_23.nd
  exact (b_cons (s_ret (m_bltT call_tupleM (by rfl) (T.free 5 rfl) bt_tuple (a_cons (m_lcp (by rfl) nd (i_rng (by rfl) (T.free 7 rfl) (m_cal (A 20 rfl) hr0 tk (by rfl) (T.glo 6 rfl) (kp_20 T) (bd_20 T) (a_cons (m_var 0) (a_cons m_int a_nil)))) (blkOk_by (own := [("_law_turn", 2)]) (by kernel_rfl)) (fun _ _ _ _ _ => (g_name nd (by rfl) (by first | exact .inl rfl | exact .inr rfl))) (fun _ _ _ _ _ => ts_nil) (fun _ _ _ _ _ => (m_cal (A 22 rfl) hr0 takesN (by rfl) (T.glo 8 rfl) (kp_22 T) (bd_22 T) (a_cons (m_var 0) (a_cons m_int (a_cons (m_var 1) a_nil)))))) a_nil)))
      b_nil)
theorem ok_24 (T : Txt tell prog w K mg) (A : AllOk prog w K mg base env n ks) : OkF prog w K mg base env (n + 1) (("_law_word", none), ["_law_item_here"]) := by
  refine fn_ok (k := 2 * n + 1) (d := c24) (N := ["_law_item_here", "_law_words", "_law_one_here", "_law_opening"]) (T.f 24 d24 rfl) sc_24 rfl rfl rfl fun cdv A0 outer s H E hr tk pw => ?_
  have hr0 := hr.mono (Nat.le_succ (2 * n))
  have nd := sc_24.nd
  exact (b_cons (s_ite (t_cmp hr.units (m_idx T.hK (m_var 0) m_int (fun _ _ => by rfl)) m_str (by rfl)) (b_cons (s_ret (m_bltT (call_strM hr.units) (by rfl) (T.free 4 rfl) bt_str (a_cons (m_idx T.hK (m_var 0) m_int (fun _ _ => by rfl)) a_nil)))
      b_nil) b_nil)
      (b_cons (s_ite (t_cmp hr.units (m_idx T.hK (m_var 0) m_int (fun _ _ => by rfl)) m_str (by rfl)) (b_cons (s_ret m_str)
      b_nil) b_nil)
      (b_cons (s_ite (t_cmp hr.units (m_idx T.hK (m_var 0) m_int (fun _ _ => by rfl)) m_str (by rfl)) (b_cons (s_ret (m_idx T.hK (m_var 0) m_int (fun _ _ => by rfl)))
      b_nil) b_nil)
      (b_cons (s_asgLc (by rfl) nd (by rfl) (by rfl) (by rfl) (i_seq (m_idx T.hK (m_var 0) (m_neg m_int) (fun _ _ => by rfl))) (blkOk_by (own := [("_law_one_here", 2)]) (by kernel_rfl)) (fun _ _ _ _ _ => (g_name nd (by rfl) (by first | exact .inl rfl | exact .inr rfl))) (fun _ _ _ _ _ => ts_nil) (fun _ _ _ _ _ => (m_cal (A 24 rfl) hr0 takesN (by rfl) (T.glo 10 rfl) (kp_24 T) (bd_24 T) (a_cons (m_var 2) a_nil))))
      (b_cons (s_ite (t_cmp hr.units (m_idx T.hK (m_var 0) m_int (fun _ _ => by rfl)) m_str (by rfl)) (b_cons (s_ret (m_bin (m_bin m_str (m_join m_str (m_var 1))) m_str))
      b_nil) b_nil)
      (b_cons (s_asg nd (by rfl) (by first | exact .inl rfl | exact .inr rfl) (m_dget (hu_of hr) (m_dsp (pps_cons pe_str m_str (pps_cons pe_str m_str pps_nil))) (m_idx T.hK (m_var 0) m_int (fun _ _ => by rfl)) (m_bin (m_bin m_str (m_bltT (call_strM hr.units) (by rfl) (T.free 4 rfl) bt_str (a_cons (m_idx T.hK (m_var 0) m_int (fun _ _ => by rfl)) a_nil))) m_str) ⟨by rfl, by rfl, by rfl, by rfl⟩))
      (b_cons (s_ret (m_bin (m_join m_str (m_bin (m_lst (a_cons (m_var 3) a_nil)) (m_var 1))) m_str))
      b_nil)))))))
theorem ok_25 (T : Txt tell prog w K mg) (A : AllOk prog w K mg base env n ks) : OkF prog w K mg base env (n + 1) (("_law_text", none), ["_law_program_here"]) := by
  refine fn_ok (k := 2 * n + 1) (d := c25) (N := ["_law_program_here", "_law_item_here"]) (T.f 25 d25 rfl) sc_25 rfl rfl rfl fun cdv A0 outer s H E hr tk pw => ?_
  have hr0 := hr.mono (Nat.le_succ (2 * n))
  have nd := sc_25.nd
  exact (b_cons (s_ret (m_join m_str (m_lcp (by rfl) nd (i_seq (m_var 0)) (blkOk_by (own := [("_law_item_here", 1)]) (by kernel_rfl)) (fun _ _ _ _ _ => (g_name nd (by rfl) (by first | exact .inl rfl | exact .inr rfl))) (fun _ _ _ _ _ => ts_nil) (fun _ _ _ _ _ => (m_cal (A 24 rfl) hr0 takesN (by rfl) (T.glo 10 rfl) (kp_24 T) (bd_24 T) (a_cons (m_var 1) a_nil))))))
      b_nil)
theorem ok_26 (T : Txt tell prog w K mg) (A : AllOk prog w K mg base env n ks) : OkF prog w K mg base env (n + 1) (("_law_goes", none), ["_law_word_here", "_law_sign"]) := by
  refine fn_ok (k := 2 * n + 1) (d := c26) (N := ["_law_word_here", "_law_sign", "_law_letters", "_law_one_here"]) (T.f 26 d26 rfl) sc_26 rfl rfl rfl fun cdv A0 outer s H E hr tk pw => ?_
  have hr0 := hr.mono (Nat.le_succ (2 * n))
  have nd := sc_26.nd
  exact (b_cons (s_ite (t_cmp hr.units (m_idx T.hK (m_var 0) m_int (fun _ _ => by rfl)) m_str (by rfl)) (b_cons (s_ret (m_and (m_cmp hr.units (m_bltB call_lenM (by rfl) (T.free 0 rfl) bt_len (a_cons (m_var 0) a_nil)) m_int (by rfl)) (m_and (m_cmp hr.units (m_idx T.hK (m_var 0) m_int (fun _ _ => by rfl)) m_str (by rfl)) (m_one (m_cmp hr.units (m_var 1) m_str (by rfl))))))
      b_nil) b_nil)
      (b_cons (s_asg nd (by rfl) (by first | exact .inl rfl | exact .inr rfl) (m_bltB call_lenM (by rfl) (T.free 0 rfl) bt_len (a_cons (m_lcp (by rfl) nd (i_chr (m_var 0)) (blkOk_by (own := [("_law_one_here", 3)]) (by kernel_rfl)) (fun _ _ _ _ _ => (g_name nd (by rfl) (by first | exact .inl rfl | exact .inr rfl))) (fun _ _ _ _ _ => (ts_one (t_cmp hr.units (m_var 3) m_str (by rfl)))) (fun _ _ _ _ _ => (m_var 3))) a_nil)))
      (b_cons (s_ite (t_cmp hr.units (m_var 2) (m_bltB call_lenM (by rfl) (T.free 0 rfl) bt_len (a_cons (m_var 0) a_nil)) (by rfl)) (b_cons (s_ret (m_or (m_and (m_cmp hr.units (m_var 2) m_int (by rfl)) (m_one (m_cmp hr.units (m_var 1) m_str (by rfl)))) (m_one (m_cmp hr.units (m_var 1) m_str (by rfl)))))
      b_nil) b_nil)
      (b_cons (s_ret (m_and (m_cmp hr.units (m_bltB call_lenM (by rfl) (T.free 0 rfl) bt_len (a_cons (m_var 0) a_nil)) (m_bin (m_var 2) m_int) (by rfl)) (m_one (m_cmp hr.units (m_var 1) m_str (by rfl)))))
      b_nil))))
theorem ok_27 (T : Txt tell prog w K mg) (A : AllOk prog w K mg base env n ks) : OkF prog w K mg base env (n + 1) (("_law_wrong", none), ["_law_text_here"]) := by
  refine fn_ok (k := 2 * n + 1) (d := c27) (N := ["_law_text_here", "_law_open_ones", "_law_state", "_law_word_here", "_law_named", "_law_at", "_law_sign", "_law_begins"]) (T.f 27 d27 rfl) sc_27 rfl rfl rfl fun cdv A0 outer s H E hr tk pw => ?_
  have hr0 := hr.mono (Nat.le_succ (2 * n))
  have nd := sc_27.nd
  exact (b_cons (s_asgT (m_tup (a_cons m_int (a_cons m_str (a_cons m_str (a_cons m_bl a_nil))))) (g_tup (by rfl) (gs_cons nd (by rfl) (by first | exact .inl rfl | exact .inr rfl) (gs_cons nd (by rfl) (by first | exact .inl rfl | exact .inr rfl) (gs_cons nd (by rfl) (by first | exact .inl rfl | exact .inr rfl) (gs_cons nd (by rfl) (by first | exact .inl rfl | exact .inr rfl) gs_nil))))))
      (b_cons (s_for pw (by rfl) (i_rng (by rfl) (T.free 7 rfl) (m_bltB call_lenM (by rfl) (T.free 0 rfl) bt_len (a_cons (m_var 0) a_nil))) (g_name nd (by rfl) (by first | exact .inl rfl | exact .inr rfl)) (b_cons (s_asg nd (by rfl) (by first | exact .inl rfl | exact .inr rfl) (m_idx T.hK (m_var 0) (m_var 5) (fun _ _ => by rfl)))
      (b_cons (s_ite (PW.pt (t_and (t_cmp hr.units (m_var 2) m_str (by rfl)) (t_and1 (t_of (m_cal (A 26 rfl) hr0 tk (by rfl) (T.glo 12 rfl) (kp_26 T) (bd_26 T) (a_cons (m_var 3) (a_cons (m_var 6) a_nil))))))) (b_cons (s_asg nd (by rfl) (by first | exact .inl rfl | exact .inr rfl) (m_bin (m_var 3) (m_var 6)))
      (b_cons s_cnt
      b_nil)) b_nil)
      (b_cons (s_asg nd (by rfl) (by first | exact .inl rfl | exact .inr rfl) (m_ife (t_cmp hr.units (m_var 2) m_str (by rfl)) m_str (m_var 2)))
      (b_cons (s_asg nd (by rfl) (by first | exact .inl rfl | exact .inr rfl) (m_cmp hr.units (m_var 2) (m_tup (a_cons m_str (a_cons m_str (a_cons m_str (a_cons m_str a_nil))))) (by rfl)))
      (b_cons (s_ite (PW.pt (t_and (t_of (m_var 7)) (t_and1 (t_cmp hr.units (m_var 6) m_str (by rfl))))) (b_cons (s_asg nd (by rfl) (by first | exact .inl rfl | exact .inr rfl) (m_and (m_cmp hr.units (m_var 2) m_str (by rfl)) (m_one (m_cmp hr.units (m_var 6) m_str (by rfl)))))
      (b_cons (s_par (by rfl) nd (by rfl) (by rfl) (by decide) (by rfl) (by rfl) (a_cons m_str (a_cons (m_var 6) a_nil)) (by rfl))
      b_nil)) (b_cons (s_ite (PW.pt (t_and (t_of (m_var 7)) (t_and1 (t_cmp hr.units (m_var 6) m_str (by rfl))))) (b_cons (s_par3 (by rfl) nd (by rfl) (by rfl) (by rfl) (by decide) (by decide) (by decide) (by rfl) (by rfl) (by rfl) (a_cons m_str (a_cons m_bl (a_cons (m_bin (m_var 1) m_int) a_nil))) (by rfl))
      b_nil) (b_cons (s_ite (PW.pt (t_or (PW.pt (t_and (t_cmp hr.units (m_var 2) m_str (by rfl)) (t_and1 (t_cmp hr.units (m_var 6) m_str (by rfl))))) (t_or1 (PW.pt (t_and (t_cmp hr.units (m_var 2) m_str (by rfl)) (t_and1 (t_cmp hr.units (m_var 6) m_str (by rfl)))))))) (b_cons (s_asg nd (by rfl) (by first | exact .inl rfl | exact .inr rfl) m_str)
      b_nil) (b_cons (s_ite (PW.pt (t_and (t_cmp hr.units (m_var 6) m_str (by rfl)) (t_and (t_cmp hr.units (m_var 1) m_int (by rfl)) (t_and1 (t_cmp hr.units (m_var 2) (m_tup (a_cons m_str (a_cons m_str (a_cons m_str a_nil)))) (by rfl)))))) (b_cons (s_par3 (by rfl) nd (by rfl) (by rfl) (by rfl) (by decide) (by decide) (by decide) (by rfl) (by rfl) (by rfl) (a_cons m_str (a_cons m_bl (a_cons (m_bin (m_var 1) m_int) a_nil))) (by rfl))
      b_nil) (b_cons (s_ite (PW.pt (t_and (t_cmp hr.units (m_var 6) m_str (by rfl)) (t_and1 (t_cmp hr.units (m_var 2) (m_tup (a_cons m_str (a_cons m_str a_nil))) (by rfl))))) (b_cons (s_par (by rfl) nd (by rfl) (by rfl) (by decide) (by rfl) (by rfl) (a_cons (m_ife (PW.pt (t_and (t_of (m_var 4)) (t_and1 (t_cmp hr.units (m_var 2) m_str (by rfl))))) m_str m_str) (a_cons m_bl a_nil)) (by rfl))
      b_nil) (b_cons (s_ret (m_var 5))
      b_nil))
      b_nil))
      b_nil))
      b_nil))
      b_nil))
      b_nil))))))
      (b_cons (s_ret (m_ife (PW.pt (t_or (t_cmp hr.units (m_var 1) m_int (by rfl)) (t_or1 (t_cmp hr.units (m_var 2) (m_tup (a_cons m_str (a_cons m_str a_nil))) (by rfl))))) (m_bltB call_lenM (by rfl) (T.free 0 rfl) bt_len (a_cons (m_var 0) a_nil)) m_non))
      b_nil)))
theorem ok_28 (T : Txt tell prog w K mg) (A : AllOk prog w K mg base env n ks) : OkF prog w K mg base env (n + 1) (("_law_told", none), ["_law_text_here"]) := by
  refine fn_ok (k := 2 * n + 1) (d := c28) (N := ["_law_text_here", "e"]) (T.f 28 d28 rfl) sc_28 rfl rfl rfl fun cdv A0 outer s H E hr tk pw => ?_
  have hr0 := hr.mono (Nat.le_succ (2 * n))
  have nd := sc_28.nd
  exact (b_cons (s_try (by rfl) (by rfl) nd tk (fun _ _ _ tk1 pw1 => (b_cons (s_ret (m_cal (A 17 rfl) hr0 tk1 (by rfl) (T.glo 3 rfl) (kp_17 T) (bd_17 T) (a_cons (m_var 0) a_nil)))
      b_nil)) (mh_cons T.hS (fun _ => sub_self) (by rfl) (T.glo 20 rfl) (by rfl) (by rfl) (hst_lst (has_cons ha_str (has_cons (ha_pay (T.er 0 rfl).xf (T.er 0 rfl).noN (by rfl)) has_nil))) mh_nil))
      b_nil)
theorem ok_29 (T : Txt tell prog w K mg) (A : AllOk prog w K mg base env n ks) : OkF prog w K mg base env (n + 1) (("_law_bent", none), ["_law_pool_here", "_law_text_here"]) := by
  refine fn_ok (k := 2 * n + 1) (d := c29) (N := ["_law_pool_here", "_law_text_here", "_law_at", "_law_way", "_law_sign"]) (T.f 29 d29 rfl) sc_29 rfl rfl rfl fun cdv A0 outer s H E hr tk pw => ?_
  have hr0 := hr.mono (Nat.le_succ (2 * n))
  have nd := sc_29.nd
  exact (b_cons (s_par (by rfl) nd (by rfl) (by rfl) (by decide) (by rfl) (by rfl) (a_cons (m_cal (A 20 rfl) hr0 tk (by rfl) (T.glo 6 rfl) (kp_20 T) (bd_20 T) (a_cons (m_var 0) (a_cons (m_bin (m_bltB call_lenM (by rfl) (T.free 0 rfl) bt_len (a_cons (m_var 1) a_nil)) m_int) a_nil))) (a_cons (m_cal (A 20 rfl) hr0 tk (by rfl) (T.glo 6 rfl) (kp_20 T) (bd_20 T) (a_cons (m_var 0) (a_cons m_int a_nil))) a_nil)) (by rfl))
      (b_cons (s_asg nd (by rfl) (by first | exact .inl rfl | exact .inr rfl) (m_cal (A 21 rfl) hr0 tk (by rfl) (T.glo 7 rfl) (kp_21 T) (bd_21 T) (a_cons (m_var 0) (a_cons (m_lst (a_cons m_str (a_cons m_str (a_cons m_str (a_cons m_str (a_cons m_str (a_cons m_str (a_cons m_str (a_cons m_str (a_cons m_str (a_cons m_str (a_cons m_str (a_cons m_str (a_cons m_str (a_cons m_str (a_cons m_str a_nil)))))))))))))))) a_nil))))
      (b_cons (s_ret (m_bin (m_bin (m_slc (m_var 1) p_none (p_some (m_var 2))) (m_ife (t_cmp hr.units (m_var 3) m_int (by rfl)) (m_var 4) m_str)) (m_slc (m_var 1) (p_some (m_bin (m_var 2) (m_bltT call_intM (by rfl) (T.free 2 rfl) bt_int (a_cons (m_cmp hr.units (m_var 3) m_int (by rfl)) a_nil)))) p_none)))
      b_nil)))
theorem ok_30 (T : Txt tell prog w K mg) (A : AllOk prog w K mg base env n ks) : OkF prog w K mg base env (n + 1) (("law", none), ["_law_script"]) := by
  refine fn_ok (k := 2 * n + 1) (d := c30) (N := ["_law_script", "_law_k", "_law_pool_here", "_law_program_here", "_law_text_here", "_law_turn", "_law_bent_here", "_law_told_here", "_law_wrong_here", "_law_odd"]) (T.f 30 d30 rfl) sc_30 rfl rfl rfl fun cdv A0 outer s H E hr tk pw => ?_
  have hr0 := hr.mono (Nat.le_succ (2 * n))
  have nd := sc_30.nd
  exact (b_cons (s_for pw (by rfl) (i_rng (by rfl) (T.free 7 rfl) (m_bltB (call_maxM (by rfl)) (by rfl) (T.free 6 rfl) bt_max (a_cons m_int (a_cons (m_bltB (call_minM (by rfl)) (by rfl) (T.free 8 rfl) bt_min (a_cons m_int (a_cons (m_bltB call_lenM (by rfl) (T.free 0 rfl) bt_len (a_cons (m_var 0) a_nil)) a_nil))) a_nil)))) (g_name nd (by rfl) (by first | exact .inl rfl | exact .inr rfl)) (b_cons (s_asg nd (by rfl) (by first | exact .inl rfl | exact .inr rfl) (m_cal (A 19 rfl) hr0 tk (by rfl) (T.glo 5 rfl) (kp_19 T) (bd_19 T) (a_cons (m_var 0) (a_cons (m_var 1) a_nil))))
      (b_cons (s_asg nd (by rfl) (by first | exact .inl rfl | exact .inr rfl) (m_cal (A 23 rfl) hr0 tk (by rfl) (T.glo 9 rfl) (kp_23 T) (bd_23 T) (a_cons (m_var 2) (a_cons (m_lst (a_cons m_str (a_cons m_str (a_cons m_str (a_cons m_str (a_cons m_str (a_cons m_str (a_cons m_str a_nil)))))))) a_nil))))
      (b_cons (s_asg nd (by rfl) (by first | exact .inl rfl | exact .inr rfl) (m_cal (A 25 rfl) hr0 tk (by rfl) (T.glo 11 rfl) (kp_25 T) (bd_25 T) (a_cons (m_var 3) a_nil)))
      (b_cons (s_ite (PW.pt (t_or (t_cmp hr.units (m_cal (A 27 rfl) hr0 tk (by rfl) (T.glo 13 rfl) (kp_27 T) (bd_27 T) (a_cons (m_var 4) a_nil)) m_non (by rfl)) (t_or (t_cmp hr.units (m_cal (A 17 rfl) hr0 tk (by rfl) (T.glo 3 rfl) (kp_17 T) (bd_17 T) (a_cons (m_var 4) a_nil)) (m_var 3) (by rfl)) (t_or1 (t_cmp hr.units (m_cal (A 18 rfl) hr0 tk (by rfl) (T.glo 4 rfl) (kp_18 T) (bd_18 T) (a_cons (m_var 4) a_nil)) m_bl (by rfl)))))) (b_cons (s_ret m_bl)
      b_nil) b_nil)
      (b_cons (s_for pw (by rfl) (i_rng (by rfl) (T.free 7 rfl) m_int) (g_name nd (by rfl) (by first | exact .inl rfl | exact .inr rfl)) (b_cons (s_asg nd (by rfl) (by first | exact .inl rfl | exact .inr rfl) (m_cal (A 29 rfl) hr0 tk (by rfl) (T.glo 15 rfl) (kp_29 T) (bd_29 T) (a_cons (m_var 2) (a_cons (m_var 4) a_nil))))
      (b_cons (s_ite (t_cmp hr.units (m_cal (A 20 rfl) hr0 tk (by rfl) (T.glo 6 rfl) (kp_20 T) (bd_20 T) (a_cons (m_var 2) (a_cons m_int a_nil))) m_int (by rfl)) (b_cons (s_asg nd (by rfl) (by first | exact .inl rfl | exact .inr rfl) (m_cal (A 29 rfl) hr0 tk (by rfl) (T.glo 15 rfl) (kp_29 T) (bd_29 T) (a_cons (m_var 2) (a_cons (m_var 6) a_nil))))
      b_nil) b_nil)
      (b_cons (s_par (by rfl) nd (by rfl) (by rfl) (by decide) (by rfl) (by rfl) (a_cons (m_cal (A 28 rfl) hr0 tk (by rfl) (T.glo 14 rfl) (kp_28 T) (bd_28 T) (a_cons (m_var 6) a_nil)) (a_cons (m_cal (A 27 rfl) hr0 tk (by rfl) (T.glo 13 rfl) (kp_27 T) (bd_27 T) (a_cons (m_var 6) a_nil)) a_nil)) (by rfl))
      (b_cons (s_ite (t_cmp hr.units (m_cal (A 18 rfl) hr0 tk (by rfl) (T.glo 4 rfl) (kp_18 T) (bd_18 T) (a_cons (m_var 6) a_nil)) (m_cmp hr.units (m_var 8) m_non (by rfl)) (by rfl)) (b_cons (s_ret m_bl)
      b_nil) b_nil)
      (b_cons (s_ite (PW.pt (t_and (t_cmp hr.units (m_var 8) m_non (by rfl)) (t_and1 (t_cmp hr.units (m_var 7) (m_lst (a_cons m_str (a_cons (m_var 8) a_nil))) (by rfl))))) (b_cons (s_ret m_bl)
      b_nil) b_nil)
      (b_cons (s_ite (PW.pt (t_and (t_cmp hr.units (m_var 8) m_non (by rfl)) (t_and1 (PW.pt (t_or (t_not (t_of (m_isi (by rfl) (T.free 3 rfl) (by rfl) (T.free 5 rfl) bt_tuple (m_var 7)))) (t_or1 (t_cmp hr.units (m_cal (A 25 rfl) hr0 tk (by rfl) (T.glo 11 rfl) (kp_25 T) (bd_25 T) (a_cons (m_var 7) a_nil)) (m_var 6) (by rfl)))))))) (b_cons (s_ret m_bl)
      b_nil) b_nil)
      b_nil)))))))
      (b_cons (s_for pw (by rfl) (i_seq (m_lst (a_cons m_non (a_cons m_int (a_cons (m_tup (a_cons m_str a_nil)) (a_cons (m_lst (a_cons m_str a_nil)) a_nil)))))) (g_name nd (by rfl) (by first | exact .inl rfl | exact .inr rfl)) (b_cons (s_ite (PW.pt (t_or (t_cmp hr.units (m_cal (A 18 rfl) hr0 tk (by rfl) (T.glo 4 rfl) (kp_18 T) (bd_18 T) (a_cons (m_var 9) a_nil)) m_bl (by rfl)) (t_or1 (t_cmp hr.units (m_cal (A 28 rfl) hr0 tk (by rfl) (T.glo 14 rfl) (kp_28 T) (bd_28 T) (a_cons (m_var 9) a_nil)) (m_lst (a_cons m_str (a_cons m_int a_nil))) (by rfl))))) (b_cons (s_ret m_bl)
      b_nil) b_nil)
      b_nil))
      b_nil)))))))
      (b_cons (s_ret m_bl)
      b_nil))
theorem all_ok (T : Txt tell prog w K mg) : ∀ n, AllOk prog w K mg base env n ks
  | 0 => ok_zero
  | n + 1 => have A := all_ok T n
    (ok_cons (ok_0 T A) (ok_cons (ok_1 T A) (ok_cons (ok_2 T A) (ok_cons (ok_3 T A) (ok_cons (ok_4 T A) (ok_cons (ok_5 T A) (ok_cons (ok_6 T A) (ok_cons (ok_7 T A) (ok_cons (ok_8 T A) (ok_cons (ok_9 T A) (ok_cons (ok_10 T A) (ok_cons (ok_11 T A) (ok_cons (ok_12 T A) (ok_cons (ok_13 T A) (ok_cons (ok_14 T A) (ok_cons (ok_15 T A) (ok_cons (ok_16 T A) (ok_cons (ok_17 T A) (ok_cons (ok_18 T A) (ok_cons (ok_19 T A) (ok_cons (ok_20 T A) (ok_cons (ok_21 T A) (ok_cons (ok_22 T A) (ok_cons (ok_23 T A) (ok_cons (ok_24 T A) (ok_cons (ok_25 T A) (ok_cons (ok_26 T A) (ok_cons (ok_27 T A) (ok_cons (ok_28 T A) (ok_cons (ok_29 T A) (ok_cons (ok_30 T A) ok_nil)))))))))))))))))))))))))))))))
end
end LawK67

namespace LawK67
open PySem L2 Mini
def env0 : Mini.Env := (tell0 []).env tab fuel
end LawK67

set_option Elab.async false
set_option linter.all false
set_option maxRecDepth 100000
set_option maxHeartbeats 4000000
namespace LawK67
namespace P
open PySem L2 Mini
local macro_rules | `(tactic| walk_at "ev") => `(tactic| first
  | ((with_reducible refine w_var (x := ?_) ?_ ?_); rotate_left 1; exact rfl)
  | with_reducible first | refine w_con ?_ | refine w_bin ?_ | refine w_cmp ?_ | refine w_idx ?_ | refine w_blt ?_ | refine w_nil ?_ | refine w_cons ?_ | refine w_att ?_ | refine w_cal ?_ | refine w_neg ?_ | refine w_not ?_ | refine w_and ?_ | refine w_or ?_ | refine w_chn ?_ | refine w_ife ?_ | refine w_slc ?_ | refine w_isi ?_ | refine w_som ?_ | refine w_non ?_ | refine w_star ?_ | refine w_dsp ?_ | refine w_bmt ?_ | refine w_mth ?_ | refine w_new ?_ | refine w_tup ?_ | refine w_lst ?_ | refine w_nwl ?_ | refine w_ndd ?_ | refine w_seq ?_ | refine w_rng ?_ | refine w_tno ?_ | refine w_tso ?_
  | refine v_cons ?_ | refine v_nil ?_ | refine v_asg ?_ | refine v_asgT ?_ | refine v_asgP ?_ | refine v_ret ?_ | refine v_retN ?_ | refine v_exp ?_ | refine v_ite ?_ | refine v_sat ?_ | refine v_sub ?_ | refine v_augA ?_ | refine v_for ?_ | refine v_rse ?_ | refine v_try ?_ | refine v_pas ?_ | refine v_cnt ?_
  | ((with_reducible refine w_glb (x := ?_) ?_ ?_); rotate_left 1; exact rfl) | ((with_reducible refine v_augV (z := ?_) ?_ ?_); rotate_left 1; exact rfl))
local macro_rules | `(tactic| walk_at "op") => `(tactic| refine ⟨_, rfl, ?_⟩)
local macro_rules | `(tactic| walk_at "sz") => `(tactic| refine ⟨szl (by first | decide | simp), ?_⟩)
local macro_rules | `(tactic| walk_at "go") => `(tactic| repeat first | walk_at "ev" | walk_at "op" | walk_at "sz")
theorem br_t {k : Bool} {A B : Prop} (h : k = true) (a : A) : if k = true then A else B := by rw [if_pos h]; exact a
theorem br_f {k : Bool} {A B : Prop} (h : k = false) (b : B) : if k = true then A else B := by rw [h, if_neg Bool.false_ne_true]; exact b
/-! ### the pool -/
def Good (M : Mem) (p : Nat) : Prop := ∃ a b : Int, M[p]? = some (.lst [.int a, .int b]) ∧ 0 ≤ a ∧ 0 ≤ b ∧ b < 2147483647
/-- only the cell p is changed, and stays good -/
def Upd (p : Nat) (M M' : Mem) : Prop := Good M' p ∧ ∃ c, M' = M.set p c
theorem ix0 {M : Mem} {p : Nat} {a b : Int} {kd} (h : M[p]? = some (.lst [.int a, .int b])) : idxV M kd (.ref p) (.int 0) = some (.int a) := by simp only [idxV, asL, h]; rfl
theorem ix1 {M : Mem} {p : Nat} {a b : Int} {kd} (h : M[p]? = some (.lst [.int a, .int b])) : idxV M kd (.ref p) (.int 1) = some (.int b) := by simp only [idxV, asL, h]; rfl
theorem st0 {M : Mem} {p : Nat} {a b : Int} {y : MV} (h : M[p]? = some (.lst [.int a, .int b])) : subV M (.ref p) (.int 0) y = some (M.set p (.lst [y, .int b])) := by simp only [subV, h]; rfl
theorem st1 {M : Mem} {p : Nat} {a b : Int} {y : MV} (h : M[p]? = some (.lst [.int a, .int b])) : subV M (.ref p) (.int 1) y = some (M.set p (.lst [.int a, y])) := by simp only [subV, h]; rfl
theorem md {M : Mem} {i j : Int} {Q : MV → Prop} (h : 0 < j) (q : Q (.int (i % j))) : Op (binV .Mod M (.int i) (.int j)) Q := ⟨_, by simp only [binV]; rw [if_pos h], q⟩
theorem fd {M : Mem} {i j : Int} {Q : MV → Prop} (h : 0 < j) (h2 : j.natAbs.log2 < 9000) (q : Q (.int (i / j))) : Op (binV .FloorDiv M (.int i) (.int j)) Q := ⟨_, by simp only [binV]; rw [if_pos ⟨h, h2⟩], q⟩
theorem ml {M : Mem} {i j : Int} {Q : MV → Prop} (h : i.natAbs.log2 + j.natAbs.log2 < 1000000 ∨ (0 ≤ j ∧ j ≤ 1)) (q : Q (.int (i * j))) : Op (binV .Mult M (.int i) (.int j)) Q := ⟨_, by simp only [binV]; rw [if_pos h], q⟩
theorem lg {i : Int} {k : Nat} (h0 : 0 ≤ i) (h : i < 2 ^ k) (hk : 0 < k) : i.natAbs.log2 < k := PySem.Flt.log2_lt_of hk (by
  have : (i.natAbs : Int) < 2 ^ k := by rw [Int.natAbs_of_nonneg h0]; exact h
  exact_mod_cast this)
theorem take_ok (n : Nat) {M : Mem} {p : Nat} {t : Int} {E : Str → MV → Mem → Prop} (h : Good M p) (h1 : 1 ≤ t) (h2 : t < 2 ^ 40) : Is (evF env0 (n + 1) ("_law_take", none) [.ref p, .int t] M) (fun v M' => (∃ r, v = .int r ∧ 0 ≤ r ∧ r < t) ∧ Upd p M M') E := by
  obtain ⟨a, b, hp, ha, hb, hb2⟩ := h
  have ht : t.natAbs.log2 < 9000 := Nat.lt_trans (lg (k := 40) (by omega) h2 (by decide)) (by decide)
  refine w_body (d := c20) rfl rfl ?_
  dsimp only [c20, Mini.start]
  refine v_cons (v_ite (w_cmp (w_idx (w_var rfl (w_con ⟨_, ix0 hp, w_con ⟨_, rfl, ⟨_, rfl, ?_⟩⟩⟩)))))
  by_cases c : 0 < a
  · refine br_t (decide_eq_true c) ?_
    walk_at "go"
    refine ⟨_, ix0 hp, ?_⟩
    walk_at "go"
    refine md (by omega) ?_
    walk_at "go"
    refine ⟨_, ix0 hp, ?_⟩
    walk_at "go"
    refine fd (by omega) ht ?_
    walk_at "go"
    refine ⟨_, st0 hp, ?_⟩
    walk_at "go"
    refine isf_len set_len ⟨⟨_, rfl, Int.emod_nonneg _ (by omega), Int.emod_lt_of_pos _ (by omega)⟩, ⟨_, _, get_set hp, Int.ediv_nonneg ha (by omega), hb, hb2⟩, _, rfl⟩
  · refine br_f (decide_eq_false c) ?_
    have hm : 0 ≤ (b * 39373 + 7) % 2147483647 := Int.emod_nonneg _ (by decide)
    have hm2 : (b * 39373 + 7) % 2147483647 < 2147483647 := Int.emod_lt_of_pos _ (by decide)
    walk_at "go"
    refine ⟨_, ix1 hp, ?_⟩
    walk_at "go"
    refine ml (.inl (Nat.lt_trans (Nat.add_lt_add (lg (k := 31) hb (by omega) (by decide)) (lg (i := 39373) (k := 31) (by decide) (by decide) (by decide))) (by decide))) ?_
    walk_at "go"
    refine ⟨_, st1 hp, ?_⟩
    have hp2 := get_set (c := .lst [.int a, .int ((b * 39373 + 7) % 2147483647)]) hp
    walk_at "go"
    refine ⟨_, ix1 hp2, ?_⟩
    walk_at "go"
    refine ⟨_, ix1 hp2, ?_⟩
    refine ml (.inl (Nat.lt_trans (Nat.add_lt_add (lg (k := 31) hm (by omega) (by decide)) (lg (k := 31) hm (by omega) (by decide))) (by decide))) ?_
    walk_at "go"
    refine md (by omega) ?_
    walk_at "go"
    refine isf_len set_len ⟨⟨_, rfl, Int.emod_nonneg _ (by omega), Int.emod_lt_of_pos _ (by omega)⟩, ⟨_, _, hp2, ha, hm, hm2⟩, _, rfl⟩
theorem b01 {p : Prop} [Decidable p] : (0 : Int) ≤ (if p then 1 else 0) ∧ (if p then (1 : Int) else 0) ≤ 1 := by split <;> decide
theorem szl {n : Nat} (h : n ≤ 100000) : n ≤ sizeLine := Nat.le_trans h (by decide)
theorem pool_rest (k : Nat) (hk : k < 4) (z : Int) : 0 ≤ (if (-1 - z) > z then (-1 - z) else z) := by split <;> omega
theorem pool_ok (n : Nat) {M : Mem} {ns : List Int} {k : Nat} {E : Str → MV → Mem → Prop} (hk : k < 4) : Is (evF env0 (n + 1) ("_law_pool", none) [.scr ns, .int (k : Int)] M) (fun v M' => ∃ a b : Int, v = .ref M.length ∧ M' = M ++ [.lst [.int a, .int b]] ∧ 0 ≤ a ∧ 0 ≤ b ∧ b < 2147483647) E := by
  refine w_body (d := c19) rfl rfl ?_
  dsimp only [c19, Mini.start]
  walk_at "go"
  have hkk : (0 : Int) ≤ 4093 * (k : Int) * (k : Int) ∧ 4093 * (k : Int) * (k : Int) < 40000 := match k, hk with
    | 0, _ => by decide
    | 1, _ => by decide
    | 2, _ => by decide
    | 3, _ => by decide
  have lk : (k : Int).natAbs.log2 < 3 := lg (k := 3) (by omega) (by omega) (by decide)
  by_cases c : (k : Int) < (ns.length : Int)
  · refine br_t (decide_eq_true c) ?_
    walk_at "go"
    refine ⟨_, by simp only [idxV]; rw [atI_nat (List.getElem?_eq_getElem (by omega))]; rfl, ?_⟩
    walk_at "go"
    have h0 := pool_rest k hk (ns[k]'(by omega))
    refine ml (.inl (Nat.lt_trans (Nat.add_lt_add (lg (i := 4093) (k := 20) (by decide) (by decide) (by decide)) lk) (by decide))) ?_
    walk_at "go"
    refine ml (.inl (Nat.lt_trans (Nat.add_lt_add (lg (k := 20) (by omega) (by omega) (by decide)) lk) (by decide))) ?_
    walk_at "go"
    refine ml (.inl (Nat.lt_trans (Nat.add_lt_add (lg (i := 29) (k := 20) (by decide) (by decide) (by decide)) lk) (by decide))) ?_
    walk_at "go"
    refine ml (.inl (Nat.lt_trans (Nat.add_lt_add (lg (k := 40) (by omega) (by omega) (by decide)) (lg (i := 48271) (k := 20) (by decide) (by decide) (by decide))) (by decide))) ?_
    walk_at "go"
    refine ml (.inr b01) ?_
    walk_at "go"
    refine ⟨szl (by simp), isf_keep ⟨_, _, rfl, rfl, ?_, Int.emod_nonneg _ (by decide), Int.emod_lt_of_pos _ (by decide)⟩⟩
    exact Int.mul_nonneg h0 b01.1
  · refine br_f (decide_eq_false c) ?_
    walk_at "go"
    have h0 := pool_rest k hk 0
    refine ml (.inl (Nat.lt_trans (Nat.add_lt_add (lg (i := 4093) (k := 20) (by decide) (by decide) (by decide)) lk) (by decide))) ?_
    walk_at "go"
    refine ml (.inl (Nat.lt_trans (Nat.add_lt_add (lg (k := 20) (by omega) (by omega) (by decide)) lk) (by decide))) ?_
    walk_at "go"
    refine ml (.inl (Nat.lt_trans (Nat.add_lt_add (lg (i := 29) (k := 20) (by decide) (by decide) (by decide)) lk) (by decide))) ?_
    walk_at "go"
    refine ml (.inl (Nat.lt_trans (Nat.add_lt_add (lg (k := 40) (by omega) (by omega) (by decide)) (lg (i := 48271) (k := 20) (by decide) (by decide) (by decide))) (by decide))) ?_
    walk_at "go"
    refine ⟨szl (by simp), isf_keep ⟨_, _, rfl, rfl, ?_, Int.emod_nonneg _ (by decide), Int.emod_lt_of_pos _ (by decide)⟩⟩
    exact Int.mul_nonneg h0 b01.1
theorem one_ok (n : Nat) {M : Mem} {p : Nat} {xs : List MV} {E : Str → MV → Mem → Prop} (h : Good M p) (h1 : xs ≠ []) (h2 : xs.length ≤ 1000) : Is (evF env0 (n + 2) ("_law_one", none) [.ref p, .lst xs] M) (fun v M' => v ∈ xs ∧ Upd p M M') E := by
  have hl : 1 ≤ xs.length := List.length_pos_iff.mpr h1
  refine w_body (d := c21) rfl rfl ?_
  dsimp only [c21, Mini.start]
  walk_at "go"
  refine (take_ok n h (by omega) (by omega)).imp fun v M' ⟨⟨r, e, h3, h4⟩, u⟩ => ?_
  subst e
  obtain ⟨k, rfl⟩ := Int.eq_ofNat_of_zero_le h3
  have hr : k < xs.length := by omega
  refine ⟨xs[k]'hr, ?_, ?_⟩
  · simp only [idxV, asL, Option.bind_some]
    exact atI_nat (List.getElem?_eq_getElem hr)
  · obtain ⟨u1, c, rfl⟩ := u
    exact isf_len set_len ⟨List.getElem_mem hr, u1, c, rfl⟩
end P
end LawK67

set_option Elab.async false
set_option linter.all false
set_option maxRecDepth 100000
set_option maxHeartbeats 4000000
namespace LawK67
namespace P
open PySem L2 Mini
local macro_rules | `(tactic| walk_at "ev") => `(tactic| first
  | ((with_reducible refine w_var (x := ?_) ?_ ?_); rotate_left 1; exact rfl)
  | with_reducible first | refine w_con ?_ | refine w_bin ?_ | refine w_cmp ?_ | refine w_idx ?_ | refine w_blt ?_ | refine w_nil ?_ | refine w_cons ?_ | refine w_att ?_ | refine w_cal ?_ | refine w_neg ?_ | refine w_not ?_ | refine w_and ?_ | refine w_or ?_ | refine w_chn ?_ | refine w_ife ?_ | refine w_slc ?_ | refine w_isi ?_ | refine w_som ?_ | refine w_non ?_ | refine w_star ?_ | refine w_dsp ?_ | refine w_bmt ?_ | refine w_mth ?_ | refine w_new ?_ | refine w_tup ?_ | refine w_lst ?_ | refine w_nwl ?_ | refine w_ndd ?_ | refine w_seq ?_ | refine w_rng ?_ | refine w_tno ?_ | refine w_tso ?_
  | refine v_cons ?_ | refine v_nil ?_ | refine v_asg ?_ | refine v_asgT ?_ | refine v_asgP ?_ | refine v_ret ?_ | refine v_retN ?_ | refine v_exp ?_ | refine v_ite ?_ | refine v_sat ?_ | refine v_sub ?_ | refine v_augA ?_ | refine v_for ?_ | refine v_rse ?_ | refine v_try ?_ | refine v_pas ?_ | refine v_cnt ?_
  | ((with_reducible refine w_glb (x := ?_) ?_ ?_); rotate_left 1; exact rfl) | ((with_reducible refine v_augV (z := ?_) ?_ ?_); rotate_left 1; exact rfl))
local macro_rules | `(tactic| walk_at "op") => `(tactic| refine ⟨_, rfl, ?_⟩)
local macro_rules | `(tactic| walk_at "sz") => `(tactic| refine ⟨szl (by first | decide | simp), ?_⟩)
local macro_rules | `(tactic| walk_at "go") => `(tactic| repeat first | walk_at "ev" | walk_at "op" | walk_at "sz")
theorem eq_int {M : Mem} {i j : Int} : cmpV .Eq M (.int i) (.int j) = some (i == j) := rfl
/-! ### items -/
inductive Hd where
  | block | sum | prod
  | lt (s : Str)
inductive It where
  | num (n : Nat)
  | lost
  | use (s : Str)
  | grp (h : Hd) (xs : List It)
def nm : List Str := ["a", "b", "ab", "x1", "b12", "zzzz", "q99"]
mutual
def mv : It → MV
  | .num n => .tup [.str "number", .int (n : Int)]
  | .lost => .tup [.str "lost"]
  | .use s => .tup [.str "use", .str s]
  | .grp .block xs => .tup [.str "block", .tup (mvs xs)]
  | .grp .sum xs => .tup [.str "sum", .tup (mvs xs)]
  | .grp .prod xs => .tup [.str "product", .tup (mvs xs)]
  | .grp (.lt s) xs => .tup [.str "let", .str s, .tup (mvs xs)]
def mvs : List It → List MV
  | [] => []
  | x :: xs => mv x :: mvs xs
end
def HdOk : Hd → Prop
  | .lt s => s ∈ nm
  | _ => True
inductive Wf : Nat → It → Prop
  | num {d n : Nat} : n < 100 → Wf d (.num n)
  | lost {d : Nat} : Wf d .lost
  | use {d : Nat} {s : Str} : s ∈ nm → Wf d (.use s)
  | grp {d : Nat} {h : Hd} {xs : List It} : HdOk h → xs.length ≤ 3 → (∀ x ∈ xs, Wf d x) → Wf (d + 1) (.grp h xs)
theorem upd_refl {M : Mem} {p : Nat} (h : Good M p) : Upd p M M := by
  obtain ⟨a, b, e, h1⟩ := id h
  obtain ⟨hl, e2⟩ := List.getElem?_eq_some_iff.mp e
  exact ⟨h, M[p], (List.set_getElem_self hl).symm⟩
theorem Upd.trans {M M1 M2 : Mem} {p : Nat} (a : Upd p M M1) (b : Upd p M1 M2) : Upd p M M2 := by
  obtain ⟨_, c, rfl⟩ := a
  obtain ⟨g, c2, rfl⟩ := b
  exact ⟨g, c2, by rw [List.set_set]⟩
theorem Upd.len {M M1 : Mem} {p : Nat} (a : Upd p M M1) : M1.length = M.length := by
  obtain ⟨_, c, rfl⟩ := a
  exact set_len
theorem map_inv {f : MV → Mem → Res (Option MV)} {E : Str → MV → Mem → Prop} (P : MV → Prop) (I : Mem → Prop) : ∀ (xs : List MV), (∀ x ∈ xs, ∀ M, I M → Is (f x M) (fun o M1 => ∃ y, o = some y ∧ P y ∧ I M1) E) → ∀ M, I M → Is (mapR f xs M) (fun ys M1 => ys.length = xs.length ∧ (∀ y ∈ ys, P y) ∧ I M1) E
  | [], h, M, i => map_nil ⟨rfl, fun _ z => (nomatch z), i⟩
  | x :: xs, h, M, i => map_cons ((h x List.mem_cons_self M i).imp fun o M1 ⟨y, e, hy, i1⟩ => (map_inv P I xs (fun z hz => h z (List.mem_cons_of_mem _ hz)) M1 i1).imp fun ys M2 ⟨h1, h2, i2⟩ => by
    subst e
    refine ⟨by simp [h1], fun z hz => ?_, i2⟩
    rcases List.mem_cons.mp hz with rfl | hz
    · exact hy
    · exact h2 z hz)
theorem is_calm {α : Type} {R : Res α} {Q : α → Mem → Prop} {E : Str → MV → Mem → Prop} (h : Is R Q fun _ _ _ => False) : Is (calm R) Q E := by
  cases R with
  | ok a M => exact is_ok rfl (ok_is h)
  | exn c x M => exact (exn_is h : False).elim
  | stuck => exact stuck_is h
theorem lc_one {g : Cfg} {r2 : Rho} {a : CE} {M : Mem} {Q : Option MV → Mem → Prop} {E : Str → MV → Mem → Prop} (h : Is (evE g r2 a M) (fun y M1 => Q (some y) M1) fun _ _ _ => False) :
    Is (calm ((evT g r2 .none M).bind fun b M3 => if b then (evE g r2 a M3).bind fun y M4 => .ok (some y) M4 else .ok none M3)) Q E := by
  refine is_calm (is_bind (w_tno ?_))
  rw [if_pos rfl]
  exact is_bind (h.imp fun y M1 q => is_ok rfl q)
theorem its_of {d : Nat} : ∀ {ys : List MV}, (∀ y ∈ ys, ∃ it, y = mv it ∧ Wf d it) → ∃ xs, ys = mvs xs ∧ xs.length = ys.length ∧ ∀ x ∈ xs, Wf d x
  | [], _ => ⟨[], rfl, rfl, fun _ z => (nomatch z)⟩
  | y :: ys, h => by
    obtain ⟨it, rfl, hw⟩ := h y List.mem_cons_self
    obtain ⟨xs, rfl, hl, hx⟩ := its_of fun z hz => h z (List.mem_cons_of_mem _ hz)
    refine ⟨it :: xs, rfl, by simp [hl], fun x hx2 => ?_⟩
    rcases List.mem_cons.mp hx2 with rfl | hx2
    · exact hw
    · exact hx x hx2
abbrev nmv : MV := .lst [.str "a", .str "b", .str "ab", .str "x1", .str "b12", .str "zzzz", .str "q99"]
theorem nm_mem {v : MV} (h : v ∈ ([.str "a", .str "b", .str "ab", .str "x1", .str "b12", .str "zzzz", .str "q99"] : List MV)) : ∃ s ∈ nm, v = .str s := by
  have : v ∈ nm.map MV.str := h
  obtain ⟨s, hs, rfl⟩ := List.mem_map.mp this
  exact ⟨s, hs, rfl⟩
theorem nm_mem2 {v : MV} (h : v ∈ ([.str "a", .str "b", .str "ab", .str "x1", .str "b12", .str "zzzz", .str "q99", .str "b"] : List MV)) : ∃ s ∈ nm, v = .str s := by
  have : v ∈ (nm ++ [("b" : Str)]).map MV.str := h
  obtain ⟨s, hs, rfl⟩ := List.mem_map.mp this
  rcases List.mem_append.mp hs with hs | hs
  · exact ⟨s, hs, rfl⟩
  · obtain rfl := List.mem_singleton.mp hs
    exact ⟨_, by decide, rfl⟩
theorem nm_ne {M : Mem} : cmpV .Eq M nmv (.lst []) = some false := by kernel_rfl
theorem small_ok (n : Nat) {M : Mem} {p : Nat} {r : Int} {d : Nat} {r0 : Rho} {E : Str → MV → Mem → Prop} {Q : Flw → Mem → Prop} (hp : r0[0]? = some (some (.ref p))) (h2 : r0[2]? = some (some nmv)) (hr : r0[3]? = some (some (.int r))) (h : Good M p)
    (hq : ∀ it M', Wf d it → Upd p M M' → Q (.ret (mv it)) M') :
    Is (evB (env0.cfg (n + 2)) (.cons (.ite (.or (.cmp .Eq (.var 3) (.con (.int 3))) (.cmp .Eq (.var 2) (.lst .nil))) (.cons (.ret (.tup (.cons (.con (.str "number")) (.cons (.cal "_law_take" (.cons (.var 0) (.cons (.con (.int 100)) .nil))) .nil)))) .nil) .nil) (.cons (.ret (.ife (.cmp .Eq (.var 3) (.con (.int 2))) (.tup (.cons (.con (.str "lost")) .nil)) (.tup (.cons (.con (.str "use")) (.cons (.cal "_law_one" (.cons (.var 0) (.cons (.var 2) .nil))) .nil))))) .nil)) r0 M) Q E := by
  refine v_cons (v_ite (w_or (w_cmp (w_var hr (w_con ⟨_, eq_int, ⟨_, rfl, ?_⟩⟩)))))
  by_cases c : r = 3
  · refine br_t (beq_iff_eq.mpr c) ⟨_, rfl, br_t (beq_iff_eq.mpr c) ?_⟩
    refine v_cons (v_ret (w_tup (w_cons (w_con (w_cons (w_cal (w_cons (w_var hp (w_cons (w_con (w_nil ?_))))))))))) 
    refine (take_ok _ h (by decide) (by decide)).imp fun v M1 ⟨⟨r, e, h3, h4⟩, u⟩ => ?_
    subst e
    obtain ⟨k, rfl⟩ := Int.eq_ofNat_of_zero_le h3
    exact w_nil ⟨szl (by simp), hq (.num k) M1 (.num (by omega)) u⟩
  · refine br_f (by simpa using c) (w_cmp (w_var h2 (w_lst (w_nil ⟨szl (by simp), ⟨_, nm_ne, ⟨_, rfl, ?_⟩⟩⟩))))
    refine br_f rfl (v_nil (v_cons (v_ret (w_ife (w_cmp (w_var hr (w_con ⟨_, eq_int, ⟨_, rfl, ?_⟩⟩)))))))
    by_cases c2 : r = 2
    · refine br_t (beq_iff_eq.mpr c2) (w_tup (w_cons (w_con (w_nil ⟨szl (by simp), hq .lost M .lost (upd_refl h)⟩))))
    · refine br_f (by simpa using c2) (w_tup (w_cons (w_con (w_cons (w_cal (w_cons (w_var hp (w_cons (w_var h2 (w_nil ?_)))))))))) 
      refine (one_ok n h (by simp) (by simp)).imp fun v M1 ⟨hv, u⟩ => ?_
      obtain ⟨s, hs, rfl⟩ := nm_mem hv
      exact w_nil ⟨szl (by simp), hq (.use s) M1 (.use hs) u⟩
theorem ifl : ∀ (n : Nat) (lo : Int), (intsFrom lo n).length = n
  | 0, _ => rfl
  | n + 1, lo => by simp [Mini.intsFrom, ifl n]
theorem item_ok : ∀ (d n : Nat) {M : Mem} {p : Nat} {E : Str → MV → Mem → Prop}, Good M p → Is (evF env0 (n + d + 3) ("_law_item", none) [.ref p, .int (d : Int), nmv] M) (fun v M' => (∃ it, v = mv it ∧ Wf d it) ∧ Upd p M M') E := by
  intro d
  induction d with
  | zero =>
    intro n M p E h
    refine w_body (d := c22) rfl rfl ?_
    dsimp only [c22, Mini.start]
    refine v_cons (v_asg (w_cal (w_cons (w_var rfl (w_cons (w_con (w_nil ?_)))))))
    refine (take_ok _ h (by decide) (by decide)).imp fun v M1 ⟨⟨r, e, h3, h4⟩, u⟩ => ?_
    subst e
    refine v_cons (v_ite (w_or (w_cmp (w_var rfl (w_con ⟨_, rfl, ⟨_, rfl, br_t rfl ⟨_, rfl, br_t rfl ?_⟩⟩⟩)))))
    refine small_ok (d := 0) n rfl rfl rfl u.1 fun it M' hw u' => ?_
    exact isf_len (u.trans u').len ⟨⟨it, rfl, hw⟩, u.trans u'⟩
  | succ d ih =>
    intro n M p E h
    refine w_body (d := c22) rfl rfl ?_
    dsimp only [c22, Mini.start]
    refine v_cons (v_asg (w_cal (w_cons (w_var rfl (w_cons (w_con (w_nil ?_)))))))
    refine (take_ok _ h (by decide) (by decide)).imp fun v M1 ⟨⟨r, e, h3, h4⟩, u⟩ => ?_
    subst e
    refine v_cons (v_ite (w_or (w_cmp (w_var rfl (w_con ⟨_, eq_int, ⟨_, rfl, br_f ?_ ?_⟩⟩)))))
    · have : ((d + 1 : Nat) : Int) ≠ 0 := by omega
      simpa using this
    refine w_cmp (w_var rfl (w_con ⟨_, rfl, ⟨_, rfl, ?_⟩⟩))
    by_cases c4 : r < 4
    · refine br_t (decide_eq_true c4) ?_
      refine small_ok (d := d + 1) (n + d + 1) rfl rfl rfl u.1 fun it M' hw u' => ?_
      exact isf_len (u.trans u').len ⟨⟨it, rfl, hw⟩, u.trans u'⟩
    · refine br_f (decide_eq_false c4) (v_nil ?_)
      refine v_cons (v_asg (w_blt (w_cons (w_lcp (w_rng (w_cal (w_cons (w_var rfl (w_cons (w_con (w_nil ?_))))))))))) 
      refine (take_ok _ u.1 (by decide) (by decide)).imp fun v M2 ⟨⟨c, e, h5, h6⟩, u2⟩ => ?_
      subst e
      refine ⟨c, rfl, ⟨by omega, by omega⟩, ?_⟩
      refine (map_inv (fun v => ∃ it, v = mv it ∧ Wf d it) (fun M3 => Upd p M M3) _ (fun x hx M3 u3 => ?_) M2 (u.trans u2)).imp fun ys M3 ⟨hl, hy, u3⟩ => ?_
      · refine lc_one (w_cal (w_cons (w_var rfl (w_cons (w_bin (w_var rfl (w_con ⟨_, rfl, w_cons (w_var rfl (w_nil ?_))⟩)))))))
        have e1 : ((d + 1 : Nat) : Int) - 1 = (d : Int) := by omega
        rw [e1]
        exact (ih n u3.1).imp fun v M4 ⟨hv, u4⟩ => ⟨v, rfl, hv, u3.trans u4⟩
      · obtain ⟨xs, rfl, hx1, hx2⟩ := its_of hy
        have hx3 : xs.length ≤ 3 := by
          rw [hx1, hl, ifl]
          omega
        refine ⟨szl (by omega), w_nil ⟨_, rfl, ?_⟩⟩
        refine v_cons (v_ite (w_cmp (w_var rfl (w_con ⟨_, rfl, ⟨_, rfl, ?_⟩⟩))))
        have fin1 : ∀ (hd : Hd) (z : MV), HdOk hd → z = mv (.grp hd xs) → Is (fin false M (.ok z M3)) (fun v M' => (∃ it, v = mv it ∧ Wf (d + 1) it) ∧ Upd p M M') E := fun hd z ho e => isf_len u3.len ⟨⟨_, e, .grp ho hx3 hx2⟩, u3⟩
        by_cases c7 : r < 7
        · refine br_t (decide_eq_true c7) ?_
          have : r = 4 ∨ r = 5 ∨ r = 6 := by omega
          rcases this with rfl | rfl | rfl
          · walk_at "go"
            exact fin1 .block _ trivial rfl
          · walk_at "go"
            exact fin1 .sum _ trivial rfl
          · walk_at "go"
            exact fin1 .prod _ trivial rfl
        · refine br_f (decide_eq_false c7) (v_nil ?_)
          walk_at "go"
          refine (one_ok _ u3.1 (by simp) (by simp)).imp fun v M4 ⟨hv, u4⟩ => ?_
          obtain ⟨s, hs, rfl⟩ := nm_mem2 hv
          walk_at "go"
          exact isf_len (u3.trans u4).len ⟨⟨.grp (.lt s) xs, rfl, .grp hs hx3 hx2⟩, u3.trans u4⟩
theorem program_ok (n : Nat) {M : Mem} {p : Nat} {E : Str → MV → Mem → Prop} (h : Good M p) : Is (evF env0 (n + 7) ("_law_program", none) [.ref p, nmv] M) (fun v M' => (∃ xs : List It, v = .tup (mvs xs) ∧ xs.length ≤ 4 ∧ ∀ x ∈ xs, Wf 3 x) ∧ Upd p M M') E := by
  refine w_body (d := c23) rfl rfl ?_
  dsimp only [c23, Mini.start]
  refine v_cons (v_ret (w_blt (w_cons (w_lcp ?_))))
  walk_at "go"
  refine (take_ok _ h (by decide) (by decide)).imp fun v M2 ⟨⟨c, e, h5, h6⟩, u2⟩ => ?_
  subst e
  refine ⟨c, rfl, ⟨by omega, by omega⟩, ?_⟩
  refine (map_inv (fun v => ∃ it, v = mv it ∧ Wf 3 it) (fun M3 => Upd p M M3) _ (fun x hx M3 u3 => ?_) M2 u2).imp fun ys M3 ⟨hl, hy, u3⟩ => ?_
  · refine lc_one ?_
    walk_at "go"
    exact (item_ok 3 n u3.1).imp fun v M4 ⟨hv, u4⟩ => ⟨v, rfl, hv, u3.trans u4⟩
  · obtain ⟨xs, rfl, hx1, hx2⟩ := its_of hy
    have hx3 : xs.length ≤ 4 := by
      rw [hx1, hl, ifl]
      omega
    exact ⟨szl (by omega), w_nil ⟨_, rfl, isf_len u3.len ⟨⟨xs, rfl, hx3, hx2⟩, u3⟩⟩⟩
end P
end LawK67

set_option Elab.async false
set_option linter.all false
set_option maxRecDepth 100000
set_option maxHeartbeats 4000000
namespace LawK67
namespace P
open PySem L2 Mini
local macro_rules | `(tactic| walk_at "ev") => `(tactic| first
  | ((with_reducible refine w_var (x := ?_) ?_ ?_); rotate_left 1; exact rfl)
  | with_reducible first | refine w_con ?_ | refine w_bin ?_ | refine w_cmp ?_ | refine w_idx ?_ | refine w_blt ?_ | refine w_nil ?_ | refine w_cons ?_ | refine w_att ?_ | refine w_cal ?_ | refine w_neg ?_ | refine w_not ?_ | refine w_and ?_ | refine w_or ?_ | refine w_chn ?_ | refine w_ife ?_ | refine w_slc ?_ | refine w_isi ?_ | refine w_som ?_ | refine w_non ?_ | refine w_star ?_ | refine w_dsp ?_ | refine w_bmt ?_ | refine w_mth ?_ | refine w_new ?_ | refine w_tup ?_ | refine w_lst ?_ | refine w_nwl ?_ | refine w_ndd ?_ | refine w_seq ?_ | refine w_rng ?_ | refine w_tno ?_ | refine w_tso ?_
  | refine v_cons ?_ | refine v_nil ?_ | refine v_asg ?_ | refine v_asgT ?_ | refine v_asgP ?_ | refine v_ret ?_ | refine v_retN ?_ | refine v_exp ?_ | refine v_ite ?_ | refine v_sat ?_ | refine v_sub ?_ | refine v_augA ?_ | refine v_for ?_ | refine v_rse ?_ | refine v_try ?_ | refine v_pas ?_ | refine v_cnt ?_
  | ((with_reducible refine w_glb (x := ?_) ?_ ?_); rotate_left 1; exact rfl) | ((with_reducible refine v_augV (z := ?_) ?_ ?_); rotate_left 1; exact rfl))
local macro_rules | `(tactic| walk_at "op") => `(tactic| refine ⟨_, rfl, ?_⟩)
local macro_rules | `(tactic| walk_at "sz") => `(tactic| refine ⟨szl (by first | decide | simp), ?_⟩)
local macro_rules | `(tactic| walk_at "go") => `(tactic| repeat first | walk_at "ev" | walk_at "op" | walk_at "sz")
/-! ### words -/
abbrev cl (s : Str) : List Nat := s.cps.toList
mutual
def wl : It → List Nat
  | .num n => cl (Str.ofString (toString (n : Int)))
  | .lost => [63]
  | .use s => cl s
  | .grp .block xs => 40 :: (TL.joinL [32] (wls xs) ++ [41])
  | .grp .sum xs => TL.joinL [32] ([40, 43] :: wls xs) ++ [41]
  | .grp .prod xs => TL.joinL [32] ([40, 42] :: wls xs) ++ [41]
  | .grp (.lt s) xs => TL.joinL [32] ((40 :: (cl s ++ [32, 61])) :: wls xs) ++ [41]
def wls : List It → List (List Nat)
  | [] => []
  | x :: xs => wl x :: wls xs
end
theorem wls_map : ∀ xs : List It, wls xs = xs.map wl
  | [] => rfl
  | x :: xs => by rw [wls, wls_map xs]; rfl
theorem mvs_map : ∀ xs : List It, mvs xs = xs.map mv
  | [] => rfl
  | x :: xs => by rw [mvs, mvs_map xs]; rfl
theorem joinL_len : ∀ (ps : List (List Nat)), (TL.joinL [32] ps).length ≤ (ps.map fun p => p.length + 1).sum
  | [] => Nat.le_refl _
  | [p] => by simp [TL.joinL]
  | p :: q :: r => by
    have := joinL_len (q :: r)
    simp only [TL.joinL, List.length_append, List.map_cons, List.sum_cons, List.length_cons, List.length_nil] at this ⊢
    omega
theorem nm_len {s : Str} (h : s ∈ nm) : (cl s).length ≤ 4 := by
  have : ∀ s ∈ nm, (cl s).length ≤ 4 := by decide +kernel
  exact this s h
theorem num_len {n : Nat} (h : n < 100) : (cl (Str.ofString (toString (n : Int)))).length ≤ 2 := by
  have : ∀ n : Nat, n < 100 → (cl (Str.ofString (toString (n : Int)))).length ≤ 2 := by decide +kernel
  exact this n h
theorem sum_le {α : Type} {f : α → Nat} {b : Nat} : ∀ {l : List α}, (∀ x ∈ l, f x ≤ b) → (l.map f).sum ≤ l.length * b
  | [], _ => by simp
  | x :: l, h => by
    have h1 := h x List.mem_cons_self
    have h2 := sum_le fun y hy => h y (List.mem_cons_of_mem _ hy)
    simp only [List.map_cons, List.sum_cons, List.length_cons, Nat.succ_mul]
    omega
theorem wl_len : ∀ (d : Nat) (it : It), Wf d it → (wl it).length + 1 ≤ 10 * 4 ^ d := by
  intro d
  induction d with
  | zero =>
    intro it h
    cases h with
    | num h => have := num_len h; simp only [wl]; omega
    | lost => decide
    | use h => have := nm_len h; simp only [wl]; omega
  | succ d ih =>
    intro it h
    have p : 1 ≤ 4 ^ d := Nat.one_le_pow _ _ (by decide)
    have e : 10 * 4 ^ (d + 1) = 40 * 4 ^ d := by rw [Nat.pow_succ]; omega
    rw [e]
    cases h with
    | num h => have := num_len h; simp only [wl]; omega
    | lost => simp only [wl, List.length_cons, List.length_nil]; omega
    | use h => have := nm_len h; simp only [wl]; omega
    | @grp _ h xs ho hl hw =>
      have hs : ((wls xs).map fun p => p.length + 1).sum ≤ 3 * (10 * 4 ^ d) := by
        rw [wls_map, List.map_map]
        refine Nat.le_trans (sum_le (b := 10 * 4 ^ d) fun x hx => ih x (hw x hx)) (Nat.mul_le_mul_right _ hl)
      have j0 := joinL_len (wls xs)
      cases h with
      | block => simp only [wl, List.length_append, List.length_cons, List.length_nil]; omega
      | sum =>
        have j1 := joinL_len ([40, 43] :: wls xs)
        simp only [List.map_cons, List.sum_cons, List.length_cons, List.length_nil] at j1
        simp only [wl, List.length_append, List.length_cons, List.length_nil]; omega
      | prod =>
        have j1 := joinL_len ([40, 42] :: wls xs)
        simp only [List.map_cons, List.sum_cons, List.length_cons, List.length_nil] at j1
        simp only [wl, List.length_append, List.length_cons, List.length_nil]; omega
      | lt s =>
        have hn := nm_len (show s ∈ nm from ho)
        have j1 := joinL_len ((40 :: (cl s ++ [32, 61])) :: wls xs)
        simp only [List.map_cons, List.sum_cons, List.length_append, List.length_cons, List.length_nil] at j1
        simp only [wl, List.length_append, List.length_cons, List.length_nil]; omega
theorem tq_number_number {M : Mem} : cmpV .Eq M (.str "number") (.str "number") = some true := by kernel_rfl
theorem tq_number_lost {M : Mem} : cmpV .Eq M (.str "number") (.str "lost") = some false := by kernel_rfl
theorem tq_number_use {M : Mem} : cmpV .Eq M (.str "number") (.str "use") = some false := by kernel_rfl
theorem tq_number_block {M : Mem} : cmpV .Eq M (.str "number") (.str "block") = some false := by kernel_rfl
theorem tq_lost_number {M : Mem} : cmpV .Eq M (.str "lost") (.str "number") = some false := by kernel_rfl
theorem tq_lost_lost {M : Mem} : cmpV .Eq M (.str "lost") (.str "lost") = some true := by kernel_rfl
theorem tq_lost_use {M : Mem} : cmpV .Eq M (.str "lost") (.str "use") = some false := by kernel_rfl
theorem tq_lost_block {M : Mem} : cmpV .Eq M (.str "lost") (.str "block") = some false := by kernel_rfl
theorem tq_use_number {M : Mem} : cmpV .Eq M (.str "use") (.str "number") = some false := by kernel_rfl
theorem tq_use_lost {M : Mem} : cmpV .Eq M (.str "use") (.str "lost") = some false := by kernel_rfl
theorem tq_use_use {M : Mem} : cmpV .Eq M (.str "use") (.str "use") = some true := by kernel_rfl
theorem tq_use_block {M : Mem} : cmpV .Eq M (.str "use") (.str "block") = some false := by kernel_rfl
theorem tq_block_number {M : Mem} : cmpV .Eq M (.str "block") (.str "number") = some false := by kernel_rfl
theorem tq_block_lost {M : Mem} : cmpV .Eq M (.str "block") (.str "lost") = some false := by kernel_rfl
theorem tq_block_use {M : Mem} : cmpV .Eq M (.str "block") (.str "use") = some false := by kernel_rfl
theorem tq_block_block {M : Mem} : cmpV .Eq M (.str "block") (.str "block") = some true := by kernel_rfl
theorem tq_sum_number {M : Mem} : cmpV .Eq M (.str "sum") (.str "number") = some false := by kernel_rfl
theorem tq_sum_lost {M : Mem} : cmpV .Eq M (.str "sum") (.str "lost") = some false := by kernel_rfl
theorem tq_sum_use {M : Mem} : cmpV .Eq M (.str "sum") (.str "use") = some false := by kernel_rfl
theorem tq_sum_block {M : Mem} : cmpV .Eq M (.str "sum") (.str "block") = some false := by kernel_rfl
theorem tq_product_number {M : Mem} : cmpV .Eq M (.str "product") (.str "number") = some false := by kernel_rfl
theorem tq_product_lost {M : Mem} : cmpV .Eq M (.str "product") (.str "lost") = some false := by kernel_rfl
theorem tq_product_use {M : Mem} : cmpV .Eq M (.str "product") (.str "use") = some false := by kernel_rfl
theorem tq_product_block {M : Mem} : cmpV .Eq M (.str "product") (.str "block") = some false := by kernel_rfl
theorem tq_let_number {M : Mem} : cmpV .Eq M (.str "let") (.str "number") = some false := by kernel_rfl
theorem tq_let_lost {M : Mem} : cmpV .Eq M (.str "let") (.str "lost") = some false := by kernel_rfl
theorem tq_let_use {M : Mem} : cmpV .Eq M (.str "let") (.str "use") = some false := by kernel_rfl
theorem tq_let_block {M : Mem} : cmpV .Eq M (.str "let") (.str "block") = some false := by kernel_rfl
abbrev Word (n : Nat) (it : It) : Prop := ∀ (M : Mem) (E : Str → MV → Mem → Prop), Is (evF env0 n ("_law_word", none) [mv it] M) (fun v M' => v = .str (SX.S (wl it)) ∧ M' = M) E
theorem word_num (n k : Nat) (h : k < 100) : Word (n + 1) (.num k) := by
  intro M E
  refine w_body (d := c24) rfl rfl ?_
  dsimp only [c24, Mini.start, mv]
  walk_at "go"
  refine ⟨_, tq_number_number, ⟨_, rfl, br_t rfl ?_⟩⟩
  walk_at "go"
  refine ⟨_, by
    show biStr [.int (k : Int)] = _
    simp only [biStr]
    rw [if_pos (Nat.lt_trans (lg (k := 7) (by omega) (by omega) (by decide)) (by decide))], ?_⟩
  exact isf_same ⟨by rw [wl, SX.S_tl], rfl⟩
theorem word_lost (n : Nat) : Word (n + 1) .lost := by
  intro M E
  refine w_body (d := c24) rfl rfl ?_
  dsimp only [c24, Mini.start, mv]
  walk_at "go"
  refine ⟨_, tq_lost_number, ⟨_, rfl, br_f rfl ?_⟩⟩
  walk_at "go"
  refine ⟨_, tq_lost_lost, ⟨_, rfl, br_t rfl ?_⟩⟩
  walk_at "go"
  exact isf_same ⟨rfl, rfl⟩
theorem word_use (n : Nat) (s : Str) : Word (n + 1) (.use s) := by
  intro M E
  refine w_body (d := c24) rfl rfl ?_
  dsimp only [c24, Mini.start, mv]
  walk_at "go"
  refine ⟨_, tq_use_number, ⟨_, rfl, br_f rfl ?_⟩⟩
  walk_at "go"
  refine ⟨_, tq_use_lost, ⟨_, rfl, br_f rfl ?_⟩⟩
  walk_at "go"
  refine ⟨_, tq_use_use, ⟨_, rfl, br_t rfl ?_⟩⟩
  walk_at "go"
  exact isf_same ⟨by rw [wl, SX.S_tl], rfl⟩
/-- the children's words -/
theorem words_ok {f : MV → Mem → Res (Option MV)} {E : Str → MV → Mem → Prop} {M : Mem} : ∀ (xs : List It), (∀ x ∈ xs, Is (f (mv x) M) (fun o M' => o = some (.str (SX.S (wl x))) ∧ M' = M) E) → Is (mapR f (mvs xs) M) (fun ys M' => ys = ((wls xs).map SX.S).map MV.str ∧ M' = M) E
  | [], _ => map_nil ⟨rfl, rfl⟩
  | x :: xs, h => map_cons ((h x List.mem_cons_self).imp fun o M1 ⟨e, e1⟩ => by
    subst e e1
    exact (words_ok xs fun y hy => h y (List.mem_cons_of_mem _ hy)).imp fun ys M2 ⟨e, e2⟩ => by
      subst e e2
      exact ⟨rfl, rfl⟩)
theorem strL_map : ∀ l : List Str, strL (l.map MV.str) = some l
  | [] => rfl
  | s :: l => by rw [List.map_cons, strL, strL_map l]; rfl
theorem join_ok {M : Mem} {ps : List (List Nat)} {Q : MV × Mem → Prop} (h : (ps.map fun p => p.length + 1).sum ≤ 100000) (q : Q (.str (SX.S (TL.joinL [32] ps)), M)) : Op (bmtV .join M (.str " ") [.lst ((ps.map SX.S).map MV.str)]) Q := by
  refine ⟨_, ?_, q⟩
  have e : (("" : Str).length = 0) := rfl
  have hz : (((ps.map SX.S).map (·.length)).sum + (ps.map SX.S).length * (" " : Str).length) ≤ 16777216 := by
    rw [SX.lens]
    have e1 : (" " : Str).length = 1 := rfl
    rw [e1, List.length_map, Nat.mul_one]
    have : (ps.map (·.length)).sum + ps.length = (ps.map fun p => p.length + 1).sum := by
      clear h q
      induction ps with
      | nil => rfl
      | cons p ps ih => simp only [List.map_cons, List.sum_cons, List.length_cons]; omega
    omega
  simp only [bmtV, asL, Option.bind_some, strL_map]
  rw [if_pos hz]
  have e2 : (" " : Str) = SX.S [32] := by kernel_rfl
  rw [e2, SX.join_S]
theorem add_ok {M : Mem} {a b : Str} {Q : MV → Prop} (h : a.length + b.length ≤ 2000000) (q : Q (.str (a ++ b))) : Op (binV .Add M (.str a) (.str b)) Q := by
  refine ⟨_, ?_, q⟩
  simp only [binV, addV]
  rw [if_pos (Nat.le_trans h (by decide))]
theorem addT_ok {M : Mem} {a : Str} {b : Nat} {Q : MV → Prop} (h : a.length + b ≤ 2000000) (q : Q (.txt (a.length + b))) : Op (binV .Add M (.str a) (.txt b)) Q := by
  refine ⟨_, ?_, q⟩
  simp only [binV, addV]
  rw [if_pos (Nat.le_trans h (by decide))]
theorem addU_ok {M : Mem} {a : Str} {b : Nat} {Q : MV → Prop} (h : b + a.length ≤ 2000000) (q : Q (.txt (b + a.length))) : Op (binV .Add M (.txt b) (.str a)) Q := by
  refine ⟨_, ?_, q⟩
  simp only [binV, addV]
  rw [if_pos (Nat.le_trans h (by decide))]
theorem addL_ok {M : Mem} {xs ys : List MV} {Q : MV → Prop} (h : xs.length + ys.length ≤ 2000000) (q : Q (.lst (xs ++ ys))) : Op (binV .Add M (.lst xs) (.lst ys)) Q := by
  refine ⟨_, ?_, q⟩
  simp only [binV, addV, asL]
  rw [if_pos (Nat.le_trans h (by decide))]
theorem e_op : ("(" : Str) = SX.S [40] := by kernel_rfl
theorem e_cl : (")" : Str) = SX.S [41] := by kernel_rfl
theorem e_eq : (" =" : Str) = SX.S [32, 61] := by kernel_rfl
theorem e_sum : ("(+" : Str) = SX.S [40, 43] := by kernel_rfl
theorem e_prd : ("(*" : Str) = SX.S [40, 42] := by kernel_rfl
theorem dg_sum {M : Mem} {d : MV} : bmtV .dget M (.dck [(.inr "sum", .str "(+"), (.inr "product", .str "(*")]) [.str "sum", d] = some (.str "(+", M) := by kernel_rfl
theorem dg_prd {M : Mem} {d : MV} : bmtV .dget M (.dck [(.inr "sum", .str "(+"), (.inr "product", .str "(*")]) [.str "product", d] = some (.str "(*", M) := by kernel_rfl
theorem dg_let {M : Mem} {d : MV} : bmtV .dget M (.dck [(.inr "sum", .str "(+"), (.inr "product", .str "(*")]) [.str "let", d] = some (d, M) := by kernel_rfl
theorem nd2 : ([.inr "sum", .inr "product"] : List Key).Nodup := by decide +kernel
theorem word_block (n : Nat) (xs : List It) (hc : ∀ x ∈ xs, Word n x) (hl : xs.length ≤ 4000) (hs : ((wls xs).map fun p => p.length + 1).sum ≤ 10000) : Word (n + 1) (.grp .block xs) := by
  intro M E
  have hw : (((wls xs).map SX.S).map MV.str).length ≤ 4000 := by rw [List.length_map, List.length_map, wls_map, List.length_map]; exact hl
  have j0 := joinL_len (wls xs)
  refine w_body (d := c24) rfl rfl ?_
  dsimp only [c24, Mini.start, mv]
  walk_at "go"
  refine ⟨_, tq_block_number, ⟨_, rfl, br_f rfl ?_⟩⟩
  walk_at "go"
  refine ⟨_, tq_block_lost, ⟨_, rfl, br_f rfl ?_⟩⟩
  walk_at "go"
  refine ⟨_, tq_block_use, ⟨_, rfl, br_f rfl ?_⟩⟩
  refine v_nil (v_cons (v_asg (w_lcp ?_)))
  walk_at "go"
  refine (words_ok xs fun x hx => lc_one (w_cal (w_cons (w_var rfl (w_nil ((hc x hx M _).imp fun v M' ⟨e, e1⟩ => ⟨by rw [e], e1⟩)))))).imp fun ys M1 ⟨e, e1⟩ => ?_
  subst e e1
  refine ⟨szl (Nat.le_trans hw (by decide)), ?_⟩
  walk_at "go"
  refine ⟨_, tq_block_block, ⟨_, rfl, br_t rfl ?_⟩⟩
  walk_at "go"
  refine ⟨rfl, w_cons (w_var rfl (w_nil (join_ok (Nat.le_trans hs (by decide)) ?_)))⟩
  rw [e_op]
  refine add_ok (by rw [SX.S_len, SX.S_len]; simp only [List.length_cons, List.length_nil]; omega) ?_
  walk_at "go"
  rw [e_cl]
  refine add_ok (by rw [SX.S_cat, SX.S_len, SX.S_len]; simp only [List.length_append, List.length_cons, List.length_nil]; omega) ?_
  exact isf_same ⟨by rw [SX.S_cat, SX.S_cat]; rfl, rfl⟩
end P
end LawK67

set_option Elab.async false
set_option linter.all false
set_option maxRecDepth 100000
set_option maxHeartbeats 4000000
namespace LawK67
namespace P
open PySem L2 Mini
local macro_rules | `(tactic| walk_at "ev") => `(tactic| first
  | ((with_reducible refine w_var (x := ?_) ?_ ?_); rotate_left 1; exact rfl)
  | with_reducible first | refine w_con ?_ | refine w_bin ?_ | refine w_cmp ?_ | refine w_idx ?_ | refine w_blt ?_ | refine w_nil ?_ | refine w_cons ?_ | refine w_att ?_ | refine w_cal ?_ | refine w_neg ?_ | refine w_not ?_ | refine w_and ?_ | refine w_or ?_ | refine w_chn ?_ | refine w_ife ?_ | refine w_slc ?_ | refine w_isi ?_ | refine w_som ?_ | refine w_non ?_ | refine w_star ?_ | refine w_dsp ?_ | refine w_bmt ?_ | refine w_mth ?_ | refine w_new ?_ | refine w_tup ?_ | refine w_lst ?_ | refine w_nwl ?_ | refine w_ndd ?_ | refine w_seq ?_ | refine w_rng ?_ | refine w_tno ?_ | refine w_tso ?_
  | refine v_cons ?_ | refine v_nil ?_ | refine v_asg ?_ | refine v_asgT ?_ | refine v_asgP ?_ | refine v_ret ?_ | refine v_retN ?_ | refine v_exp ?_ | refine v_ite ?_ | refine v_sat ?_ | refine v_sub ?_ | refine v_augA ?_ | refine v_for ?_ | refine v_rse ?_ | refine v_try ?_ | refine v_pas ?_ | refine v_cnt ?_
  | ((with_reducible refine w_glb (x := ?_) ?_ ?_); rotate_left 1; exact rfl) | ((with_reducible refine v_augV (z := ?_) ?_ ?_); rotate_left 1; exact rfl))
local macro_rules | `(tactic| walk_at "op") => `(tactic| refine ⟨_, rfl, ?_⟩)
local macro_rules | `(tactic| walk_at "sz") => `(tactic| refine ⟨szl (by first | decide | simp), ?_⟩)
local macro_rules | `(tactic| walk_at "go") => `(tactic| repeat first | walk_at "ev" | walk_at "op" | walk_at "sz")
theorem nm_rep {s : Str} (h : s ∈ nm) : (reprText s).length ≤ 6 := by
  have : ∀ s ∈ nm, (reprText s).length ≤ 6 := by decide +kernel
  exact this s h
theorem tags_rep : (reprText "number").length ≤ 9 ∧ (reprText "lost").length ≤ 9 ∧ (reprText "use").length ≤ 9 ∧ (reprText "block").length ≤ 9 ∧ (reprText "sum").length ≤ 9 ∧ (reprText "product").length ≤ 9 ∧ (reprText "let").length ≤ 9 := by decide +kernel
theorem mapO_some {f : MV → Option Nat} {b : Nat} : ∀ {xs : List It}, (∀ x ∈ xs, ∃ L, f (mv x) = some L ∧ L ≤ b) → ∃ Ls, mapO f (mvs xs) = some Ls ∧ pileL Ls ≤ xs.length * (b + 2)
  | [], _ => ⟨[], rfl, by simp [pileL]⟩
  | x :: xs, h => by
    obtain ⟨L, e, hb⟩ := h x List.mem_cons_self
    obtain ⟨Ls, e2, hb2⟩ := mapO_some fun y hy => h y (List.mem_cons_of_mem _ hy)
    refine ⟨L :: Ls, by simp only [mvs, mapO, e, e2], ?_⟩
    simp only [pileL, List.map_cons, List.sum_cons, List.length_cons, Nat.succ_mul] at hb2 ⊢
    omega
theorem shw_item : ∀ (d m : Nat) (it : It), Wf d it → 2 * d + 2 ≤ m → ∃ L, shw m (mv it) = some L ∧ L ≤ 60 * 4 ^ d := by
  intro d
  obtain ⟨t1, t2, t3, t4, t5, t6, t7⟩ := tags_rep
  have small : ∀ (d m : Nat) (it : It), 2 ≤ m → (∀ h xs, it ≠ .grp h xs) → Wf d it → ∃ L, shw m (mv it) = some L ∧ L ≤ 60 := by
    intro d m it hm hn h
    obtain ⟨k, rfl⟩ : ∃ k, m = k + 2 := ⟨m - 2, by omega⟩
    cases h with
    | @num _ n h =>
      have hl := num_len h
      refine ⟨_, by
        simp only [mv, shw, mapO]
        rw [if_pos (Nat.lt_trans (lg (k := 7) (by omega) (by omega) (by decide)) (by decide))]
        rfl, ?_⟩
      have e : (Str.ofString (toString (n : Int))).length = (cl (Str.ofString (toString (n : Int)))).length := by simp [Str.length]
      simp only [pileL, List.map_cons, List.map_nil, List.sum_cons, List.sum_nil]
      omega
    | lost => exact ⟨_, rfl, by simp only [pileL, List.map_cons, List.map_nil, List.sum_cons, List.sum_nil]; omega⟩
    | use h =>
      have := nm_rep h
      exact ⟨_, rfl, by simp only [pileL, List.map_cons, List.map_nil, List.sum_cons, List.sum_nil]; omega⟩
    | grp _ _ _ => exact absurd rfl (hn _ _)
  induction d with
  | zero =>
    intro m it h hm
    obtain ⟨L, e, hb⟩ := small 0 m it (by omega) (fun h2 xs z => by subst z; cases h) h
    exact ⟨L, e, by omega⟩
  | succ d ih =>
    intro m it h hm
    have p : 1 ≤ 4 ^ d := Nat.one_le_pow _ _ (by decide)
    have e4 : 60 * 4 ^ (d + 1) = 240 * 4 ^ d := by rw [Nat.pow_succ]; omega
    cases it with
    | num n =>
      obtain ⟨L, e, hb⟩ := small (d + 1) m (.num n) (by omega) (fun _ _ z => by cases z) h
      exact ⟨L, e, by omega⟩
    | lost =>
      obtain ⟨L, e, hb⟩ := small (d + 1) m .lost (by omega) (fun _ _ z => by cases z) h
      exact ⟨L, e, by omega⟩
    | use s =>
      obtain ⟨L, e, hb⟩ := small (d + 1) m (.use s) (by omega) (fun _ _ z => by cases z) h
      exact ⟨L, e, by omega⟩
    | grp hd xs =>
      cases h with
      | grp ho hl hw =>
        obtain ⟨k, rfl⟩ : ∃ k, m = k + 2 := ⟨m - 2, by omega⟩
        obtain ⟨Ls, e1, hb⟩ := mapO_some (f := shw k) (b := 60 * 4 ^ d) (xs := xs) fun x hx => ih k x (hw x hx) (by omega)
        have hb2 : pileL Ls ≤ 3 * (60 * 4 ^ d + 2) := Nat.le_trans hb (Nat.mul_le_mul_right _ hl)
        cases hd with
        | block =>
          refine ⟨_, by simp only [mv, shw, mapO, e1]; rfl, ?_⟩
          simp only [pileL, List.map_cons, List.map_nil, List.sum_cons, List.sum_nil] at hb2 ⊢
          omega
        | sum =>
          refine ⟨_, by simp only [mv, shw, mapO, e1]; rfl, ?_⟩
          simp only [pileL, List.map_cons, List.map_nil, List.sum_cons, List.sum_nil] at hb2 ⊢
          omega
        | prod =>
          refine ⟨_, by simp only [mv, shw, mapO, e1]; rfl, ?_⟩
          simp only [pileL, List.map_cons, List.map_nil, List.sum_cons, List.sum_nil] at hb2 ⊢
          omega
        | lt s =>
          have := nm_rep (show s ∈ nm from ho)
          refine ⟨_, by simp only [mv, shw, mapO, e1]; rfl, ?_⟩
          simp only [pileL, List.map_cons, List.map_nil, List.sum_cons, List.sum_nil] at hb2 ⊢
          omega
theorem word_sum (n : Nat) (xs : List It) (hc : ∀ x ∈ xs, Word n x) (hl : xs.length ≤ 4000) (hs : ((wls xs).map fun p => p.length + 1).sum ≤ 10000) (hz : ∃ Ls, mapO (shw 16) (mvs xs) = some Ls ∧ pileL Ls ≤ 400000) : Word (n + 1) (.grp .sum xs) := by
  intro M E
  obtain ⟨Ls, hz1, hz2⟩ := hz
  have hw : (((wls xs).map SX.S).map MV.str).length ≤ 4000 := by rw [List.length_map, List.length_map, wls_map, List.length_map]; exact hl
  have j0 := joinL_len ([40, 43] :: wls xs)
  simp only [List.map_cons, List.sum_cons, List.length_cons, List.length_nil] at j0
  refine w_body (d := c24) rfl rfl ?_
  dsimp only [c24, Mini.start, mv]
  walk_at "go"
  refine ⟨_, tq_sum_number, ⟨_, rfl, br_f rfl ?_⟩⟩
  walk_at "go"
  refine ⟨_, tq_sum_lost, ⟨_, rfl, br_f rfl ?_⟩⟩
  walk_at "go"
  refine ⟨_, tq_sum_use, ⟨_, rfl, br_f rfl ?_⟩⟩
  refine v_nil (v_cons (v_asg (w_lcp ?_)))
  walk_at "go"
  refine (words_ok xs fun x hx => lc_one (w_cal (w_cons (w_var rfl (w_nil ((hc x hx M _).imp fun v M' ⟨e, e1⟩ => ⟨by rw [e], e1⟩)))))).imp fun ys M1 ⟨e, e1⟩ => ?_
  subst e e1
  refine ⟨szl (Nat.le_trans hw (by decide)), ?_⟩
  walk_at "go"
  refine ⟨_, tq_sum_block, ⟨_, rfl, br_f rfl ?_⟩⟩
  refine v_nil (v_cons (v_asg (w_bmt (w_dsp ?_))))
  walk_at "go"
  refine ⟨⟨rfl, nd2, by decide⟩, rfl, ?_⟩
  walk_at "go"
  refine ⟨.txt (pileL Ls + 7), ?_, ?_⟩
  · show biStr [.tup (mvs xs)] = _
    simp only [biStr, hz1]
    rw [if_pos (Nat.le_trans (Nat.add_le_add_right hz2 7) (by decide))]
  rw [e_op]
  refine addT_ok (by rw [SX.S_len]; simp only [List.length_cons, List.length_nil]; omega) ?_
  walk_at "go"
  rw [e_eq]
  refine addU_ok (by rw [SX.S_len, SX.S_len]; simp only [List.length_cons, List.length_nil]; omega) ?_
  refine w_nil ⟨_, dg_sum, ?_⟩
  refine v_cons (v_ret (w_bin (w_bmt (w_con ⟨rfl, w_cons (w_bin ?_)⟩))))
  refine w_lst (w_cons (w_var rfl (w_nil ⟨szl (by simp), w_var rfl ?_⟩)))
  refine addL_ok (by rw [List.length_map, List.length_map, wls_map, List.length_map]; simp only [List.length_cons, List.length_nil]; omega) ?_
  refine w_nil ?_
  rw [e_sum]
  refine join_ok (ps := [40, 43] :: wls xs) (by simp only [List.map_cons, List.sum_cons, List.length_cons, List.length_nil]; omega) ?_
  walk_at "go"
  rw [e_cl]
  refine add_ok (by rw [SX.S_len, SX.S_len]; simp only [List.length_cons, List.length_nil]; omega) ?_
  exact isf_same ⟨by rw [SX.S_cat]; rfl, rfl⟩
theorem word_prod (n : Nat) (xs : List It) (hc : ∀ x ∈ xs, Word n x) (hl : xs.length ≤ 4000) (hs : ((wls xs).map fun p => p.length + 1).sum ≤ 10000) (hz : ∃ Ls, mapO (shw 16) (mvs xs) = some Ls ∧ pileL Ls ≤ 400000) : Word (n + 1) (.grp .prod xs) := by
  intro M E
  obtain ⟨Ls, hz1, hz2⟩ := hz
  have hw : (((wls xs).map SX.S).map MV.str).length ≤ 4000 := by rw [List.length_map, List.length_map, wls_map, List.length_map]; exact hl
  have j0 := joinL_len ([40, 42] :: wls xs)
  simp only [List.map_cons, List.sum_cons, List.length_cons, List.length_nil] at j0
  refine w_body (d := c24) rfl rfl ?_
  dsimp only [c24, Mini.start, mv]
  walk_at "go"
  refine ⟨_, tq_product_number, ⟨_, rfl, br_f rfl ?_⟩⟩
  walk_at "go"
  refine ⟨_, tq_product_lost, ⟨_, rfl, br_f rfl ?_⟩⟩
  walk_at "go"
  refine ⟨_, tq_product_use, ⟨_, rfl, br_f rfl ?_⟩⟩
  refine v_nil (v_cons (v_asg (w_lcp ?_)))
  walk_at "go"
  refine (words_ok xs fun x hx => lc_one (w_cal (w_cons (w_var rfl (w_nil ((hc x hx M _).imp fun v M' ⟨e, e1⟩ => ⟨by rw [e], e1⟩)))))).imp fun ys M1 ⟨e, e1⟩ => ?_
  subst e e1
  refine ⟨szl (Nat.le_trans hw (by decide)), ?_⟩
  walk_at "go"
  refine ⟨_, tq_product_block, ⟨_, rfl, br_f rfl ?_⟩⟩
  refine v_nil (v_cons (v_asg (w_bmt (w_dsp ?_))))
  walk_at "go"
  refine ⟨⟨rfl, nd2, by decide⟩, rfl, ?_⟩
  walk_at "go"
  refine ⟨.txt (pileL Ls + 7), ?_, ?_⟩
  · show biStr [.tup (mvs xs)] = _
    simp only [biStr, hz1]
    rw [if_pos (Nat.le_trans (Nat.add_le_add_right hz2 7) (by decide))]
  rw [e_op]
  refine addT_ok (by rw [SX.S_len]; simp only [List.length_cons, List.length_nil]; omega) ?_
  walk_at "go"
  rw [e_eq]
  refine addU_ok (by rw [SX.S_len, SX.S_len]; simp only [List.length_cons, List.length_nil]; omega) ?_
  refine w_nil ⟨_, dg_prd, ?_⟩
  refine v_cons (v_ret (w_bin (w_bmt (w_con ⟨rfl, w_cons (w_bin ?_)⟩))))
  refine w_lst (w_cons (w_var rfl (w_nil ⟨szl (by simp), w_var rfl ?_⟩)))
  refine addL_ok (by rw [List.length_map, List.length_map, wls_map, List.length_map]; simp only [List.length_cons, List.length_nil]; omega) ?_
  refine w_nil ?_
  rw [e_prd]
  refine join_ok (ps := [40, 42] :: wls xs) (by simp only [List.map_cons, List.sum_cons, List.length_cons, List.length_nil]; omega) ?_
  walk_at "go"
  rw [e_cl]
  refine add_ok (by rw [SX.S_len, SX.S_len]; simp only [List.length_cons, List.length_nil]; omega) ?_
  exact isf_same ⟨by rw [SX.S_cat]; rfl, rfl⟩
theorem word_let (n : Nat) (s : Str) (hn : (cl s).length ≤ 6) (xs : List It) (hc : ∀ x ∈ xs, Word n x) (hl : xs.length ≤ 4000) (hs : ((wls xs).map fun p => p.length + 1).sum ≤ 10000) : Word (n + 1) (.grp (.lt s) xs) := by
  intro M E
  have hn4 := hn
  have es : s = SX.S (cl s) := (SX.S_tl s).symm
  have hsl : s.length = (cl s).length := by simp [Str.length]
  have hw : (((wls xs).map SX.S).map MV.str).length ≤ 4000 := by rw [List.length_map, List.length_map, wls_map, List.length_map]; exact hl
  have j0 := joinL_len ((40 :: (cl s ++ [32, 61])) :: wls xs)
  simp only [List.map_cons, List.sum_cons, List.length_append, List.length_cons, List.length_nil] at j0
  refine w_body (d := c24) rfl rfl ?_
  dsimp only [c24, Mini.start, mv]
  walk_at "go"
  refine ⟨_, tq_let_number, ⟨_, rfl, br_f rfl ?_⟩⟩
  walk_at "go"
  refine ⟨_, tq_let_lost, ⟨_, rfl, br_f rfl ?_⟩⟩
  walk_at "go"
  refine ⟨_, tq_let_use, ⟨_, rfl, br_f rfl ?_⟩⟩
  refine v_nil (v_cons (v_asg (w_lcp ?_)))
  walk_at "go"
  refine (words_ok xs fun x hx => lc_one (w_cal (w_cons (w_var rfl (w_nil ((hc x hx M _).imp fun v M' ⟨e, e1⟩ => ⟨by rw [e], e1⟩)))))).imp fun ys M1 ⟨e, e1⟩ => ?_
  subst e e1
  refine ⟨szl (Nat.le_trans hw (by decide)), ?_⟩
  walk_at "go"
  refine ⟨_, tq_let_block, ⟨_, rfl, br_f rfl ?_⟩⟩
  refine v_nil (v_cons (v_asg (w_bmt (w_dsp ?_))))
  walk_at "go"
  refine ⟨⟨rfl, nd2, by decide⟩, rfl, ?_⟩
  walk_at "go"
  rw [e_op]
  refine add_ok (by rw [SX.S_len, hsl]; simp only [List.length_cons, List.length_nil]; omega) ?_
  walk_at "go"
  rw [e_eq]
  refine add_ok (by
    have e1 := SX.S_len [40]
    have e2 := SX.S_len [32, 61]
    have e3 := strLen_append (SX.S [40]) s
    simp only [List.length_cons, List.length_nil] at e1 e2
    omega) ?_
  refine w_nil ⟨_, dg_let, ?_⟩
  refine v_cons (v_ret (w_bin (w_bmt (w_con ⟨rfl, w_cons (w_bin ?_)⟩))))
  refine w_lst (w_cons (w_var rfl (w_nil ⟨szl (by simp), w_var rfl ?_⟩)))
  refine addL_ok (by rw [List.length_map, List.length_map, wls_map, List.length_map]; simp only [List.length_cons, List.length_nil]; omega) ?_
  refine w_nil ?_
  have eo : SX.S [40] ++ s ++ SX.S [32, 61] = SX.S (40 :: (cl s ++ [32, 61])) := by
    have e2 : SX.S [40] ++ SX.S (cl s) ++ SX.S [32, 61] = SX.S (40 :: (cl s ++ [32, 61])) := by rw [SX.S_cat, SX.S_cat]; rfl
    rw [SX.S_tl] at e2
    exact e2
  dsimp only
  rw [eo]
  refine join_ok (ps := (40 :: (cl s ++ [32, 61])) :: wls xs) (by simp only [List.map_cons, List.sum_cons, List.length_append, List.length_cons, List.length_nil]; omega) ?_
  walk_at "go"
  rw [e_cl]
  refine add_ok (by rw [SX.S_len, SX.S_len]; simp only [List.length_cons, List.length_nil]; omega) ?_
  exact isf_same ⟨by rw [SX.S_cat]; rfl, rfl⟩
theorem word_ok : ∀ (d n : Nat) (it : It), Wf d it → d ≤ 3 → Word (n + d + 1) it := by
  intro d
  induction d with
  | zero =>
    intro n it h hd
    cases h with
    | num h => exact word_num _ _ h
    | lost => exact word_lost _
    | use h => exact word_use _ _
  | succ d ih =>
    intro n it h hd
    cases h with
    | num h => exact word_num _ _ h
    | lost => exact word_lost _
    | use h => exact word_use _ _
    | @grp _ h xs ho hl hw =>
      have p : 4 ^ d ≤ 4 ^ 2 := Nat.pow_le_pow_right (by decide) (by omega)
      have hc : ∀ x ∈ xs, Word (n + d + 1) x := fun x hx => ih n x (hw x hx) (by omega)
      have hs : ((wls xs).map fun p => p.length + 1).sum ≤ 10000 := by
        rw [wls_map, List.map_map]
        refine Nat.le_trans (sum_le (b := 10 * 4 ^ d) fun x hx => wl_len d x (hw x hx)) ?_
        have := Nat.mul_le_mul_right (10 * 4 ^ d) hl
        omega
      have hz : ∃ Ls, mapO (shw 16) (mvs xs) = some Ls ∧ pileL Ls ≤ 400000 := by
        obtain ⟨Ls, e1, hb⟩ := mapO_some (f := shw 16) (b := 60 * 4 ^ d) (xs := xs) fun x hx => shw_item d 16 x (hw x hx) (by omega)
        refine ⟨Ls, e1, ?_⟩
        have := Nat.mul_le_mul_right (60 * 4 ^ d + 2) hl
        omega
      cases h with
      | block => exact word_block _ xs hc (by omega) hs
      | sum => exact word_sum _ xs hc (by omega) hs hz
      | prod => exact word_prod _ xs hc (by omega) hs hz
      | lt s => exact word_let _ s (Nat.le_trans (nm_len ho) (by decide)) xs hc (by omega) hs
/-- the text of a program -/
def tx (xs : List It) : List Nat := TL.joinL [32] (wls xs)
theorem tx_sum {xs : List It} (hl : xs.length ≤ 4) (hw : ∀ x ∈ xs, Wf 3 x) : ((wls xs).map fun p => p.length + 1).sum ≤ 2560 := by
  rw [wls_map, List.map_map]
  refine Nat.le_trans (sum_le (b := 10 * 4 ^ 3) fun x hx => wl_len 3 x (hw x hx)) ?_
  have := Nat.mul_le_mul_right (10 * 4 ^ 3) hl
  omega
theorem tx_len {xs : List It} (hl : xs.length ≤ 4) (hw : ∀ x ∈ xs, Wf 3 x) : (tx xs).length ≤ 2560 := Nat.le_trans (joinL_len (wls xs)) (tx_sum hl hw)
theorem text_ok (n : Nat) {xs : List It} {M : Mem} {E : Str → MV → Mem → Prop} (hl : xs.length ≤ 4) (hw : ∀ x ∈ xs, Wf 3 x) : Is (evF env0 (n + 5) ("_law_text", none) [.tup (mvs xs)] M) (fun v M' => v = .str (SX.S (tx xs)) ∧ M' = M) E := by
  have hw4 : (((wls xs).map SX.S).map MV.str).length ≤ 4 := by rw [List.length_map, List.length_map, wls_map, List.length_map]; exact hl
  refine w_body (d := c25) rfl rfl ?_
  dsimp only [c25, Mini.start]
  refine v_cons (v_ret (w_bmt (w_con ⟨rfl, w_cons (w_lcp ?_)⟩)))
  walk_at "go"
  refine (words_ok xs fun x hx => lc_one (w_cal (w_cons (w_var rfl (w_nil ((word_ok 3 n x (hw x hx) (by decide) M _).imp fun v M' ⟨e, e1⟩ => ⟨by rw [e], e1⟩)))))).imp fun ys M1 ⟨e, e1⟩ => ?_
  subst e e1
  refine ⟨szl (Nat.le_trans hw4 (by decide)), w_nil (join_ok (Nat.le_trans (tx_sum hl hw) (by decide)) ?_)⟩
  exact isf_same ⟨rfl, rfl⟩
end P
end LawK67

set_option Elab.async false
set_option linter.all false
set_option maxRecDepth 100000
set_option maxHeartbeats 4000000
namespace LawK67
namespace P
open PySem L2 Mini
local macro_rules | `(tactic| walk_at "ev") => `(tactic| first
  | ((with_reducible refine w_var (x := ?_) ?_ ?_); rotate_left 1; exact rfl)
  | with_reducible first | refine w_con ?_ | refine w_bin ?_ | refine w_cmp ?_ | refine w_idx ?_ | refine w_blt ?_ | refine w_nil ?_ | refine w_cons ?_ | refine w_att ?_ | refine w_cal ?_ | refine w_neg ?_ | refine w_not ?_ | refine w_and ?_ | refine w_or ?_ | refine w_chn ?_ | refine w_ife ?_ | refine w_slc ?_ | refine w_isi ?_ | refine w_som ?_ | refine w_non ?_ | refine w_star ?_ | refine w_dsp ?_ | refine w_bmt ?_ | refine w_mth ?_ | refine w_new ?_ | refine w_tup ?_ | refine w_lst ?_ | refine w_nwl ?_ | refine w_ndd ?_ | refine w_seq ?_ | refine w_rng ?_ | refine w_tno ?_ | refine w_tso ?_
  | refine v_cons ?_ | refine v_nil ?_ | refine v_asg ?_ | refine v_asgT ?_ | refine v_asgP ?_ | refine v_ret ?_ | refine v_retN ?_ | refine v_exp ?_ | refine v_ite ?_ | refine v_sat ?_ | refine v_sub ?_ | refine v_augA ?_ | refine v_for ?_ | refine v_rse ?_ | refine v_try ?_ | refine v_pas ?_ | refine v_cnt ?_
  | ((with_reducible refine w_glb (x := ?_) ?_ ?_); rotate_left 1; exact rfl) | ((with_reducible refine v_augV (z := ?_) ?_ ?_); rotate_left 1; exact rfl))
local macro_rules | `(tactic| walk_at "op") => `(tactic| refine ⟨_, rfl, ?_⟩)
local macro_rules | `(tactic| walk_at "sz") => `(tactic| refine ⟨szl (by first | decide | simp), ?_⟩)
local macro_rules | `(tactic| walk_at "go") => `(tactic| repeat first | walk_at "ev" | walk_at "op" | walk_at "sz")
/-! ### spans -/
abbrev Rw := List Nat × Nat × Nat
def opn : Hd → Nat
  | .block => 1
  | .sum => 3
  | .prod => 3
  | .lt s => (cl s).length + 4
mutual
def spI (own : List Nat) (first : Nat) : It → List Rw
  | .num n => [(own, first, first + (wl (.num n)).length)]
  | .lost => [(own, first, first + (wl .lost).length)]
  | .use s => [(own, first, first + (wl (.use s)).length)]
  | .grp h xs => (own, first, first + (wl (.grp h xs)).length) :: spL own 0 (first + opn h) xs
def spL (path : List Nat) (i first : Nat) : List It → List Rw
  | [] => []
  | x :: xs => spI (path ++ [i]) first x ++ spL path (i + 1) (first + (wl x).length + 1) xs
end
def nats (p : List Nat) : List MV := p.map fun (n : Nat) => MV.int (n : Int)
def rowMV (r : Rw) : MV := .tup [.tup (nats r.1), .int (r.2.1 : Int), .int (r.2.2 : Int)]
theorem spL_len {d b : Nat} (h : ∀ (own : List Nat) (first : Nat) (it : It), Wf d it → (spI own first it).length ≤ b) : ∀ (xs : List It) (path : List Nat) (i first : Nat), (∀ x ∈ xs, Wf d x) → (spL path i first xs).length ≤ xs.length * b
  | [], _, _, _, _ => by simp [spL]
  | x :: xs, path, i, first, hw => by
    have h1 := h (path ++ [i]) first x (hw x List.mem_cons_self)
    have h2 := spL_len h xs path (i + 1) (first + (wl x).length + 1) fun y hy => hw y (List.mem_cons_of_mem _ hy)
    simp only [spL, List.length_append, List.length_cons, Nat.succ_mul]
    omega
theorem spI_len : ∀ (d : Nat) (own : List Nat) (first : Nat) (it : It), Wf d it → (spI own first it).length ≤ 4 ^ d := by
  intro d
  induction d with
  | zero =>
    intro own first it h
    cases h <;> simp [spI]
  | succ d ih =>
    intro own first it h
    have p : 1 ≤ 4 ^ d := Nat.one_le_pow _ _ (by decide)
    have e : 4 ^ (d + 1) = 4 * 4 ^ d := by rw [Nat.pow_succ]; omega
    rw [e]
    cases h with
    | num _ => simp only [spI, List.length_cons, List.length_nil]; omega
    | lost => simp only [spI, List.length_cons, List.length_nil]; omega
    | use _ => simp only [spI, List.length_cons, List.length_nil]; omega
    | @grp _ h xs ho hl hw =>
      have h2 := spL_len ih xs own 0 (first + opn h) hw
      have h3 := Nat.mul_le_mul_right (4 ^ d) hl
      simp only [spI, List.length_cons]
      omega
theorem rows_clean (n : Nat) (rs : List Rw) : cleanL n (rs.map rowMV) = true := by
  induction rs with
  | nil => rfl
  | cons r rs ih =>
    have : ∀ p : List Nat, cleanL n (nats p) = true := by
      intro p
      induction p with
      | nil => rfl
      | cons a p ihp => simpa [nats, cleanL, clean] using ihp
    simp only [List.map_cons, cleanL, ih, Bool.and_true, rowMV, clean, this, Bool.and_self]
theorem rows_frz (M : Mem) (n k : Nat) (rs : List Rw) : mapO (frz M n (k + 1)) (rs.map rowMV) = some (rs.map rowMV) := by
  induction rs with
  | nil => rfl
  | cons r rs ih =>
    have h := rows_clean n [r]
    have h1 : clean n (rowMV r) = true := by simpa [cleanL] using h
    simp only [List.map_cons, mapO, ih]
    rw [show frz M n (k + 1) (rowMV r) = some (rowMV r) from by unfold frz; rw [if_pos h1]]
/-- what stands between the turns: rows lie in the cell q, behind what was there -/
def SpI (M0 : Mem) (its pv : MV) (first : Nat) (rows : List MV) (r : Rho) (M : Mem) : Prop := ∃ q o4 o5 o6 o7 o8, r = [some its, some pv, some (.int (first : Int)), some (.ref q), o4, o5, o6, o7, o8] ∧ M.take M0.length = M0 ∧ M0.length ≤ q ∧ M[q]? = some (.lst rows)
theorem tIn_block {M : Mem} : cmpV .In M (.str "block") (.tup [.str "block", .str "sum", .str "product", .str "let"]) = some true := by kernel_rfl
theorem tIn_sum {M : Mem} : cmpV .In M (.str "sum") (.tup [.str "block", .str "sum", .str "product", .str "let"]) = some true := by kernel_rfl
theorem tIn_product {M : Mem} : cmpV .In M (.str "product") (.tup [.str "block", .str "sum", .str "product", .str "let"]) = some true := by kernel_rfl
theorem tIn_let {M : Mem} : cmpV .In M (.str "let") (.tup [.str "block", .str "sum", .str "product", .str "let"]) = some true := by kernel_rfl
theorem tIn_number {M : Mem} : cmpV .In M (.str "number") (.tup [.str "block", .str "sum", .str "product", .str "let"]) = some false := by kernel_rfl
theorem tIn_lost {M : Mem} : cmpV .In M (.str "lost") (.tup [.str "block", .str "sum", .str "product", .str "let"]) = some false := by kernel_rfl
theorem tIn_use {M : Mem} : cmpV .In M (.str "use") (.tup [.str "block", .str "sum", .str "product", .str "let"]) = some false := by kernel_rfl
theorem tNe_block {M : Mem} : cmpV .NotEq M (.str "block") (.str "let") = some true := by kernel_rfl
theorem tNe_sum {M : Mem} : cmpV .NotEq M (.str "sum") (.str "let") = some true := by kernel_rfl
theorem tNe_product {M : Mem} : cmpV .NotEq M (.str "product") (.str "let") = some true := by kernel_rfl
theorem tNe_let {M : Mem} : cmpV .NotEq M (.str "let") (.str "let") = some false := by kernel_rfl
theorem op_block {M : Mem} {d : MV} : bmtV .dget M (.dck [(.inr "block", .int 1), (.inr "sum", .int 3), (.inr "product", .int 3)]) [.str "block", d] = some (.int 1, M) := by kernel_rfl
theorem op_sum {M : Mem} {d : MV} : bmtV .dget M (.dck [(.inr "block", .int 1), (.inr "sum", .int 3), (.inr "product", .int 3)]) [.str "sum", d] = some (.int 3, M) := by kernel_rfl
theorem op_product {M : Mem} {d : MV} : bmtV .dget M (.dck [(.inr "block", .int 1), (.inr "sum", .int 3), (.inr "product", .int 3)]) [.str "product", d] = some (.int 3, M) := by kernel_rfl
theorem op_let {M : Mem} {d : MV} : bmtV .dget M (.dck [(.inr "block", .int 1), (.inr "sum", .int 3), (.inr "product", .int 3)]) [.str "let", d] = some (d, M) := by kernel_rfl
theorem nd3 : ([.inr "block", .inr "sum", .inr "product"] : List Key).Nodup := by decide +kernel
theorem app_ok {M : Mem} {q : Nat} {rows : List MV} {y : MV} {Q : MV × Mem → Prop} (h : M[q]? = some (.lst rows)) (hl : rows.length ≤ 1000) (k : Q (.non, M.set q (.lst (rows ++ [y])))) : Op (bmtV .append M (.ref q) [y]) Q := by
  refine ⟨_, ?_, k⟩
  simp only [bmtV, h]
  rw [if_pos (small1000 hl)]
theorem rec_app {M : Mem} {q : Nat} {rows : List MV} (h : M[q]? = some (.lst rows)) : recV .append M (.ref q) = true := by simp only [recV, h]
theorem addP_ok {M : Mem} {xs ys : List MV} {Q : MV → Prop} (h : xs.length + ys.length ≤ 1000) (q : Q (.tup (xs ++ ys))) : Op (binV .Add M (.tup xs) (.tup ys)) Q := by
  refine ⟨_, ?_, q⟩
  simp only [binV, addV]
  rw [if_pos (szl (Nat.le_trans h (by decide)))]
theorem len_ok {M : Mem} {l : List Nat} {Q : MV → Prop} (h : l.length ≤ 1000) (q : Q (.int (l.length : Int))) : Op (bltV .len M [.str (SX.S l)]) Q := by
  refine ⟨_, ?_, q⟩
  show biLen M [.str (SX.S l)] = _
  have e := SX.S_len l
  simp only [biLen, lenV]
  rw [if_pos (by rw [e]; exact szl (Nat.le_trans h (by decide))), e]
  rfl
theorem take_set {M M0 : Mem} {q : Nat} {c : Cell} (h : M.take M0.length = M0) (hb : M0.length ≤ q) : (M.set q c).take M0.length = M0 := by
  rw [List.take_set, h, List.set_eq_of_length_le hb]
theorem take_app {M M0 : Mem} {c : Cell} (h : M.take M0.length = M0) (hb : M0.length ≤ M.length) : (M ++ [c]).take M0.length = M0 := by
  rw [List.take_append_of_le_length hb, h]
end P
end LawK67

set_option Elab.async false
set_option linter.all false
set_option maxRecDepth 100000
set_option maxHeartbeats 4000000
namespace LawK67
namespace P
open PySem L2 Mini
local macro_rules | `(tactic| walk_at "ev") => `(tactic| first
  | ((with_reducible refine w_var (x := ?_) ?_ ?_); rotate_left 1; exact rfl)
  | with_reducible first | refine w_con ?_ | refine w_bin ?_ | refine w_cmp ?_ | refine w_idx ?_ | refine w_blt ?_ | refine w_nil ?_ | refine w_cons ?_ | refine w_att ?_ | refine w_cal ?_ | refine w_neg ?_ | refine w_not ?_ | refine w_and ?_ | refine w_or ?_ | refine w_chn ?_ | refine w_ife ?_ | refine w_slc ?_ | refine w_isi ?_ | refine w_som ?_ | refine w_non ?_ | refine w_star ?_ | refine w_dsp ?_ | refine w_bmt ?_ | refine w_mth ?_ | refine w_new ?_ | refine w_tup ?_ | refine w_lst ?_ | refine w_nwl ?_ | refine w_ndd ?_ | refine w_seq ?_ | refine w_rng ?_ | refine w_tno ?_ | refine w_tso ?_
  | refine v_cons ?_ | refine v_nil ?_ | refine v_asg ?_ | refine v_asgT ?_ | refine v_asgP ?_ | refine v_ret ?_ | refine v_retN ?_ | refine v_exp ?_ | refine v_ite ?_ | refine v_sat ?_ | refine v_sub ?_ | refine v_augA ?_ | refine v_for ?_ | refine v_rse ?_ | refine v_try ?_ | refine v_pas ?_ | refine v_cnt ?_
  | ((with_reducible refine w_glb (x := ?_) ?_ ?_); rotate_left 1; exact rfl) | ((with_reducible refine v_augV (z := ?_) ?_ ?_); rotate_left 1; exact rfl))
local macro_rules | `(tactic| walk_at "op") => `(tactic| refine ⟨_, rfl, ?_⟩)
local macro_rules | `(tactic| walk_at "sz") => `(tactic| refine ⟨szl (by first | decide | simp), ?_⟩)
local macro_rules | `(tactic| walk_at "go") => `(tactic| repeat first | walk_at "ev" | walk_at "op" | walk_at "sz")
/-! ### the walk over a text: plain state, and the cells that hold it -/
structure Row where
  path : List Nat
  first : Nat
  behind : Nat
  kind : Str
  val : MV
def Row.cell (r : Row) : Cell := .ins "ItemRow" [("own_path", .tup (nats r.path)), ("own_first", .int (r.first : Int)), ("own_behind", .int (r.behind : Int)), ("own_kind", .str r.kind), ("own_value", r.val)]
structure Ope where
  path : List Nat
  row : Option Nat
  many : Nat
def rowRef (rs : List Nat) : Option Nat → MV
  | none => .non
  | some i => .ref (rs.getD i 0)
def Ope.cell (rs : List Nat) (o : Ope) : Cell := .ins "OpenItem" [("own_path", .tup (nats o.path)), ("own_row", rowRef rs o.row), ("own_many", .int (o.many : Int))]
structure St where
  pos : Nat
  rows : List Row
  low : List Ope
  top : Ope
abbrev St.pile (s : St) : List Ope := s.low ++ [s.top]
def wkC (B : Mem) (tl : List Nat) (k : Nat) : Cell := .ins "TextWalk" [("own_text", .str (SX.S tl)), ("own_at", .int (k : Int)), ("own_rows", .ref (B.length + 1)), ("own_pile", .ref (B.length + 3))]
structure R (B : Mem) (tl : List Nat) (s : St) (rs ps : List Nat) (M : Mem) : Prop where
  base : M.take B.length = B
  wk : M[B.length]? = some (wkC B tl s.pos)
  ra : M[B.length + 1]? = some (.lst (rs.map .ref))
  pa : M[B.length + 3]? = some (.lst (ps.map .ref))
  rl : rs.length = s.rows.length
  pl : ps.length = s.low.length + 1
  rn : rs.Nodup
  pn : ps.Nodup
  rc : ∀ (i : Nat) (r : Row) (a : Nat), s.rows[i]? = some r → rs[i]? = some a → M[a]? = some r.cell
  pc : ∀ (i : Nat) (o : Ope) (a : Nat), s.pile[i]? = some o → ps[i]? = some a → M[a]? = some (o.cell rs)
  rb : ∀ a ∈ rs, B.length ≤ a
  pb : ∀ a ∈ ps, B.length ≤ a
  ro : ∀ o ∈ s.pile, ∀ j, o.row = some j → j < rs.length
theorem get_lt {α : Type} {l : List α} {i : Nat} (h : i < l.length) : ∃ a, l[i]? = some a := ⟨l[i], List.getElem?_eq_getElem h⟩
theorem nd_inj {l : List Nat} (h : l.Nodup) {i j a : Nat} (hi : l[i]? = some a) (hj : l[j]? = some a) : i = j := by
  obtain ⟨l1, e1⟩ := List.getElem?_eq_some_iff.mp hi
  obtain ⟨l2, e2⟩ := List.getElem?_eq_some_iff.mp hj
  have hp := List.pairwise_iff_getElem.mp h
  rcases Nat.lt_trichotomy i j with q | q | q
  · exact absurd (e1.trans e2.symm) (hp i j l1 l2 q)
  · exact q
  · exact absurd (e2.trans e1.symm) (hp j i l2 l1 q)
section
variable {B : Mem} {tl : List Nat} {s : St} {rs ps : List Nat} {M : Mem}
theorem R.plen (h : R B tl s rs ps M) : ps.length = s.pile.length := by rw [h.pl, List.length_append]; rfl
theorem R.rcell (h : R B tl s rs ps M) {a : Nat} (ha : a ∈ rs) : ∃ r : Row, M[a]? = some r.cell := by
  obtain ⟨i, hi⟩ := List.getElem?_of_mem ha
  have hl := (List.getElem?_eq_some_iff.mp hi).1
  obtain ⟨r, hr⟩ := get_lt (l := s.rows) (i := i) (by rw [← h.rl]; exact hl)
  exact ⟨r, h.rc i r a hr hi⟩
theorem R.pcell (h : R B tl s rs ps M) {a : Nat} (ha : a ∈ ps) : ∃ o : Ope, M[a]? = some (o.cell rs) := by
  obtain ⟨i, hi⟩ := List.getElem?_of_mem ha
  have hl := (List.getElem?_eq_some_iff.mp hi).1
  obtain ⟨o, ho⟩ := get_lt (l := s.pile) (i := i) (by rw [← h.plen]; exact hl)
  exact ⟨o, h.pc i o a ho hi⟩
theorem ne_cell {a b : Nat} {c d : Cell} (h1 : M[a]? = some c) (h2 : M[b]? = some d) (h : c ≠ d) : a ≠ b := by
  rintro rfl
  rw [h1] at h2
  exact h (Option.some.inj h2)
theorem ne_ow : ("OpenItem" : Str) ≠ "TextWalk" := by decide +kernel
theorem ne_rw : ("ItemRow" : Str) ≠ "TextWalk" := by decide +kernel
theorem ne_ro : ("ItemRow" : Str) ≠ "OpenItem" := by decide +kernel
theorem R.rne (h : R B tl s rs ps M) {a : Nat} (ha : a ∈ rs) : a ≠ B.length ∧ a ≠ B.length + 1 ∧ a ≠ B.length + 3 ∧ a ∉ ps ∧ a < M.length := by
  obtain ⟨r, hr⟩ := h.rcell ha
  refine ⟨ne_cell hr h.wk fun e => ne_rw (Cell.ins.inj e).1, ne_cell hr h.ra (fun e => nomatch e), ne_cell hr h.pa (fun e => nomatch e), fun hp => ?_, (List.getElem?_eq_some_iff.mp hr).1⟩
  obtain ⟨o, ho⟩ := h.pcell hp
  rw [hr] at ho
  exact ne_ro (Cell.ins.inj (Option.some.inj ho)).1
theorem R.pne (h : R B tl s rs ps M) {a : Nat} (ha : a ∈ ps) : a ≠ B.length ∧ a ≠ B.length + 1 ∧ a ≠ B.length + 3 ∧ a ∉ rs ∧ a < M.length := by
  obtain ⟨r, hr⟩ := h.pcell ha
  refine ⟨ne_cell hr h.wk fun e => ne_ow (Cell.ins.inj e).1, ne_cell hr h.ra (fun e => nomatch e), ne_cell hr h.pa (fun e => nomatch e), fun hp => (h.rne hp).2.2.2.1 ha, (List.getElem?_eq_some_iff.mp hr).1⟩
theorem set_ne {a b : Nat} {c : Cell} (h : b ≠ a) : (M.set a c)[b]? = M[b]? := List.getElem?_set_ne fun e => h e.symm
theorem R.len (h : R B tl s rs ps M) : B.length + 3 < M.length := (List.getElem?_eq_some_iff.mp h.pa).1
/-- own_at -/
theorem R.at (h : R B tl s rs ps M) (k : Nat) : R B tl { s with pos := k } rs ps (M.set B.length (wkC B tl k)) where
  base := take_set h.base (Nat.le_refl _)
  wk := get_set h.wk
  ra := by rw [set_ne (by omega)]; exact h.ra
  pa := by rw [set_ne (by omega)]; exact h.pa
  rl := h.rl
  pl := h.pl
  rn := h.rn
  pn := h.pn
  rc i r a h1 h2 := by rw [set_ne (h.rne (List.mem_of_getElem? h2)).1]; exact h.rc i r a h1 h2
  pc i o a h1 h2 := by rw [set_ne (h.pne (List.mem_of_getElem? h2)).1]; exact h.pc i o a h1 h2
  rb := h.rb
  pb := h.pb
  ro := h.ro
/-- a row changed -/
theorem R.row (h : R B tl s rs ps M) {i a : Nat} (r : Row) (hi : rs[i]? = some a) : R B tl { s with rows := s.rows.set i r } rs ps (M.set a r.cell) where
  base := take_set h.base (h.rb a (List.mem_of_getElem? hi))
  wk := by rw [set_ne (h.rne (List.mem_of_getElem? hi)).1.symm]; exact h.wk
  ra := by rw [set_ne (h.rne (List.mem_of_getElem? hi)).2.1.symm]; exact h.ra
  pa := by rw [set_ne (h.rne (List.mem_of_getElem? hi)).2.2.1.symm]; exact h.pa
  rl := by rw [h.rl]; simp
  pl := h.pl
  rn := h.rn
  pn := h.pn
  rc j r' b h1 h2 := by
    by_cases e : j = i
    · subst e
      rw [hi] at h2
      cases h2
      have hl : j < s.rows.length := by rw [← h.rl]; exact (List.getElem?_eq_some_iff.mp hi).1
      simp only [List.getElem?_set_self hl] at h1
      cases h1
      obtain ⟨r0, h0⟩ := h.rcell (List.mem_of_getElem? hi)
      exact get_set h0
    · simp only [List.getElem?_set_ne (fun q => e q.symm)] at h1
      have : b ≠ a := by
        rintro rfl
        exact e (nd_inj h.rn h2 hi)
      rw [set_ne this]
      exact h.rc j r' b h1 h2
  pc j o b h1 h2 := by
    rw [set_ne]
    · exact h.pc j o b h1 h2
    · rintro rfl
      exact (h.rne (List.mem_of_getElem? hi)).2.2.2.1 (List.mem_of_getElem? h2)
  rb := h.rb
  pb := h.pb
  ro := h.ro
/-- the open item on top changed -/
theorem R.tp (h : R B tl s rs ps M) {p : Nat} (o : Ope) (hp : ps[s.low.length]? = some p) (hr : o.row = s.top.row) : R B tl { s with top := o } rs ps (M.set p (o.cell rs)) where
  base := take_set h.base (h.pb p (List.mem_of_getElem? hp))
  wk := by rw [set_ne (h.pne (List.mem_of_getElem? hp)).1.symm]; exact h.wk
  ra := by rw [set_ne (h.pne (List.mem_of_getElem? hp)).2.1.symm]; exact h.ra
  pa := by rw [set_ne (h.pne (List.mem_of_getElem? hp)).2.2.1.symm]; exact h.pa
  rl := h.rl
  pl := h.pl
  rn := h.rn
  pn := h.pn
  rc j r b h1 h2 := by
    rw [set_ne]
    · exact h.rc j r b h1 h2
    · rintro rfl
      exact (h.pne (List.mem_of_getElem? hp)).2.2.2.1 (List.mem_of_getElem? h2)
  pc j o' b h1 h2 := by
    by_cases e : j = s.low.length
    · subst e
      rw [hp] at h2
      cases h2
      simp only [St.pile, List.getElem?_append_right (Nat.le_refl _), Nat.sub_self] at h1
      cases h1
      obtain ⟨r0, h0⟩ := h.pcell (List.mem_of_getElem? hp)
      exact get_set h0
    · have hj : j < s.low.length := by
        have := (List.getElem?_eq_some_iff.mp h2).1
        rw [h.pl] at this
        omega
      have h3 : s.pile[j]? = some o' := by
        simp only [St.pile, List.getElem?_append_left hj] at h1 ⊢
        exact h1
      have : b ≠ p := by
        rintro rfl
        exact e (nd_inj h.pn h2 hp)
      rw [set_ne this]
      exact h.pc j o' b h3 h2
  rb := h.rb
  pb := h.pb
  ro o' ho j hj := by
    rcases List.mem_append.mp ho with ho | ho
    · exact h.ro o' (List.mem_append.mpr (.inl ho)) j hj
    · cases List.mem_singleton.mp ho
      exact h.ro s.top (List.mem_append.mpr (.inr (List.mem_singleton.mpr rfl))) j (hr ▸ hj)
theorem app_get {a : Nat} {c d : Cell} (h : M[a]? = some d) : (M ++ [c])[a]? = some d := by
  rw [List.getElem?_append_left (List.getElem?_eq_some_iff.mp h).1]; exact h
/-- a new cell -/
theorem R.new (h : R B tl s rs ps M) (c : Cell) : R B tl s rs ps (M ++ [c]) where
  base := take_app h.base (by have := h.len; omega)
  wk := app_get h.wk
  ra := app_get h.ra
  pa := app_get h.pa
  rl := h.rl
  pl := h.pl
  rn := h.rn
  pn := h.pn
  rc i r a h1 h2 := app_get (h.rc i r a h1 h2)
  pc i o a h1 h2 := app_get (h.pc i o a h1 h2)
  rb := h.rb
  pb := h.pb
  ro := h.ro
theorem rowRef_app {rs : List Nat} {a : Nat} {o : Option Nat} (h : ∀ j, o = some j → j < rs.length) : rowRef (rs ++ [a]) o = rowRef rs o := by
  cases o with
  | none => rfl
  | some j =>
    have := h j rfl
    simp only [rowRef, List.getD_eq_getElem?_getD, List.getElem?_append_left this]
theorem nodup_app {l : List Nat} {a : Nat} (h : l.Nodup) (ha : a ∉ l) : (l ++ [a]).Nodup := by
  refine List.nodup_append.mpr ⟨h, List.nodup_cons.mpr ⟨(fun z => nomatch z), List.nodup_nil⟩, ?_⟩
  intro x hx y hy e
  cases List.mem_singleton.mp hy
  subst e
  exact ha hx
/-- a row put behind the rows -/
theorem R.addR (h : R B tl s rs ps M) {a : Nat} {r : Row} (ha : M[a]? = some r.cell) (hn : a ∉ rs) (hb : B.length ≤ a) : R B tl { s with rows := s.rows ++ [r] } (rs ++ [a]) ps (M.set (B.length + 1) (.lst ((rs ++ [a]).map .ref))) where
  base := take_set h.base (by omega)
  wk := by rw [set_ne (by omega)]; exact h.wk
  ra := get_set h.ra
  pa := by rw [set_ne (by omega)]; exact h.pa
  rl := by simp [h.rl]
  pl := h.pl
  rn := nodup_app h.rn hn
  pn := h.pn
  rc i r' b h1 h2 := by
    have hne : b ≠ B.length + 1 := by
      rcases List.mem_append.mp (List.mem_of_getElem? h2) with hm | hm
      · exact (h.rne hm).2.1
      · cases List.mem_singleton.mp hm
        exact ne_cell ha h.ra fun e => nomatch e
    rw [set_ne hne]
    by_cases e : i < rs.length
    · rw [List.getElem?_append_left e] at h2
      simp only [List.getElem?_append_left (by rw [← h.rl]; exact e : i < s.rows.length)] at h1
      exact h.rc i r' b h1 h2
    · have hi : i = rs.length := by
        have := (List.getElem?_eq_some_iff.mp h2).1
        simp at this
        omega
      subst hi
      rw [List.getElem?_append_right (Nat.le_refl _), Nat.sub_self] at h2
      simp only [h.rl, List.getElem?_append_right (Nat.le_refl _), Nat.sub_self] at h1
      cases h1
      cases h2
      exact ha
  pc i o b h1 h2 := by
    rw [set_ne (h.pne (List.mem_of_getElem? h2)).2.1]
    have := h.pc i o b h1 h2
    rw [this]
    simp only [Ope.cell, rowRef_app (h.ro o (List.mem_of_getElem? h1))]
  rb b hm := by
    rcases List.mem_append.mp hm with hm | hm
    · exact h.rb b hm
    · cases List.mem_singleton.mp hm
      exact hb
  pb := h.pb
  ro o ho j hj := by
    have := h.ro o ho j hj
    rw [List.length_append]
    omega
/-- an open item put on the pile -/
theorem R.push (h : R B tl s rs ps M) {a : Nat} {o : Ope} (ha : M[a]? = some (o.cell rs)) (hn : a ∉ ps) (hb : B.length ≤ a) (hr : ∀ j, o.row = some j → j < rs.length) : R B tl { s with low := s.low ++ [s.top], top := o } rs (ps ++ [a]) (M.set (B.length + 3) (.lst ((ps ++ [a]).map .ref))) where
  base := take_set h.base (by omega)
  wk := by rw [set_ne (by omega)]; exact h.wk
  ra := by rw [set_ne (by omega)]; exact h.ra
  pa := get_set h.pa
  rl := h.rl
  pl := by simp [h.pl]
  rn := h.rn
  pn := nodup_app h.pn hn
  rc i r b h1 h2 := by rw [set_ne (h.rne (List.mem_of_getElem? h2)).2.2.1]; exact h.rc i r b h1 h2
  pc i o' b h1 h2 := by
    have hne : b ≠ B.length + 3 := by
      rcases List.mem_append.mp (List.mem_of_getElem? h2) with hm | hm
      · exact (h.pne hm).2.2.1
      · cases List.mem_singleton.mp hm
        exact ne_cell ha h.pa fun e => nomatch e
    rw [set_ne hne]
    by_cases e : i < ps.length
    · rw [List.getElem?_append_left e] at h2
      simp only [St.pile] at h1
      rw [List.getElem?_append_left (by rw [List.length_append, List.length_singleton, ← h.pl]; exact e)] at h1
      exact h.pc i o' b h1 h2
    · have hi : i = ps.length := by
        have := (List.getElem?_eq_some_iff.mp h2).1
        simp at this
        omega
      subst hi
      rw [List.getElem?_append_right (Nat.le_refl _), Nat.sub_self] at h2
      simp only [St.pile] at h1
      rw [List.getElem?_append_right (by rw [List.length_append, List.length_singleton, h.pl]; exact Nat.le_refl _), show ps.length - (s.low ++ [s.top]).length = 0 from by rw [List.length_append, List.length_singleton, h.pl]; omega] at h1
      cases h1
      cases h2
      exact ha
  rb := h.rb
  pb b hm := by
    rcases List.mem_append.mp hm with hm | hm
    · exact h.pb b hm
    · cases List.mem_singleton.mp hm
      exact hb
  ro o' ho j hj := by
    rcases List.mem_append.mp ho with ho | ho
    · exact h.ro o' ho j hj
    · cases List.mem_singleton.mp ho
      exact hr j hj
theorem dl_get {α : Type} {l : List α} {i : Nat} {a : α} (h : l.dropLast[i]? = some a) : l[i]? = some a := by
  rw [List.getElem?_dropLast] at h
  split at h
  · exact h
  · cases h
/-- the top of the pile taken off -/
theorem R.pop (h : R B tl s rs ps M) {l : List Ope} {t : Ope} (hl : s.low = l ++ [t]) : R B tl { s with low := l, top := t } rs ps.dropLast (M.set (B.length + 3) (.lst (ps.dropLast.map .ref))) where
  base := take_set h.base (by omega)
  wk := by rw [set_ne (by omega)]; exact h.wk
  ra := by rw [set_ne (by omega)]; exact h.ra
  pa := get_set h.pa
  rl := h.rl
  pl := by rw [List.length_dropLast, h.pl, hl, List.length_append]; rfl
  rn := h.rn
  pn := h.pn.sublist (List.dropLast_sublist ps)
  rc i r b h1 h2 := by rw [set_ne (h.rne (List.mem_of_getElem? h2)).2.2.1]; exact h.rc i r b h1 h2
  pc i o' b h1 h2 := by
    have h3 := dl_get h2
    rw [set_ne (h.pne (List.mem_of_getElem? h3)).2.2.1]
    refine h.pc i o' b ?_ h3
    have hi := (List.getElem?_eq_some_iff.mp h1).1
    simp only [St.pile, hl]
    rw [List.getElem?_append_left hi]
    exact h1
  rb := h.rb
  pb b hm := h.pb b (List.dropLast_subset ps hm)
  ro o' ho j hj := by
    refine h.ro o' ?_ j hj
    simp only [St.pile, hl]
    exact List.mem_append.mpr (.inl ho)
theorem rowRef_dl {rs : List Nat} {o : Option Nat} (h : ∀ j, o = some j → j < rs.length - 1) : rowRef rs.dropLast o = rowRef rs o := by
  cases o with
  | none => rfl
  | some j =>
    have := h j rfl
    simp only [rowRef, List.getD_eq_getElem?_getD, List.getElem?_dropLast, if_pos this]
/-- the last row taken off -/
theorem R.unR (h : R B tl s rs ps M) {l : List Row} {r : Row} (hl : s.rows = l ++ [r]) (hr : ∀ o ∈ s.pile, ∀ j, o.row = some j → j < l.length) : R B tl { s with rows := l } rs.dropLast ps (M.set (B.length + 1) (.lst (rs.dropLast.map .ref))) where
  base := take_set h.base (by omega)
  wk := by rw [set_ne (by omega)]; exact h.wk
  ra := get_set h.ra
  pa := by rw [set_ne (by omega)]; exact h.pa
  rl := by rw [List.length_dropLast, h.rl, hl, List.length_append]; rfl
  pl := h.pl
  rn := h.rn.sublist (List.dropLast_sublist rs)
  pn := h.pn
  rc i r' b h1 h2 := by
    have h3 := dl_get h2
    rw [set_ne (h.rne (List.mem_of_getElem? h3)).2.1]
    refine h.rc i r' b ?_ h3
    have hi := (List.getElem?_eq_some_iff.mp h1).1
    rw [hl, List.getElem?_append_left hi]
    exact h1
  pc i o b h1 h2 := by
    rw [set_ne (h.pne (List.mem_of_getElem? h2)).2.1, h.pc i o b h1 h2]
    have e : rs.length - 1 = l.length := by rw [h.rl, hl, List.length_append]; rfl
    simp only [Ope.cell, rowRef_dl (fun j hj => by rw [e]; exact hr o (List.mem_of_getElem? h1) j hj)]
  rb b hm := h.rb b (List.dropLast_subset rs hm)
  pb := h.pb
  ro o ho j hj := by
    have := hr o ho j hj
    rw [List.length_dropLast, h.rl, hl, List.length_append]
    exact this
/-- what is changed is seen -/
theorem R.dirty {s' : St} {rs' ps' : List Nat} {M' : Mem} (h : R B tl s rs ps M) (h' : R B tl s' rs' ps' M') (hd : s.pos ≠ s'.pos ∨ s.rows.length ≠ s'.rows.length) : M'.take M.length ≠ M := by
  intro e
  have hl := h.len
  have g : ∀ i, i < M.length → M'[i]? = M[i]? := fun i hi => by
    have e2 := congrArg (fun (l : Mem) => l[i]?) e
    simp only [List.getElem?_take_of_lt hi] at e2
    exact e2
  rcases hd with hd | hd
  · have := g B.length (by omega)
    rw [h.wk, h'.wk] at this
    have e1 := (Cell.ins.inj (Option.some.inj this)).2
    simp only [List.cons.injEq, Prod.mk.injEq, MV.int.injEq, true_and, and_true] at e1
    exact hd (Int.ofNat.inj e1.symm)
  · have := g (B.length + 1) (by omega)
    rw [h.ra, h'.ra] at this
    have e1 := congrArg List.length (Cell.lst.inj (Option.some.inj this))
    rw [List.length_map, List.length_map, h.rl, h'.rl] at e1
    exact hd e1.symm
end
end P
end LawK67

set_option Elab.async false
set_option linter.all false
set_option maxRecDepth 100000
set_option maxHeartbeats 4000000
namespace LawK67
namespace P
open PySem L2 Mini
local macro_rules | `(tactic| walk_at "ev") => `(tactic| first
  | ((with_reducible refine w_var (x := ?_) ?_ ?_); rotate_left 1; exact rfl)
  | with_reducible first | refine w_con ?_ | refine w_bin ?_ | refine w_cmp ?_ | refine w_idx ?_ | refine w_blt ?_ | refine w_nil ?_ | refine w_cons ?_ | refine w_att ?_ | refine w_cal ?_ | refine w_neg ?_ | refine w_not ?_ | refine w_and ?_ | refine w_or ?_ | refine w_chn ?_ | refine w_ife ?_ | refine w_slc ?_ | refine w_isi ?_ | refine w_som ?_ | refine w_non ?_ | refine w_star ?_ | refine w_dsp ?_ | refine w_bmt ?_ | refine w_mth ?_ | refine w_new ?_ | refine w_tup ?_ | refine w_lst ?_ | refine w_nwl ?_ | refine w_ndd ?_ | refine w_seq ?_ | refine w_rng ?_ | refine w_tno ?_ | refine w_tso ?_
  | refine v_cons ?_ | refine v_nil ?_ | refine v_asg ?_ | refine v_asgT ?_ | refine v_asgP ?_ | refine v_ret ?_ | refine v_retN ?_ | refine v_exp ?_ | refine v_ite ?_ | refine v_sat ?_ | refine v_sub ?_ | refine v_augA ?_ | refine v_for ?_ | refine v_rse ?_ | refine v_try ?_ | refine v_pas ?_ | refine v_cnt ?_
  | ((with_reducible refine w_glb (x := ?_) ?_ ?_); rotate_left 1; exact rfl) | ((with_reducible refine v_augV (z := ?_) ?_ ?_); rotate_left 1; exact rfl))
local macro_rules | `(tactic| walk_at "op") => `(tactic| refine ⟨_, rfl, ?_⟩)
local macro_rules | `(tactic| walk_at "sz") => `(tactic| refine ⟨szl (by first | decide | simp), ?_⟩)
local macro_rules | `(tactic| walk_at "go") => `(tactic| repeat first | walk_at "ev" | walk_at "op" | walk_at "sz")
/-! ### the methods of the walk -/
def hdIn (l : List Nat) (sg : Str) : Bool := match l with
  | [] => false
  | c :: _ => decide (c ∈ sg.cps.toList)
theorem sz3 {k : Nat} (h : k ≤ 100000) : k ≤ sizeLine := Nat.le_trans h (by decide)
theorem lenT {M : Mem} {l : List Nat} {Q : MV → Prop} (h : l.length ≤ 3000) (q : Q (.int (l.length : Int))) : Op (bltV .len M [.str (SX.S l)]) Q := by
  refine ⟨_, ?_, q⟩
  show biLen M [.str (SX.S l)] = _
  have e := SX.S_len l
  simp only [biLen, lenV]
  rw [if_pos (by rw [e]; exact sz3 (by omega)), e]
  rfl
theorem eq_str {M : Mem} {a b : Str} (ha : PyData.strOk a = true) (hb : PyData.strOk b = true) : eqD M (.str a) (.str b) = some (a == b) := by
  simp [eqD, toD, SeqAt.shaped, PyData.eqv, PyData.canLay0, PyData.depth, ha, hb]
theorem ok_S {l : List Nat} (h : ∀ c ∈ l, c < 1000) : PyData.strOk (SX.S l) = true := by
  simp only [PyData.strOk]
  simp
  intro c hc
  exact Nat.lt_trans (h c hc) (by decide)
theorem cut_S (tl : List Nat) (a b : Nat) : cutS (SX.S tl) (some (a : Int)) (some (b : Int)) = SX.S ((tl.drop a).take (b - a)) := by
  have e : (SX.S tl).length = tl.length := SX.S_len tl
  unfold cutS
  rw [HT.sIx_nat, HT.sIx_nat, e]
  show SX.S ((tl.drop (min a tl.length)).take (min b tl.length - min a tl.length)) = _
  congr 1
  by_cases ha : a ≤ tl.length
  · rw [Nat.min_eq_left ha]
    by_cases hb : b ≤ tl.length
    · rw [Nat.min_eq_left hb]
    · rw [Nat.min_eq_right (by omega), List.take_of_length_le (by rw [List.length_drop]; omega), List.take_of_length_le (by rw [List.length_drop]; omega)]
  · rw [List.drop_eq_nil_of_le (by omega : tl.length ≤ min a tl.length), List.drop_eq_nil_of_le (by omega : tl.length ≤ a), List.take_nil, List.take_nil]
theorem slcT {M : Mem} {tl : List Nat} {a b : Nat} {Q : MV → Prop} (h : tl.length ≤ 3000) (q : Q (.str (SX.S ((tl.drop a).take (b - a))))) : Op (slcV M (.str (SX.S tl)) (some (a : Int)) (some (b : Int))) Q := by
  refine ⟨_, ?_, q⟩
  have e : (SX.S tl).length = tl.length := SX.S_len tl
  simp only [slcV]
  rw [if_pos (by rw [e]; exact sz3 (by omega)), cut_S]
theorem idxT {M : Mem} {tl : List Nat} {k c : Nat} {kd} {Q : MV → Prop} (h : tl.length ≤ 3000) (hc : tl[k]? = some c) (q : Q (.str (SX.S [c]))) : Op (idxV M kd (.str (SX.S tl)) (.int (k : Int))) Q := by
  refine ⟨_, ?_, q⟩
  have e : (SX.S tl).length = tl.length := SX.S_len tl
  simp only [idxV]
  rw [if_pos (by rw [e]; exact sz3 (by omega))]
  show (atI tl (k : Int)).map _ = _
  rw [atI_nat hc]
  rfl
theorem isf_dirty {Q : MV → Mem → Prop} {E : Str → MV → Mem → Prop} {M M1 : Mem} {k : Bool} {v : MV} (hd : M1.take M.length ≠ M) (h : Q v M1) : Is (fin k M (.ok v M1)) Q E := by
  rw [fin_dirty hd]
  exact is_ok rfl h
theorem v_whl {g : Cfg} {r : Rho} {M : Mem} {c : CE} {b : CB} {Q : Flw → Mem → Prop} {E : Str → MV → Mem → Prop} (h : Is (whlV (fun r1 M1 => bitV g r1 c M1) (fun r1 M1 => evB g b r1 M1) g.fuel r M) Q E) : Is (evS g (.whl c b) r M) Q E := by
  simp only [evS]; exact h
theorem whl_step {t : Rho → Mem → Res Bool} {f : Rho → Mem → Res Flw} {k : Nat} {r : Rho} {M : Mem} {Q : Flw → Mem → Prop} {E : Str → MV → Mem → Prop} (h : Is (t r M) (fun b M1 => if b = true then Is (f r M1) (fun w M2 => match w with
    | .next r1 => Is (whlV t f k r1 M2) Q E
    | .cnt r1 => Is (whlV t f k r1 M2) Q E
    | .brk r1 => Q (.next r1) M2
    | .ret y => Q (.ret y) M2) E else Q (.next r) M1) E) : Is (whlV t f (k + 1) r M) Q E := by
  unfold whlV
  refine is_bind (h.imp fun b M1 h1 => ?_)
  cases b with
  | true =>
    rw [if_pos rfl] at h1 ⊢
    refine is_bind (h1.imp fun w M2 h2 => ?_)
    cases w with
    | next r1 => exact h2
    | cnt r1 => exact h2
    | brk r1 => exact is_ok rfl h2
    | ret y => exact is_ok rfl h2
  | false =>
    rw [if_neg Bool.false_ne_true] at h1 ⊢
    exact is_ok rfl h1
theorem is_bit {g : Cfg} {r : Rho} {M : Mem} {e : CE} {Q : Bool → Mem → Prop} {E : Str → MV → Mem → Prop} (h : Is (evE g r e M) (fun x M1 => Op (truth M1 x) fun k => Q k M1) E) : Is (bitV g r e M) Q E := by
  unfold bitV
  exact is_bind (h.imp fun x M1 h1 => is_opt h1)
theorem tb2 : env0.tab ("OpenItem", some "__init__") = some c0 := by kernel_rfl
theorem tb3 : env0.tab ("ItemRow", some "__init__") = some c1 := by kernel_rfl
theorem tb4 : env0.tab ("TextWalk", some "__init__") = some c2 := by kernel_rfl
theorem tb5 : env0.tab ("TextWalk", some "next_in") = some c3 := by kernel_rfl
theorem tb6 : env0.tab ("TextWalk", some "refuse_here") = some c4 := by kernel_rfl
theorem tb7 : env0.tab ("TextWalk", some "new_row") = some c5 := by kernel_rfl
theorem tb8 : env0.tab ("TextWalk", some "go_over_name") = some c6 := by kernel_rfl
theorem tb9 : env0.tab ("TextWalk", some "go_over_number") = some c7 := by kernel_rfl
theorem tb10 : env0.tab ("TextWalk", some "small_item") = some c8 := by kernel_rfl
theorem tb11 : env0.tab ("TextWalk", some "begin_item") = some c9 := by kernel_rfl
theorem tb12 : env0.tab ("TextWalk", some "begin_first") = some c10 := by kernel_rfl
theorem tb13 : env0.tab ("TextWalk", some "close_item") = some c11 := by kernel_rfl
theorem tb14 : env0.tab ("TextWalk", some "go_on") = some c12 := by kernel_rfl
theorem tb15 : env0.tab ("TextWalk", some "walked_rows") = some c13 := by kernel_rfl
theorem tb16 : env0.tab ("rows_of_text", none) = some c14 := by kernel_rfl
section
variable {B : Mem} {tl : List Nat} {s : St} {rs ps : List Nat} {M : Mem} {n : Nat} {r : Rho} {Q : MV → Mem → Prop} {E : Str → MV → Mem → Prop}
theorem f_at (h : R B tl s rs ps M) : fldV env0.cl M (.ref B.length) "own_at" = some (.int (s.pos : Int)) := by simp only [fldV, insV, h.wk]; kernel_rfl
theorem f_text (h : R B tl s rs ps M) : fldV env0.cl M (.ref B.length) "own_text" = some (.str (SX.S tl)) := by simp only [fldV, insV, h.wk]; kernel_rfl
theorem f_rows (h : R B tl s rs ps M) : fldV env0.cl M (.ref B.length) "own_rows" = some (.ref (B.length + 1)) := by simp only [fldV, insV, h.wk]; kernel_rfl
theorem f_pile (h : R B tl s rs ps M) : fldV env0.cl M (.ref B.length) "own_pile" = some (.ref (B.length + 3)) := by simp only [fldV, insV, h.wk]; kernel_rfl
theorem s_at (h : R B tl s rs ps M) (k : Nat) : satV env0.cl M (.ref B.length) "own_at" (.int (k : Int)) = some (M.set B.length (wkC B tl k)) := by simp only [satV, h.wk]; kernel_rfl
theorem a_at (h : R B tl s rs ps M) (h0 : r[0]? = some (some (.ref B.length))) (q : Q (.int (s.pos : Int)) M) : Is (evE (env0.cfg n) r (.att (.var 0) "own_at") M) Q E := w_att (w_var h0 ⟨_, f_at h, q⟩)
theorem a_text (h : R B tl s rs ps M) (h0 : r[0]? = some (some (.ref B.length))) (q : Q (.str (SX.S tl)) M) : Is (evE (env0.cfg n) r (.att (.var 0) "own_text") M) Q E := w_att (w_var h0 ⟨_, f_text h, q⟩)
theorem a_rows (h : R B tl s rs ps M) (h0 : r[0]? = some (some (.ref B.length))) (q : Q (.ref (B.length + 1)) M) : Is (evE (env0.cfg n) r (.att (.var 0) "own_rows") M) Q E := w_att (w_var h0 ⟨_, f_rows h, q⟩)
theorem a_pile (h : R B tl s rs ps M) (h0 : r[0]? = some (some (.ref B.length))) (q : Q (.ref (B.length + 3)) M) : Is (evE (env0.cfg n) r (.att (.var 0) "own_pile") M) Q E := w_att (w_var h0 ⟨_, f_pile h, q⟩)
theorem v_step {Q : Flw → Mem → Prop} {j : Int} (k : Nat) (h : R B tl s rs ps M) (h0 : r[0]? = some (some (.ref B.length))) (hj : (s.pos : Int) + j = (k : Int)) (q : Q (.next r) (M.set B.length (wkC B tl k))) : Is (evS (env0.cfg n) (.augA (.var 0) "own_at" .Add (.con (.int j))) r M) Q E := by
  refine v_augA (w_var h0 ⟨_, f_at h, w_con ⟨rfl, ⟨_, rfl, ⟨_, ?_, q⟩⟩⟩⟩)
  rw [hj]
  exact s_at h k
theorem next_in (h : R B tl s rs ps M) (hl : tl.length ≤ 3000) {sg : Str} {k : Bool} (hk : hdIn (tl.drop s.pos) sg = k) (q : Q (.bl k) M) : Is (evF env0 (n + 1) ("TextWalk", some "next_in") [.ref B.length, .str sg] M) Q E := by
  refine w_body (d := c3) tb5 rfl ?_
  dsimp only [c3, Mini.start]
  refine v_cons (v_ret (w_and (w_cmp (a_at h rfl (w_blt (w_cons (a_text h rfl (w_nil (lenT hl ⟨_, rfl, ⟨_, rfl, ?_⟩⟩)))))))))
  by_cases c : s.pos < tl.length
  · refine br_t (decide_eq_true (Int.ofNat_lt.mpr c)) ?_
    have hg := List.getElem?_eq_getElem c
    refine w_cmp (w_idx (a_text h rfl (a_at h rfl (idxT hl hg (w_var rfl ⟨k, ?_, isf_same q⟩)))))
    rw [List.drop_eq_getElem_cons c] at hk
    rw [← hk]
    rfl
  · refine br_f (decide_eq_false fun z => c (Int.ofNat_lt.mp z)) ?_
    rw [List.drop_eq_nil_of_le (by omega)] at hk
    have e : decide ((s.pos : Int) < (tl.length : Int)) = k := by
      rw [← hk]
      exact decide_eq_false fun z => c (Int.ofNat_lt.mp z)
    dsimp only
    rw [e]
    exact isf_same q
theorem mi_next (h : R B tl s rs ps M) : insV M (.ref B.length) = some (("TextWalk" : Str), [(("own_text" : Str), MV.str (SX.S tl)), (("own_at" : Str), MV.int (s.pos : Int)), (("own_rows" : Str), MV.ref (B.length + 1)), (("own_pile" : Str), MV.ref (B.length + 3))]) := by
  simp only [insV, h.wk]
  rfl
theorem m_next (h : R B tl s rs ps M) (hl : tl.length ≤ 3000) {sg : Str} {k : Bool} (h0 : r[0]? = some (some (.ref B.length))) (hk : hdIn (tl.drop s.pos) sg = k) (q : Q (.bl k) M) : Is (evE (env0.cfg (n + 1)) r (.mth "TextWalk" (.var 0) "next_in" (.cons (.con (.str sg)) .nil)) M) Q E :=
  w_mth (w_var h0 ⟨_, mi_next h, by kernel_rfl, w_cons (w_con (w_nil (next_in h hl hk q)))⟩)
theorem m_nextG (h : R B tl s rs ps M) (hl : tl.length ≤ 3000) {x sg : Str} {k : Bool} (h0 : r[0]? = some (some (.ref B.length))) (hx : env0.glob x = some (.str sg)) (hk : hdIn (tl.drop s.pos) sg = k) (q : Q (.bl k) M) : Is (evE (env0.cfg (n + 1)) r (.mth "TextWalk" (.var 0) "next_in" (.cons (.glb x) .nil)) M) Q E :=
  w_mth (w_var h0 ⟨_, mi_next h, by kernel_rfl, w_cons (w_glb hx (w_nil (next_in h hl hk q)))⟩)
abbrev figs : Str := "0123456789"
abbrev figs1 : Str := "123456789"
abbrev lets : Str := "abcdefghijklmnopqrstuvwxyz"
theorem g_figs : env0.glob "TEXT_FIGURES" = some (.str figs) := by kernel_rfl
theorem g_figs1 : env0.glob "LEADING_FIGURES" = some (.str figs1) := by kernel_rfl
theorem g_lets : env0.glob "TEXT_LETTERS" = some (.str lets) := by kernel_rfl
theorem g_most : env0.glob "MOST_LETTERS" = some (.int 4) := by kernel_rfl
theorem refuse (h : R B tl s rs ps M) (e : E "BadText" (.int (s.pos : Int)) M) : Is (evF env0 (n + 1) ("TextWalk", some "refuse_here") [.ref B.length] M) Q E := by
  refine w_body (d := c4) tb6 rfl ?_
  dsimp only [c4, Mini.start]
  refine v_cons (v_rse (a_at h rfl ?_))
  rw [fin_lenX rfl]
  unfold Is
  exact e
theorem sat_new {c f : Str} {v : MV} {fs : List (Str × MV)} (hc : env0.cl c f = true) (hf : Nat.ble fs.length 999 = true) : satV env0.cl (M ++ [.ins c fs]) (.ref M.length) f v = some (M ++ [.ins c (putL f v fs)]) := by
  simp only [satV, List.getElem?_append_right (Nat.le_refl _), Nat.sub_self, List.getElem?_cons_zero]
  rw [if_pos ⟨hc, Nat.lt_succ_of_le (Nat.le_of_ble_eq_true hf)⟩, List.set_append_right _ _ (Nat.le_refl _), Nat.sub_self]
  rfl
theorem init_row {path : List Nat} {first : Nat} {kind : Str} {val : MV} (q : Q .non (M ++ [Row.cell ⟨path, first, first, kind, val⟩])) : Is (evF env0 (n + 1) ("ItemRow", some "__init__") [.ref M.length, .tup (nats path), .int (first : Int), .str kind, val] (M ++ [.ins "ItemRow" []])) Q E := by
  refine w_body (d := c1) tb3 rfl ?_
  dsimp only [c1, Mini.start]
  refine v_cons (v_sat (w_var rfl (w_var rfl ⟨_, sat_new (by kernel_rfl) (by kernel_rfl), ?_⟩)))
  refine v_cons (v_sat (w_var rfl (w_var rfl ⟨_, sat_new (by kernel_rfl) (by kernel_rfl), ?_⟩)))
  refine v_cons (v_sat (w_var rfl (w_var rfl ⟨_, sat_new (by kernel_rfl) (by kernel_rfl), ?_⟩)))
  refine v_cons (v_sat (w_var rfl (w_var rfl ⟨_, sat_new (by kernel_rfl) (by kernel_rfl), ?_⟩)))
  refine v_cons (v_sat (w_var rfl (w_var rfl ⟨_, sat_new (by kernel_rfl) (by kernel_rfl), ?_⟩)))
  refine v_nil (isf_len (by simp) ?_)
  exact q
theorem init_open {path : List Nat} {rv : MV} (q : Q .non (M ++ [.ins "OpenItem" [("own_path", .tup (nats path)), ("own_row", rv), ("own_many", .int 0)]])) : Is (evF env0 (n + 1) ("OpenItem", some "__init__") [.ref M.length, .tup (nats path), rv] (M ++ [.ins "OpenItem" []])) Q E := by
  refine w_body (d := c0) tb2 rfl ?_
  dsimp only [c0, Mini.start]
  refine v_cons (v_sat (w_var rfl (w_var rfl ⟨_, sat_new (by kernel_rfl) (by kernel_rfl), ?_⟩)))
  refine v_cons (v_sat (w_var rfl (w_var rfl ⟨_, sat_new (by kernel_rfl) (by kernel_rfl), ?_⟩)))
  refine v_cons (v_sat (w_con (w_var rfl ⟨_, sat_new (by kernel_rfl) (by kernel_rfl), ?_⟩)))
  refine v_nil (isf_len (by simp) ?_)
  exact q
theorem top_ix (h : R B tl s rs ps M) {kd} : ∃ p, ps[s.low.length]? = some p ∧ M[p]? = some (s.top.cell rs) ∧ idxV M kd (.ref (B.length + 3)) (.int (-1)) = some (.ref p) := by
  obtain ⟨p, hp⟩ := get_lt (l := ps) (i := s.low.length) (by rw [h.pl]; omega)
  refine ⟨p, hp, h.pc _ _ _ (by simp [St.pile]) hp, ?_⟩
  have e : ps = ps.take s.low.length ++ [p] := by
    have hl := (List.getElem?_eq_some_iff.mp hp)
    obtain ⟨hl, e2⟩ := hl
    rw [← e2, List.take_append_getElem hl, List.take_of_length_le (by rw [h.pl]; omega)]
  simp only [idxV, asL, h.pa, Option.bind_some]
  rw [e, List.map_append]
  exact atI_last _ _
end
end P
end LawK67

set_option Elab.async false
set_option linter.all false
set_option maxRecDepth 100000
set_option maxHeartbeats 4000000
namespace LawK67
namespace P
open PySem L2 Mini
local macro_rules | `(tactic| walk_at "ev") => `(tactic| first
  | ((with_reducible refine w_var (x := ?_) ?_ ?_); rotate_left 1; exact rfl)
  | with_reducible first | refine w_con ?_ | refine w_bin ?_ | refine w_cmp ?_ | refine w_idx ?_ | refine w_blt ?_ | refine w_nil ?_ | refine w_cons ?_ | refine w_att ?_ | refine w_cal ?_ | refine w_neg ?_ | refine w_not ?_ | refine w_and ?_ | refine w_or ?_ | refine w_chn ?_ | refine w_ife ?_ | refine w_slc ?_ | refine w_isi ?_ | refine w_som ?_ | refine w_non ?_ | refine w_star ?_ | refine w_dsp ?_ | refine w_bmt ?_ | refine w_mth ?_ | refine w_new ?_ | refine w_tup ?_ | refine w_lst ?_ | refine w_nwl ?_ | refine w_ndd ?_ | refine w_seq ?_ | refine w_rng ?_ | refine w_tno ?_ | refine w_tso ?_
  | refine v_cons ?_ | refine v_nil ?_ | refine v_asg ?_ | refine v_asgT ?_ | refine v_asgP ?_ | refine v_ret ?_ | refine v_retN ?_ | refine v_exp ?_ | refine v_ite ?_ | refine v_sat ?_ | refine v_sub ?_ | refine v_augA ?_ | refine v_for ?_ | refine v_rse ?_ | refine v_try ?_ | refine v_pas ?_ | refine v_cnt ?_
  | ((with_reducible refine w_glb (x := ?_) ?_ ?_); rotate_left 1; exact rfl) | ((with_reducible refine v_augV (z := ?_) ?_ ?_); rotate_left 1; exact rfl))
local macro_rules | `(tactic| walk_at "op") => `(tactic| refine ⟨_, rfl, ?_⟩)
local macro_rules | `(tactic| walk_at "sz") => `(tactic| refine ⟨szl (by first | decide | simp), ?_⟩)
local macro_rules | `(tactic| walk_at "go") => `(tactic| repeat first | walk_at "ev" | walk_at "op" | walk_at "sz")
section
variable {B : Mem} {tl : List Nat} {s : St} {rs ps : List Nat} {M : Mem} {n : Nat} {r : Rho} {Q : MV → Mem → Prop} {E : Str → MV → Mem → Prop}
theorem fo_path {p : Nat} {o : Ope} (h : M[p]? = some (o.cell rs)) : fldV env0.cl M (.ref p) "own_path" = some (.tup (nats o.path)) := by simp only [fldV, insV, h]; kernel_rfl
theorem fo_row {p : Nat} {o : Ope} (h : M[p]? = some (o.cell rs)) : fldV env0.cl M (.ref p) "own_row" = some (rowRef rs o.row) := by simp only [fldV, insV, h]; kernel_rfl
theorem fo_many {p : Nat} {o : Ope} (h : M[p]? = some (o.cell rs)) : fldV env0.cl M (.ref p) "own_many" = some (.int (o.many : Int)) := by simp only [fldV, insV, h]; kernel_rfl
theorem so_many {p : Nat} {o : Ope} (h : M[p]? = some (o.cell rs)) (k : Nat) : satV env0.cl M (.ref p) "own_many" (.int (k : Int)) = some (M.set p (Ope.cell rs { o with many := k })) := by simp only [satV, h]; kernel_rfl
theorem fr_path {p : Nat} {o : Row} (h : M[p]? = some o.cell) : fldV env0.cl M (.ref p) "own_path" = some (.tup (nats o.path)) := by simp only [fldV, insV, h]; kernel_rfl
theorem fr_kind {p : Nat} {o : Row} (h : M[p]? = some o.cell) : fldV env0.cl M (.ref p) "own_kind" = some (.str o.kind) := by simp only [fldV, insV, h]; kernel_rfl
theorem fr_val {p : Nat} {o : Row} (h : M[p]? = some o.cell) : fldV env0.cl M (.ref p) "own_value" = some o.val := by simp only [fldV, insV, h]; kernel_rfl
theorem sr_behind {p : Nat} {o : Row} (h : M[p]? = some o.cell) (k : Nat) : satV env0.cl M (.ref p) "own_behind" (.int (k : Int)) = some (M.set p (Row.cell { o with behind := k })) := by simp only [satV, h]; kernel_rfl
theorem sr_kind {p : Nat} {o : Row} (h : M[p]? = some o.cell) (k : Str) : satV env0.cl M (.ref p) "own_kind" (.str k) = some (M.set p (Row.cell { o with kind := k })) := by simp only [satV, h]; kernel_rfl
theorem sr_val {p : Nat} {o : Row} (h : M[p]? = some o.cell) (k : MV) : satV env0.cl M (.ref p) "own_value" k = some (M.set p (Row.cell { o with val := k })) := by simp only [satV, h]; kernel_rfl
theorem get_new {c : Cell} : (M ++ [c])[M.length]? = some c := by rw [List.getElem?_append_right (Nat.le_refl _), Nat.sub_self]; rfl
theorem app_ref {q : Nat} {xs : List Nat} {y : Nat} {Q : MV × Mem → Prop} (h : M[q]? = some (.lst (xs.map .ref))) (hl : xs.length ≤ 3000) (k : Q (.non, M.set q (.lst ((xs ++ [y]).map .ref)))) : Op (bmtV .append M (.ref q) [.ref y]) Q := by
  refine ⟨_, ?_, k⟩
  simp only [bmtV, h]
  rw [if_pos (by rw [List.length_map]; exact Nat.lt_of_le_of_lt hl (by decide)), List.map_append]
  rfl
theorem new_row (h : R B tl s rs ps M) (hr : s.rows.length ≤ 3000) (hp : s.top.path.length ≤ 100) {first : Nat} {kind : Str} {val : MV}
    (q : ∀ M', R B tl { s with rows := s.rows ++ [⟨s.top.path ++ [s.top.many], first, first, kind, val⟩], top := { s.top with many := s.top.many + 1 } } (rs ++ [M.length]) ps M' → Q (.ref M.length) M') : Is (evF env0 (n + 2) ("TextWalk", some "new_row") [.ref B.length, .int (first : Int), .str kind, val] M) Q E := by
  refine w_body (d := c5) tb7 rfl ?_
  dsimp only [c5, Mini.start]
  obtain ⟨p, hp1, hp2, hp3⟩ := top_ix h (kd := env0.kd)
  refine v_cons (v_asg (w_idx (a_pile h rfl (w_neg (w_con ⟨1, rfl, ⟨_, hp3, ?_⟩⟩)))))
  refine v_cons (v_asg (w_new (w_cons (w_tup (w_star (w_att (w_var rfl ⟨_, fo_path hp2, ⟨_, .inl rfl, ?_⟩⟩)))))))
  refine w_cons (w_att (w_var rfl ⟨_, fo_many hp2, w_nil ⟨sz3 (by simp [nats]; omega), ?_⟩⟩))
  refine w_cons (w_var rfl (w_cons (w_var rfl (w_cons (w_var rfl (w_nil ?_))))))
  have e1 : nats s.top.path ++ [MV.int (s.top.many : Int)] = nats (s.top.path ++ [s.top.many]) := by simp [nats]
  rw [e1]
  refine init_row ⟨rfl, ?_⟩
  have h1 := h.new (Row.cell ⟨s.top.path ++ [s.top.many], first, first, kind, val⟩)
  have hp2' := app_get (c := Row.cell ⟨s.top.path ++ [s.top.many], first, first, kind, val⟩) hp2
  have e2 : (s.top.many : Int) + 1 = ((s.top.many + 1 : Nat) : Int) := by omega
  refine v_cons (v_augA (w_var rfl ⟨_, fo_many hp2', w_con ⟨rfl, ⟨_, rfl, ?_⟩⟩⟩))
  rw [e2]
  refine ⟨_, so_many hp2' _, ?_⟩
  have h2 := h1.tp { s.top with many := s.top.many + 1 } hp1 rfl
  have hnew : ((M ++ [Row.cell ⟨s.top.path ++ [s.top.many], first, first, kind, val⟩]).set p (Ope.cell rs { s.top with many := s.top.many + 1 }))[M.length]? = some (Row.cell ⟨s.top.path ++ [s.top.many], first, first, kind, val⟩) := by
    rw [set_ne (by have := (h.pne (List.mem_of_getElem? hp1)).2.2.2.2; omega)]
    exact get_new
  have h3 := h2.addR hnew (fun z => by have := (h.rne z).2.2.2.2; omega) (by have := h.len; omega)
  refine v_cons (v_exp (w_bmt (a_rows h2 rfl ⟨rec_app h2.ra, w_cons (w_var rfl (w_nil (app_ref h2.ra (by rw [h2.rl]; exact hr) ?_)))⟩)))
  refine v_cons (v_ret (w_var rfl ?_))
  exact isf_dirty (h.dirty h3 (.inr (by simp))) (q _ h3)
abbrev nmC : CE := .and (.cmp .Lt (.bin .Sub (.att (.var 0) "own_at") (.var 1)) (.glb "MOST_LETTERS")) (.mth "TextWalk" (.var 0) "next_in" (.cons (.glb "TEXT_LETTERS") .nil))
abbrev nmB : CB := .cons (.augA (.var 0) "own_at" .Add (.con (.int 1))) .nil
theorem R.same (h : R B tl s rs ps M) : M.set B.length (wkC B tl s.pos) = M := by
  obtain ⟨hl, e⟩ := List.getElem?_eq_some_iff.mp h.wk
  rw [← e]
  exact List.set_getElem_self hl
theorem name_loop (hl : tl.length ≤ 3000) {first : Nat} {rest : List Nat} {Q : Flw → Mem → Prop} : ∀ (ls : List Nat) (k : Nat) (s : St) (M : Mem), R B tl s rs ps M → tl.drop s.pos = ls ++ rest → (∀ c ∈ ls, c ∈ lets.cps.toList) → s.pos + ls.length ≤ first + 4 → first ≤ s.pos → (s.pos + ls.length = first + 4 ∨ hdIn rest lets = false) → ls.length < k → Q (.next [some (.ref B.length), some (.int (first : Int))]) (M.set B.length (wkC B tl (s.pos + ls.length))) → Is (whlV (fun r1 M1 => bitV (env0.cfg (n + 1)) r1 nmC M1) (fun r1 M1 => evB (env0.cfg (n + 1)) nmB r1 M1) k [some (.ref B.length), some (.int (first : Int))] M) Q E
  | [], k, s, M, h, hd, hc, hm, hf, he, hk, q => by
    obtain ⟨k, rfl⟩ : ∃ j, k = j + 1 := ⟨k - 1, by simp at hk; omega⟩
    refine whl_step (is_bit (w_and (w_cmp (w_bin (a_at h rfl (w_var rfl ⟨_, rfl, w_glb g_most ⟨_, rfl, ⟨_, rfl, ?_⟩⟩⟩))))))
    simp only [List.length_nil, Nat.add_zero] at he q
    rw [h.same] at q
    by_cases c : s.pos = first + 4
    · refine br_f (decide_eq_false (by omega)) ⟨_, rfl, br_f (decide_eq_false (by omega)) q⟩
    · have he : hdIn rest lets = false := he.resolve_left c
      refine br_t (decide_eq_true (by simp at hm; omega)) ?_
      refine m_nextG h hl rfl g_lets (k := false) (by rw [hd]; exact he) ⟨_, rfl, br_f rfl q⟩
  | c :: ls, k, s, M, h, hd, hc, hm, hf, he, hk, q => by
    obtain ⟨k, rfl⟩ : ∃ j, k = j + 1 := ⟨k - 1, by simp at hk; omega⟩
    simp only [List.length_cons] at hm he hk q
    refine whl_step (is_bit (w_and (w_cmp (w_bin (a_at h rfl (w_var rfl ⟨_, rfl, w_glb g_most ⟨_, rfl, ⟨_, rfl, ?_⟩⟩⟩))))))
    refine br_t (decide_eq_true (by omega)) ?_
    refine m_nextG h hl rfl g_lets (k := true) (by rw [hd]; exact decide_eq_true (hc c List.mem_cons_self)) ⟨_, rfl, br_t rfl ?_⟩
    refine v_cons (v_step (s.pos + 1) h rfl (by omega) (v_nil ?_))
    have h1 := h.at (s.pos + 1)
    have hm1 : s.pos + 1 + ls.length ≤ first + 4 := by omega
    have hf1 : first ≤ s.pos + 1 := by omega
    have he1 : s.pos + 1 + ls.length = first + 4 ∨ hdIn rest lets = false := by
      rcases he with he | he
      · exact .inl (by omega)
      · exact .inr he
    refine name_loop hl ls k _ _ h1 ?_ (fun d hd => hc d (List.mem_cons_of_mem _ hd)) hm1 hf1 he1 (by omega) ?_
    · show tl.drop (s.pos + 1) = _
      rw [← List.drop_drop, hd]
      rfl
    · simp only [List.set_set]
      rw [show s.pos + 1 + ls.length = s.pos + (ls.length + 1) from by omega]
      exact q

/-- what a name is made of -/
def nmOk (ls fs rest : List Nat) : Prop := (∀ c ∈ ls, c ∈ lets.cps.toList) ∧ ls.length ≤ 4 ∧ (ls.length = 4 ∨ hdIn (fs ++ rest) lets = false) ∧ (match fs with
  | [] => hdIn rest figs1 = false
  | [f] => f ∈ figs1.cps.toList ∧ hdIn rest figs = false
  | [f, g] => f ∈ figs1.cps.toList ∧ g ∈ figs.cps.toList
  | _ => False)
theorem take_app2 {a b : List Nat} : (a ++ b).take a.length = a := by simp
theorem go_name (h : R B tl s rs ps M) (hl : tl.length ≤ 3000) {ls fs rest : List Nat} (hd : tl.drop s.pos = ls ++ (fs ++ rest)) (hn : nmOk ls fs rest) (q : Q (.str (SX.S (ls ++ fs))) (M.set B.length (wkC B tl (s.pos + (ls ++ fs).length)))) : Is (evF env0 (n + 2) ("TextWalk", some "go_over_name") [.ref B.length] M) Q E := by
  obtain ⟨n1, n2, n3, n4⟩ := hn
  refine w_body (d := c6) tb8 rfl ?_
  dsimp only [c6, Mini.start]
  refine v_cons (v_asg (a_at h rfl ?_))
  refine v_cons (v_whl ?_)
  refine name_loop hl ls _ s M h hd n1 (by omega) (Nat.le_refl _) (by rcases n3 with n3 | n3; exact .inl (by omega); exact .inr n3) (Nat.lt_of_le_of_lt n2 (by show 4 < 5000; decide)) ?_
  have h1 := h.at (s.pos + ls.length)
  have hd1 : tl.drop (s.pos + ls.length) = fs ++ rest := by
    rw [← List.drop_drop, hd, List.drop_left]
  have hcut : ∀ {M1 : Mem} {s1 : St} {P : Flw → Mem → Prop}, R B tl s1 rs ps M1 → s1.pos = s.pos + (ls ++ fs).length → P (.ret (.str (SX.S (ls ++ fs)))) M1 → Is (evB (env0.cfg (n + 1)) (.cons (.ret (.slc (.att (.var 0) "own_text") (.some (.var 1)) (.some (.att (.var 0) "own_at")))) .nil) [some (.ref B.length), some (.int (s.pos : Int))] M1) P (fun c x M1 => Is (fin false M (.exn c x M1)) Q E) := by
    intro M1 s1 P hR hp hP
    refine v_cons (v_ret (w_slc (a_text hR rfl (w_som (w_var rfl ⟨_, rfl, w_som (a_at hR rfl ⟨_, rfl, slcT hl ?_⟩)⟩)))))
    rw [hp, hd, Nat.add_sub_cancel_left, ← List.append_assoc, take_app2]
    exact hP
  have e5 : (s.pos : Int) + ((ls.length : Nat) : Int) = ((s.pos + ls.length : Nat) : Int) := by omega
  match fs, n4 with
  | [], n4 =>
    refine v_cons (v_ite (m_nextG h1 hl rfl g_figs1 (k := false) (by rw [hd1]; exact n4) ⟨_, rfl, br_f rfl (v_nil ?_)⟩))
    rw [List.append_nil] at q hcut
    exact hcut h1 rfl (isf_len set_len q)
  | [f], n4 =>
    refine v_cons (v_ite (m_nextG h1 hl rfl g_figs1 (k := true) (by rw [hd1]; exact decide_eq_true n4.1) ⟨_, rfl, br_t rfl ?_⟩))
    refine v_cons (v_step (s.pos + ls.length + 1) h1 rfl (by simp only; omega) ?_)
    have h2 := h1.at (s.pos + ls.length + 1)
    have hd2 : tl.drop (s.pos + ls.length + 1) = rest := by rw [← List.drop_drop, hd1]; rfl
    refine v_cons (v_ite (m_nextG h2 hl rfl g_figs (k := false) (by simp only; rw [hd2]; exact n4.2) ⟨_, rfl, br_f rfl (v_nil (v_nil ?_))⟩))
    refine hcut h2 (by simp only [List.length_append, List.length_cons, List.length_nil]; omega) (isf_len (by rw [set_len, set_len]) ?_)
    rw [List.set_set]
    rw [List.length_append] at q
    exact q
  | [f, g], n4 =>
    refine v_cons (v_ite (m_nextG h1 hl rfl g_figs1 (k := true) (by rw [hd1]; exact decide_eq_true n4.1) ⟨_, rfl, br_t rfl ?_⟩))
    refine v_cons (v_step (s.pos + ls.length + 1) h1 rfl (by simp only; omega) ?_)
    have h2 := h1.at (s.pos + ls.length + 1)
    have hd2 : tl.drop (s.pos + ls.length + 1) = g :: rest := by rw [← List.drop_drop, hd1]; rfl
    refine v_cons (v_ite (m_nextG h2 hl rfl g_figs (k := true) (by simp only; rw [hd2]; exact decide_eq_true n4.2) ⟨_, rfl, br_t rfl ?_⟩))
    refine v_cons (v_step (s.pos + ls.length + 2) h2 rfl (by simp only; omega) (v_nil (v_nil ?_)))
    have h3 := h2.at (s.pos + ls.length + 2)
    refine hcut h3 (by simp only [List.length_append, List.length_cons, List.length_nil]; omega) (isf_len (by rw [set_len, set_len, set_len]) ?_)
    rw [List.set_set, List.set_set]
    rw [List.length_append] at q
    exact q
def numOk (k : Nat) : Bool := match wl (.num k) with
  | [c] => decide (c ∈ figs.cps.toList) && (PySem.intText? (SX.S [c]) == some (k : Int))
  | [c, d] => decide (c ∈ figs.cps.toList) && decide (c ≠ 48) && decide (d ∈ figs.cps.toList) && (PySem.intText? (SX.S [c, d]) == some (k : Int))
  | _ => false
theorem num_ok : ∀ k : Nat, k < 100 → numOk k = true := by decide +kernel
theorem figs_lt : ∀ c ∈ figs.cps.toList, c < 1000 := by decide +kernel
theorem e_zero : ("0" : Str) = SX.S [48] := by kernel_rfl
theorem ne_zero {c : Nat} (h : c ∈ figs.cps.toList) : cmpV .NotEq M (.str (SX.S [c])) (.str "0") = some (decide (c ≠ 48)) := by
  have hc := figs_lt c h
  rw [e_zero]
  simp only [cmpV]
  rw [eq_str (ok_S (by simpa using hc)) (ok_S (by decide)), SX.S_beq_eq]
  simp
theorem biI {l : List Nat} {i : Int} {Q : MV → Prop} (hl : l.length ≤ 10) (h : PySem.intText? (SX.S l) = some i) (q : Q (.int i)) : Op (bltV .int M [.str (SX.S l)]) Q := by
  refine ⟨_, ?_, q⟩
  show biInt [.str (SX.S l)] = _
  have e := SX.S_len l
  simp only [biInt]
  rw [if_pos (by rw [e]; omega), h]
  rfl
theorem num_form {k : Nat} (hk : k < 100) : (∃ c, wl (.num k) = [c] ∧ c ∈ figs.cps.toList ∧ PySem.intText? (SX.S [c]) = some (k : Int)) ∨ ∃ c d, wl (.num k) = [c, d] ∧ c ∈ figs.cps.toList ∧ c ≠ 48 ∧ d ∈ figs.cps.toList ∧ PySem.intText? (SX.S [c, d]) = some (k : Int) := by
  have hn := num_ok k hk
  unfold numOk at hn
  split at hn
  · next c e =>
    simp only [Bool.and_eq_true, decide_eq_true_eq, beq_iff_eq] at hn
    exact .inl ⟨c, e, hn⟩
  · next c d e =>
    simp only [Bool.and_eq_true, decide_eq_true_eq, beq_iff_eq] at hn
    exact .inr ⟨c, d, e, hn.1.1.1, hn.1.1.2, hn.1.2, hn.2⟩
  · cases hn
theorem go_num (h : R B tl s rs ps M) (hl : tl.length ≤ 3000) {k : Nat} {rest : List Nat} (hk : k < 100) (hd : tl.drop s.pos = wl (.num k) ++ rest) (hr : ∀ c, wl (.num k) = [c] → c ≠ 48 → hdIn rest figs = false) (q : Q (.int (k : Int)) (M.set B.length (wkC B tl (s.pos + (wl (.num k)).length)))) : Is (evF env0 (n + 2) ("TextWalk", some "go_over_number") [.ref B.length] M) Q E := by
  have hf := num_form hk
  have hget : ∀ {c : Nat} {t : List Nat}, tl.drop s.pos = c :: t → tl[s.pos]? = some c := by
    intro c t e
    have := congrArg (fun l => l[0]?) e
    simpa using this
  generalize wl (.num k) = w at hd q hf hr
  refine w_body (d := c7) tb9 rfl ?_
  dsimp only [c7, Mini.start]
  refine v_cons (v_asg (a_at h rfl ?_))
  refine v_cons (v_step (s.pos + 1) h rfl (by omega) ?_)
  have h1 := h.at (s.pos + 1)
  have hcut : ∀ {M1 : Mem} {s1 : St} {P : Flw → Mem → Prop}, R B tl s1 rs ps M1 → s1.pos = s.pos + w.length → w.length ≤ 10 → PySem.intText? (SX.S w) = some (k : Int) → P (.ret (.int (k : Int))) M1 → Is (evB (env0.cfg (n + 1)) (.cons (.ret (.blt .int (.cons (.slc (.att (.var 0) "own_text") (.some (.var 1)) (.some (.att (.var 0) "own_at"))) .nil))) .nil) [some (.ref B.length), some (.int (s.pos : Int))] M1) P (fun c x M1 => Is (fin false M (.exn c x M1)) Q E) := by
    intro M1 s1 P hR hp hw hi hP
    refine v_cons (v_ret (w_blt (w_cons (w_slc (a_text hR rfl (w_som (w_var rfl ⟨_, rfl, w_som (a_at hR rfl ⟨_, rfl, slcT hl ?_⟩)⟩)))))))
    rw [hp, hd, Nat.add_sub_cancel_left, take_app2]
    exact w_nil (biI hw hi hP)
  rcases hf with ⟨c, rfl, f1, f2⟩ | ⟨c, d, rfl, f1, f2, f3, f4⟩
  · have hd2 : tl.drop (s.pos + 1) = rest := by rw [← List.drop_drop, hd]; rfl
    refine v_cons (v_ite (w_and (w_cmp (w_idx (a_text h1 rfl (w_var rfl (idxT hl (hget hd) (w_con ⟨_, ne_zero f1, ⟨_, rfl, ?_⟩⟩))))))))
    by_cases e0 : c = 48
    · refine br_f (by simp [e0]) ⟨_, rfl, br_f (by simp [e0]) (v_nil ?_)⟩
      exact hcut h1 rfl (by simp) f2 (isf_len set_len q)
    · refine br_t (by simp [e0]) ?_
      refine m_nextG h1 hl rfl g_figs (k := false) (by simp only; rw [hd2]; exact hr c rfl e0) ⟨_, rfl, br_f rfl (v_nil ?_)⟩
      exact hcut h1 rfl (by simp) f2 (isf_len set_len q)
  · have hd2 : tl.drop (s.pos + 1) = d :: rest := by rw [← List.drop_drop, hd]; rfl
    refine v_cons (v_ite (w_and (w_cmp (w_idx (a_text h1 rfl (w_var rfl (idxT hl (hget hd) (w_con ⟨_, ne_zero f1, ⟨_, rfl, ?_⟩⟩))))))))
    refine br_t (by simp [f2]) ?_
    refine m_nextG h1 hl rfl g_figs (k := true) (by simp only; rw [hd2]; exact decide_eq_true f3) ⟨_, rfl, br_t rfl ?_⟩
    refine v_cons (v_step (s.pos + 2) h1 rfl (by simp only; omega) (v_nil ?_))
    have h2 := h1.at (s.pos + 2)
    refine hcut h2 rfl (by simp) f4 (isf_len (by rw [set_len, set_len]) ?_)
    rw [List.set_set]
    exact q
end
end P
end LawK67

set_option Elab.async false
set_option linter.all false
set_option maxRecDepth 100000
set_option maxHeartbeats 4000000
namespace LawK67
namespace P
open PySem L2 Mini
local macro_rules | `(tactic| walk_at "ev") => `(tactic| first
  | ((with_reducible refine w_var (x := ?_) ?_ ?_); rotate_left 1; exact rfl)
  | with_reducible first | refine w_con ?_ | refine w_bin ?_ | refine w_cmp ?_ | refine w_idx ?_ | refine w_blt ?_ | refine w_nil ?_ | refine w_cons ?_ | refine w_att ?_ | refine w_cal ?_ | refine w_neg ?_ | refine w_not ?_ | refine w_and ?_ | refine w_or ?_ | refine w_chn ?_ | refine w_ife ?_ | refine w_slc ?_ | refine w_isi ?_ | refine w_som ?_ | refine w_non ?_ | refine w_star ?_ | refine w_dsp ?_ | refine w_bmt ?_ | refine w_mth ?_ | refine w_new ?_ | refine w_tup ?_ | refine w_lst ?_ | refine w_nwl ?_ | refine w_ndd ?_ | refine w_seq ?_ | refine w_rng ?_ | refine w_tno ?_ | refine w_tso ?_
  | refine v_cons ?_ | refine v_nil ?_ | refine v_asg ?_ | refine v_asgT ?_ | refine v_asgP ?_ | refine v_ret ?_ | refine v_retN ?_ | refine v_exp ?_ | refine v_ite ?_ | refine v_sat ?_ | refine v_sub ?_ | refine v_augA ?_ | refine v_for ?_ | refine v_rse ?_ | refine v_try ?_ | refine v_pas ?_ | refine v_cnt ?_
  | ((with_reducible refine w_glb (x := ?_) ?_ ?_); rotate_left 1; exact rfl) | ((with_reducible refine v_augV (z := ?_) ?_ ?_); rotate_left 1; exact rfl))
local macro_rules | `(tactic| walk_at "op") => `(tactic| refine ⟨_, rfl, ?_⟩)
local macro_rules | `(tactic| walk_at "sz") => `(tactic| refine ⟨szl (by first | decide | simp), ?_⟩)
local macro_rules | `(tactic| walk_at "go") => `(tactic| repeat first | walk_at "ev" | walk_at "op" | walk_at "sz")
/-! ### small items -/
def knd : It → Str
  | .num _ => "number"
  | .lost => "lost"
  | .use _ => "use"
  | .grp .block _ => "block"
  | .grp .sum _ => "sum"
  | .grp .prod _ => "product"
  | .grp (.lt _) _ => "let"
def vlu : It → MV
  | .num n => .int (n : Int)
  | .use s => .str s
  | .grp (.lt s) _ => .str s
  | _ => .non
def rowOf (own : List Nat) (first : Nat) (it : It) : Row := ⟨own, first, first + (wl it).length, knd it, vlu it⟩
mutual
def rowsI (own : List Nat) (first : Nat) : It → List Row
  | .num n => [rowOf own first (.num n)]
  | .lost => [rowOf own first .lost]
  | .use s => [rowOf own first (.use s)]
  | .grp h xs => rowOf own first (.grp h xs) :: rowsL own 0 (first + opn h) xs
def rowsL (path : List Nat) (i first : Nat) : List It → List Row
  | [] => []
  | x :: xs => rowsI (path ++ [i]) first x ++ rowsL path (i + 1) (first + (wl x).length + 1) xs
end
def aft (s : St) (it : It) : St := { s with pos := s.pos + (wl it).length, rows := s.rows ++ rowsI (s.top.path ++ [s.top.many]) s.pos it, top := { s.top with many := s.top.many + 1 } }
def Del (rest : List Nat) : Prop := rest = [] ∨ (∃ r, rest = 32 :: r) ∨ ∃ r, rest = 41 :: r
theorem Del.no {rest : List Nat} (h : Del rest) : hdIn rest figs = false ∧ hdIn rest figs1 = false ∧ hdIn rest lets = false := by
  rcases h with rfl | ⟨r, rfl⟩ | ⟨r, rfl⟩
  · exact ⟨rfl, rfl, rfl⟩
  · exact ⟨by kernel_rfl, by kernel_rfl, by kernel_rfl⟩
  · exact ⟨by kernel_rfl, by kernel_rfl, by kernel_rfl⟩
theorem lets_all {l : List Nat} (h : (l.all fun c => decide (c ∈ lets.cps.toList)) = true) : ∀ c ∈ l, c ∈ lets.cps.toList := fun c hc => of_decide_eq_true (List.all_eq_true.mp h c hc)
theorem nm_form {s : Str} {rest : List Nat} (h : s ∈ nm) (hr : Del rest) : ∃ c ls fs, cl s = (c :: ls) ++ fs ∧ nmOk (c :: ls) fs rest := by
  obtain ⟨r1, r2, r3⟩ := hr.no
  simp only [nm, List.mem_cons, List.not_mem_nil, or_false] at h
  rcases h with rfl | rfl | rfl | rfl | rfl | rfl | rfl
  · exact ⟨97, [], [], by kernel_rfl, lets_all (by kernel_rfl), by decide, .inr r3, r2⟩
  · exact ⟨98, [], [], by kernel_rfl, lets_all (by kernel_rfl), by decide, .inr r3, r2⟩
  · exact ⟨97, [98], [], by kernel_rfl, lets_all (by kernel_rfl), by decide, .inr r3, r2⟩
  · exact ⟨120, [], [49], by kernel_rfl, lets_all (by kernel_rfl), by decide, .inr (by kernel_rfl), by decide +kernel, r1⟩
  · exact ⟨98, [], [49, 50], by kernel_rfl, lets_all (by kernel_rfl), by decide, .inr (by kernel_rfl), by decide +kernel, by decide +kernel⟩
  · exact ⟨122, [122, 122, 122], [], by kernel_rfl, lets_all (by kernel_rfl), by decide, .inl rfl, r2⟩
  · exact ⟨113, [], [57, 57], by kernel_rfl, lets_all (by kernel_rfl), by decide, .inr (by kernel_rfl), by decide +kernel, by decide +kernel⟩
theorem lets_figs : ∀ c ∈ lets.cps.toList, decide (c ∈ figs.cps.toList) = false := by decide +kernel
section
variable {B : Mem} {tl : List Nat} {s : St} {rs ps : List Nat} {M : Mem} {n : Nat} {r : Rho} {Q : MV → Mem → Prop} {E : Str → MV → Mem → Prop}
theorem last_get {rs : List Nat} {a : Nat} : (rs ++ [a])[rs.length]? = some a := by simp
theorem small_end {s2 : St} {l : List Row} {ro : Row} {a : Nat} {v1 : Option MV} {P : Flw → Mem → Prop} (h : R B tl s2 (rs ++ [a]) ps M) (hl : s2.rows = l ++ [ro]) (q : ∀ M', R B tl { s2 with rows := l ++ [{ ro with behind := s2.pos }] } (rs ++ [a]) ps M' → P (.ret (.ref a)) M') : Is (evB (env0.cfg n) (.cons (.sat (.var 2) "own_behind" (.att (.var 0) "own_at")) (.cons (.ret (.var 2)) .nil)) [some (.ref B.length), v1, some (.ref a)] M) P E := by
  have hl1 : rs.length = l.length := by
    have := h.rl
    rw [hl, List.length_append, List.length_append] at this
    simp at this
    exact this
  have hi : (rs ++ [a])[l.length]? = some a := by rw [← hl1]; exact last_get
  have hc := h.rc l.length ro a (by rw [hl]; simp) hi
  refine v_cons (v_sat (a_at h rfl (w_var rfl ⟨_, sr_behind hc _, v_cons (v_ret (w_var rfl ?_))⟩)))
  have h2 := h.row (i := l.length) { ro with behind := s2.pos } hi
  have e : s2.rows.set l.length { ro with behind := s2.pos } = l ++ [{ ro with behind := s2.pos }] := by
    rw [hl, List.set_append_right _ _ (Nat.le_refl _), Nat.sub_self]
    rfl
  rw [e] at h2
  exact q _ h2
theorem small_numG {k : Nat} {rest : List Nat} (h : R B tl s rs ps M) (hl : tl.length ≤ 3000) (hr : s.rows.length ≤ 3000) (hp : s.top.path.length ≤ 100) (hk : k < 100) (hd : tl.drop s.pos = wl (.num k) ++ rest) (hm : ∀ c, wl (.num k) = [c] → c ≠ 48 → hdIn rest figs = false) (q : ∀ a M', R B tl (aft s (.num k)) (rs ++ [a]) ps M' → Q (.ref a) M') : Is (evF env0 (n + 3) ("TextWalk", some "small_item") [.ref B.length] M) Q E := by
  refine w_body (d := c8) tb10 rfl ?_
  dsimp only [c8, Mini.start]
  refine v_cons (v_asg (a_at h rfl ?_))
  have hx : hdIn (tl.drop s.pos) figs = true := by
    rw [hd]
    rcases num_form hk with ⟨c, e, f1, f2⟩ | ⟨c, d, e, f1, f2, f3, f4⟩
    · rw [e]; exact decide_eq_true f1
    · rw [e]; exact decide_eq_true f1
  refine v_cons (v_ite (m_nextG h hl rfl g_figs hx ⟨_, rfl, br_t rfl ?_⟩))
  refine v_cons (v_asg (w_mth (w_var rfl ⟨_, mi_next h, by kernel_rfl, w_cons (w_var rfl (w_cons (w_con (w_cons (w_mth (w_var rfl ⟨_, mi_next h, by kernel_rfl, w_nil ?_⟩))))))⟩)))
  refine go_num h hl hk hd hm (w_nil ?_)
  have h1 := h.at (s.pos + (wl (.num k)).length)
  refine new_row h1 hr hp fun M' h2 => v_nil ?_
  refine small_end h2 rfl fun M3 h3 => ?_
  exact isf_dirty (h.dirty h3 (.inr (by simp))) (q _ _ h3)
theorem small_num {k : Nat} {rest : List Nat} (h : R B tl s rs ps M) (hl : tl.length ≤ 3000) (hr : s.rows.length ≤ 3000) (hp : s.top.path.length ≤ 100) (hk : k < 100) (hd : tl.drop s.pos = wl (.num k) ++ rest) (hD : Del rest) (q : ∀ a M', R B tl (aft s (.num k)) (rs ++ [a]) ps M' → Q (.ref a) M') : Is (evF env0 (n + 3) ("TextWalk", some "small_item") [.ref B.length] M) Q E :=
  small_numG h hl hr hp hk hd (fun _ _ _ => hD.no.1) q
theorem small_lost {rest : List Nat} (h : R B tl s rs ps M) (hl : tl.length ≤ 3000) (hr : s.rows.length ≤ 3000) (hp : s.top.path.length ≤ 100) (hd : tl.drop s.pos = wl .lost ++ rest) (q : ∀ a M', R B tl (aft s .lost) (rs ++ [a]) ps M' → Q (.ref a) M') : Is (evF env0 (n + 3) ("TextWalk", some "small_item") [.ref B.length] M) Q E := by
  refine w_body (d := c8) tb10 rfl ?_
  dsimp only [c8, Mini.start]
  refine v_cons (v_asg (a_at h rfl ?_))
  refine v_cons (v_ite (m_nextG h hl rfl g_figs (k := false) (by rw [hd]; kernel_rfl) ⟨_, rfl, br_f rfl ?_⟩))
  refine v_cons (v_ite (m_nextG h hl rfl g_lets (k := false) (by rw [hd]; kernel_rfl) ⟨_, rfl, br_f rfl ?_⟩))
  refine v_cons (v_ite (m_next h hl rfl (k := true) (by rw [hd]; kernel_rfl) ⟨_, rfl, br_t rfl ?_⟩))
  refine v_cons (v_step (s.pos + 1) h rfl (by omega) ?_)
  have h1 := h.at (s.pos + 1)
  refine v_cons (v_asg (w_mth (w_var rfl ⟨_, mi_next h1, by kernel_rfl, w_cons (w_var rfl (w_cons (w_con (w_cons (w_con (w_nil ?_))))))⟩)))
  refine new_row h1 hr hp fun M' h2 => v_nil (v_nil (v_nil ?_))
  refine small_end h2 rfl fun M3 h3 => ?_
  exact isf_dirty (h.dirty h3 (.inr (by simp))) (q _ _ h3)
theorem small_useG {w : Str} {rest : List Nat} (h : R B tl s rs ps M) (hl : tl.length ≤ 3000) (hr : s.rows.length ≤ 3000) (hp : s.top.path.length ≤ 100) (hw : ∃ c ls fs, cl w = (c :: ls) ++ fs ∧ nmOk (c :: ls) fs rest) (hd : tl.drop s.pos = wl (.use w) ++ rest) (q : ∀ a M', R B tl (aft s (.use w)) (rs ++ [a]) ps M' → Q (.ref a) M') : Is (evF env0 (n + 3) ("TextWalk", some "small_item") [.ref B.length] M) Q E := by
  obtain ⟨c, ls, fs, e, hn⟩ := hw
  refine w_body (d := c8) tb10 rfl ?_
  dsimp only [c8, Mini.start]
  refine v_cons (v_asg (a_at h rfl ?_))
  have hc := hn.1 c List.mem_cons_self
  have hd2 : tl.drop s.pos = (c :: ls) ++ (fs ++ rest) := by rw [hd, ← List.append_assoc, ← e]; rfl
  refine v_cons (v_ite (m_nextG h hl rfl g_figs (k := false) (by rw [hd2]; exact lets_figs c hc) ⟨_, rfl, br_f rfl ?_⟩))
  refine v_cons (v_ite (m_nextG h hl rfl g_lets (k := true) (by rw [hd2]; exact decide_eq_true hc) ⟨_, rfl, br_t rfl ?_⟩))
  refine v_cons (v_asg (w_mth (w_var rfl ⟨_, mi_next h, by kernel_rfl, w_cons (w_var rfl (w_cons (w_con (w_cons (w_mth (w_var rfl ⟨_, mi_next h, by kernel_rfl, w_nil ?_⟩))))))⟩)))
  refine go_name h hl hd2 hn (w_nil ?_)
  rw [← e]
  have es : MV.str (SX.S (cl w)) = .str w := by rw [SX.S_tl]
  rw [es]
  have h1 := h.at (s.pos + (cl w).length)
  refine new_row h1 hr hp fun M' h2 => v_nil (v_nil ?_)
  refine small_end h2 rfl fun M3 h3 => ?_
  exact isf_dirty (h.dirty h3 (.inr (by simp))) (q _ _ h3)
theorem small_use {w : Str} {rest : List Nat} (h : R B tl s rs ps M) (hl : tl.length ≤ 3000) (hr : s.rows.length ≤ 3000) (hp : s.top.path.length ≤ 100) (hw : w ∈ nm) (hd : tl.drop s.pos = wl (.use w) ++ rest) (hD : Del rest) (q : ∀ a M', R B tl (aft s (.use w)) (rs ++ [a]) ps M' → Q (.ref a) M') : Is (evF env0 (n + 3) ("TextWalk", some "small_item") [.ref B.length] M) Q E :=
  small_useG h hl hr hp (nm_form hw hD) hd q
theorem small_none (h : R B tl s rs ps M) (hl : tl.length ≤ 3000) (h1 : hdIn (tl.drop s.pos) figs = false) (h2 : hdIn (tl.drop s.pos) lets = false) (h3 : hdIn (tl.drop s.pos) "?" = false) (q : Q .non M) : Is (evF env0 (n + 3) ("TextWalk", some "small_item") [.ref B.length] M) Q E := by
  refine w_body (d := c8) tb10 rfl ?_
  dsimp only [c8, Mini.start]
  refine v_cons (v_asg (a_at h rfl ?_))
  refine v_cons (v_ite (m_nextG h hl rfl g_figs h1 ⟨_, rfl, br_f rfl ?_⟩))
  refine v_cons (v_ite (m_nextG h hl rfl g_lets h2 ⟨_, rfl, br_f rfl ?_⟩))
  refine v_cons (v_ite (m_next h hl rfl h3 ⟨_, rfl, br_f rfl ?_⟩))
  exact v_cons (v_ret (w_con (isf_same q)))
end
end P
end LawK67

set_option Elab.async false
set_option linter.all false
set_option maxRecDepth 100000
set_option maxHeartbeats 4000000
namespace LawK67
namespace P
open PySem L2 Mini
local macro_rules | `(tactic| walk_at "ev") => `(tactic| first
  | ((with_reducible refine w_var (x := ?_) ?_ ?_); rotate_left 1; exact rfl)
  | with_reducible first | refine w_con ?_ | refine w_bin ?_ | refine w_cmp ?_ | refine w_idx ?_ | refine w_blt ?_ | refine w_nil ?_ | refine w_cons ?_ | refine w_att ?_ | refine w_cal ?_ | refine w_neg ?_ | refine w_not ?_ | refine w_and ?_ | refine w_or ?_ | refine w_chn ?_ | refine w_ife ?_ | refine w_slc ?_ | refine w_isi ?_ | refine w_som ?_ | refine w_non ?_ | refine w_star ?_ | refine w_dsp ?_ | refine w_bmt ?_ | refine w_mth ?_ | refine w_new ?_ | refine w_tup ?_ | refine w_lst ?_ | refine w_nwl ?_ | refine w_ndd ?_ | refine w_seq ?_ | refine w_rng ?_ | refine w_tno ?_ | refine w_tso ?_
  | refine v_cons ?_ | refine v_nil ?_ | refine v_asg ?_ | refine v_asgT ?_ | refine v_asgP ?_ | refine v_ret ?_ | refine v_retN ?_ | refine v_exp ?_ | refine v_ite ?_ | refine v_sat ?_ | refine v_sub ?_ | refine v_augA ?_ | refine v_for ?_ | refine v_rse ?_ | refine v_try ?_ | refine v_pas ?_ | refine v_cnt ?_
  | ((with_reducible refine w_glb (x := ?_) ?_ ?_); rotate_left 1; exact rfl) | ((with_reducible refine v_augV (z := ?_) ?_ ?_); rotate_left 1; exact rfl))
local macro_rules | `(tactic| walk_at "op") => `(tactic| refine ⟨_, rfl, ?_⟩)
local macro_rules | `(tactic| walk_at "sz") => `(tactic| refine ⟨szl (by first | decide | simp), ?_⟩)
local macro_rules | `(tactic| walk_at "go") => `(tactic| repeat first | walk_at "ev" | walk_at "op" | walk_at "sz")
/-! ### items begun, gone on with and closed -/
def Beg (B : Mem) (tl : List Nat) (n : Nat) (s s1 : St) : Prop := ∀ (rs ps : List Nat) (M : Mem) (Q : MV → Mem → Prop) (E : Str → MV → Mem → Prop), R B tl s rs ps M → (∀ rs' ps' M', R B tl s1 rs' ps' M' → Q .non M') → Is (evF env0 n ("TextWalk", some "begin_item") [.ref B.length] M) Q E
def BegF (B : Mem) (tl : List Nat) (n : Nat) (s s1 : St) : Prop := ∀ (rs ps : List Nat) (M : Mem) (Q : MV → Mem → Prop) (E : Str → MV → Mem → Prop), R B tl s rs ps M → (∀ rs' ps' M', R B tl s1 rs' ps' M' → Q .non M') → Is (evF env0 n ("TextWalk", some "begin_first") [.ref B.length] M) Q E
def Go (B : Mem) (tl : List Nat) (s s1 : St) : Prop := ∀ (n : Nat) (rs ps : List Nat) (M : Mem) (Q : MV → Mem → Prop) (E : Str → MV → Mem → Prop), R B tl s rs ps M → (∀ rs' ps' M', R B tl s1 rs' ps' M' → Q (.bl true) M') → Is (evF env0 (n + 24) ("TextWalk", some "go_on") [.ref B.length] M) Q E
def Sm : It → Prop
  | .grp _ _ => False
  | _ => True
def opened (s : St) : St := { pos := s.pos + 1, rows := s.rows ++ [⟨s.top.path ++ [s.top.many], s.pos, s.pos, "block", .non⟩], low := s.low ++ [{ s.top with many := s.top.many + 1 }], top := ⟨s.top.path ++ [s.top.many], some s.rows.length, 0⟩ }
abbrev bTail : CB := .cons (.ite (.mth "TextWalk" (.var 0) "next_in" (.cons (.con (.str "+*")) .nil)) (.cons (.sat (.var 1) "own_kind" (.idx (.glb "SIGNED_KINDS") (.idx (.att (.var 0) "own_text") (.att (.var 0) "own_at")))) (.cons (.augA (.var 0) "own_at" .Add (.con (.int 1))) .nil)) (.cons (.ite (.not (.mth "TextWalk" (.var 0) "next_in" (.cons (.con (.str ")")) .nil))) (.cons (.exp (.mth "TextWalk" (.var 0) "begin_first" .nil)) .nil) .nil) .nil)) .nil
section
variable {B : Mem} {tl : List Nat} {s : St} {rs ps : List Nat} {M : Mem} {n : Nat} {r : Rho} {Q : MV → Mem → Prop} {E : Str → MV → Mem → Prop}
theorem small {d : Nat} {it : It} {rest : List Nat} (h : R B tl s rs ps M) (hl : tl.length ≤ 3000) (hr : s.rows.length ≤ 3000) (hp : s.top.path.length ≤ 100) (hw : Wf d it) (hs : Sm it) (hd : tl.drop s.pos = wl it ++ rest) (hD : Del rest) (q : ∀ a M', R B tl (aft s it) (rs ++ [a]) ps M' → Q (.ref a) M') : Is (evF env0 (n + 3) ("TextWalk", some "small_item") [.ref B.length] M) Q E := by
  cases hw with
  | num hk => exact small_num h hl hr hp hk hd hD q
  | lost => exact small_lost h hl hr hp hd q
  | use hn => exact small_use h hl hr hp hn hd hD q
  | grp _ _ _ => exact (hs : False).elim
theorem wl_pos {d : Nat} {it : It} (hw : Wf d it) (hs : Sm it) : 0 < (wl it).length := by
  cases hw with
  | num hk =>
    rcases num_form hk with ⟨c, e, _⟩ | ⟨c, d, e, _⟩ <;> rw [e] <;> simp
  | lost => simp [wl]
  | use hn =>
    obtain ⟨c, ls, fs, e, _⟩ := nm_form (rest := []) hn (.inl rfl)
    simp only [wl]
    rw [e]
    simp
  | grp _ _ _ => exact (hs : False).elim
theorem isn_ref {a : Nat} : cmpV .IsNot M (.ref a) .non = some true := rfl
theorem isn_non : cmpV .IsNot M .non .non = some false := rfl
theorem is_ref {a : Nat} : cmpV .Is M (.ref a) .non = some false := rfl
theorem is_non : cmpV .Is M .non .non = some true := rfl
theorem beg_small {d : Nat} {it : It} {rest : List Nat} (hl : tl.length ≤ 3000) (hr : s.rows.length ≤ 3000) (hp : s.top.path.length ≤ 100) (hw : Wf d it) (hs : Sm it) (hd : tl.drop s.pos = wl it ++ rest) (hD : Del rest) : Beg B tl (n + 4) s (aft s it) := by
  intro rs ps M Q E h q
  refine w_body (d := c9) tb11 rfl ?_
  dsimp only [c9, Mini.start]
  refine v_cons (v_ite (w_cmp (w_mth (w_var rfl ⟨_, mi_next h, by kernel_rfl, w_nil ?_⟩))))
  refine small h hl hr hp hw hs hd hD fun a M' h1 => w_con ⟨_, isn_ref, ⟨_, rfl, br_t rfl (v_cons (v_retN ?_))⟩⟩
  refine isf_dirty (h.dirty h1 (.inl ?_)) (q _ _ _ h1)
  have := wl_pos hw hs
  show s.pos ≠ s.pos + (wl it).length
  omega
theorem begin_open {t : List Nat} (h : R B tl s rs ps M) (hl : tl.length ≤ 3000) (hr : s.rows.length ≤ 3000) (hp : s.top.path.length ≤ 90) (hlow : s.low.length ≤ 90) (hd : tl.drop s.pos = 40 :: t) (q : ∀ a b M', R B tl (opened s) (rs ++ [a]) (ps ++ [b]) M' → Is (evB (env0.cfg (n + 3)) bTail [some (.ref B.length), some (.ref a)] M') (fun w M1 => (∃ r, w = .next r) ∧ M1.take M.length ≠ M ∧ Q .non M1) (fun c x M1 => Is (fin false M (.exn c x M1)) Q E)) : Is (evF env0 (n + 4) ("TextWalk", some "begin_item") [.ref B.length] M) Q E := by
  refine w_body (d := c9) tb11 rfl ?_
  dsimp only [c9, Mini.start]
  refine v_cons (v_ite (w_cmp (w_mth (w_var rfl ⟨_, mi_next h, by kernel_rfl, w_nil ?_⟩))))
  refine small_none h hl (by rw [hd]; kernel_rfl) (by rw [hd]; kernel_rfl) (by rw [hd]; kernel_rfl) (w_con ⟨_, isn_non, ⟨_, rfl, br_f rfl (v_nil ?_)⟩⟩)
  refine v_cons (v_ite (w_not (m_next h hl rfl (k := true) (by rw [hd]; kernel_rfl) ⟨_, rfl, ⟨_, rfl, br_f rfl (v_nil ?_)⟩⟩)))
  refine v_cons (v_asg (w_mth (w_var rfl ⟨_, mi_next h, by kernel_rfl, w_cons (a_at h rfl (w_cons (w_con (w_cons (w_con (w_nil ?_))))))⟩)))
  refine new_row h (by omega) (by omega) fun M1 h1 => ?_
  refine v_cons (v_step (s.pos + 1) h1 rfl (by simp only; omega) ?_)
  have h2 := h1.at (s.pos + 1)
  have hrow : (M1.set B.length (wkC B tl (s.pos + 1)))[M.length]? = some (Row.cell ⟨s.top.path ++ [s.top.many], s.pos, s.pos, "block", .non⟩) := h2.rc s.rows.length _ M.length (by simp) (by rw [← h.rl]; exact last_get)
  refine v_cons (v_exp (w_bmt (a_pile h2 rfl ⟨rec_app h2.pa, w_cons (w_new (w_cons (w_att (w_var rfl ⟨_, fr_path hrow, w_cons (w_var rfl (w_nil ?_))⟩))))⟩)))
  refine init_open ⟨rfl, w_nil ?_⟩
  generalize hM2 : M1.set B.length (wkC B tl (s.pos + 1)) = M2 at h2 hrow ⊢
  have ec : Cell.ins "OpenItem" [("own_path", .tup (nats (s.top.path ++ [s.top.many]))), ("own_row", .ref M.length), ("own_many", .int 0)] = Ope.cell (rs ++ [M.length]) ⟨s.top.path ++ [s.top.many], some s.rows.length, 0⟩ := by
    have : (rs ++ [M.length]).getD s.rows.length 0 = M.length := by rw [← h.rl, List.getD_eq_getElem?_getD, last_get]; rfl
    simp only [Ope.cell, rowRef, this]
    rfl
  dsimp only
  rw [ec]
  have h3 := h2.new (Ope.cell (rs ++ [M.length]) ⟨s.top.path ++ [s.top.many], some s.rows.length, 0⟩)
  refine app_ref h3.pa (by rw [h3.pl]; simp only; omega) ?_
  have h4 := h3.push get_new (fun z => by have := (h2.pne z).2.2.2.2; omega) (by have := h2.len; omega) (fun j hj => by cases hj; rw [List.length_append, h.rl]; exact Nat.lt_succ_self _)
  refine (q _ _ _ h4).imp fun w M5 ⟨⟨r, e⟩, hdt, hq⟩ => ?_
  subst e
  exact isf_dirty hdt hq
theorem opened_pos : (opened s).pos = s.pos + 1 := rfl
/-- a block without items -/
theorem beg_empty {t : List Nat} (hl : tl.length ≤ 3000) (hr : s.rows.length ≤ 3000) (hp : s.top.path.length ≤ 90) (hlow : s.low.length ≤ 90) (hd : tl.drop s.pos = 40 :: 41 :: t) : Beg B tl (n + 4) s (opened s) := by
  intro rs ps M Q E h q
  refine begin_open h hl hr hp hlow hd fun a b M' h1 => ?_
  have hd2 : tl.drop (opened s).pos = 41 :: t := by rw [opened_pos, ← List.drop_drop, hd]; rfl
  refine v_cons (v_ite (m_next h1 hl rfl (k := false) (by rw [hd2]; kernel_rfl) ⟨_, rfl, br_f rfl ?_⟩))
  refine v_cons (v_ite (w_not (m_next h1 hl rfl (k := true) (by rw [hd2]; kernel_rfl) ⟨_, rfl, ⟨_, rfl, br_f rfl (v_nil (v_nil (v_nil ?_)))⟩⟩)))
  exact ⟨⟨_, rfl⟩, h.dirty h1 (.inl (by rw [opened_pos]; omega)), q _ _ _ h1⟩
theorem g_sk : env0.glob "SIGNED_KINDS" = some (.glo "SIGNED_KINDS") := by kernel_rfl
theorem sk_sum : idxV M env0.kd (.glo "SIGNED_KINDS") (.str (SX.S [43])) = some (.str "sum") := by kernel_rfl
theorem sk_prd : idxV M env0.kd (.glo "SIGNED_KINDS") (.str (SX.S [42])) = some (.str "product") := by kernel_rfl
/-- a sum, a product -/
theorem beg_sign {t : List Nat} {c : Nat} {kd : Str} (hc : hdIn [c] "+*" = true) (hk : ∀ M, idxV M env0.kd (.glo "SIGNED_KINDS") (.str (SX.S [c])) = some (.str kd)) (hl : tl.length ≤ 3000) (hr : s.rows.length ≤ 3000) (hp : s.top.path.length ≤ 90) (hlow : s.low.length ≤ 90) (hd : tl.drop s.pos = 40 :: c :: t) : Beg B tl (n + 4) s { opened s with pos := s.pos + 2, rows := s.rows ++ [⟨s.top.path ++ [s.top.many], s.pos, s.pos, kd, .non⟩] } := by
  intro rs ps M Q E h q
  refine begin_open h hl hr hp hlow hd fun a b M' h1 => ?_
  have hd2 : tl.drop (opened s).pos = c :: t := by rw [opened_pos, ← List.drop_drop, hd]; rfl
  have hget : tl[(opened s).pos]? = some c := by
    have := congrArg (fun l => l[0]?) hd2
    simpa using this
  have hi : (rs ++ [a])[s.rows.length]? = some a := by rw [← h.rl]; exact last_get
  have hrow := h1.rc s.rows.length ⟨s.top.path ++ [s.top.many], s.pos, s.pos, "block", .non⟩ a (by simp [opened]) hi
  refine v_cons (v_ite (m_next h1 hl rfl (k := true) (by rw [hd2]; exact hc) ⟨_, rfl, br_t rfl ?_⟩))
  refine v_cons (v_sat (w_idx (w_glb g_sk (w_idx (a_text h1 rfl (a_at h1 rfl (idxT hl hget ⟨_, hk _, w_var rfl ⟨_, sr_kind hrow _, ?_⟩⟩)))))))
  have h2 := h1.row (i := s.rows.length) { path := s.top.path ++ [s.top.many], first := s.pos, behind := s.pos, kind := kd, val := .non } hi
  refine v_cons (v_step (s.pos + 2) h2 rfl (by simp only [opened_pos]; omega) (v_nil (v_nil ?_)))
  have h3 := h2.at (s.pos + 2)
  have e : (opened s).rows.set s.rows.length { path := s.top.path ++ [s.top.many], first := s.pos, behind := s.pos, kind := kd, val := .non } = s.rows ++ [⟨s.top.path ++ [s.top.many], s.pos, s.pos, kd, .non⟩] := by
    simp only [opened]
    rw [List.set_append_right _ _ (Nat.le_refl _), Nat.sub_self]
    rfl
  simp only [e] at h3
  exact ⟨⟨_, rfl⟩, h.dirty h3 (.inl (by simp only; omega)), q _ _ _ h3⟩
/-- a head that begin_first goes on with -/
theorem beg_first {t : List Nat} {c : Nat} {s1 : St} (hc : hdIn [c] "+*" = false) (hc2 : hdIn [c] ")" = false) (hl : tl.length ≤ 3000) (hr : s.rows.length ≤ 3000) (hp : s.top.path.length ≤ 90) (hlow : s.low.length ≤ 90) (hd : tl.drop s.pos = 40 :: c :: t) (hpos : s.pos < s1.pos) (hf : BegF B tl (n + 3) (opened s) s1) : Beg B tl (n + 4) s s1 := by
  intro rs ps M Q E h q
  refine begin_open h hl hr hp hlow hd fun a b M' h1 => ?_
  have hd2 : tl.drop (opened s).pos = c :: t := by rw [opened_pos, ← List.drop_drop, hd]; rfl
  refine v_cons (v_ite (m_next h1 hl rfl (k := false) (by rw [hd2]; exact hc) ⟨_, rfl, br_f rfl ?_⟩))
  refine v_cons (v_ite (w_not (m_next h1 hl rfl (k := false) (by rw [hd2]; exact hc2) ⟨_, rfl, ⟨_, rfl, br_t rfl ?_⟩⟩)))
  refine v_cons (v_exp (w_mth (w_var rfl ⟨_, mi_next h1, by kernel_rfl, w_nil ?_⟩)))
  refine hf _ _ _ _ _ h1 fun rs' ps' M2 h2 => v_nil (v_nil (v_nil ?_))
  exact ⟨⟨_, rfl⟩, h.dirty h2 (.inl (by omega)), q _ _ _ h2⟩
end
end P
end LawK67

set_option Elab.async false
set_option linter.all false
set_option maxRecDepth 100000
set_option maxHeartbeats 4000000
namespace LawK67
namespace P
open PySem L2 Mini
local macro_rules | `(tactic| walk_at "ev") => `(tactic| first
  | ((with_reducible refine w_var (x := ?_) ?_ ?_); rotate_left 1; exact rfl)
  | with_reducible first | refine w_con ?_ | refine w_bin ?_ | refine w_cmp ?_ | refine w_idx ?_ | refine w_blt ?_ | refine w_nil ?_ | refine w_cons ?_ | refine w_att ?_ | refine w_cal ?_ | refine w_neg ?_ | refine w_not ?_ | refine w_and ?_ | refine w_or ?_ | refine w_chn ?_ | refine w_ife ?_ | refine w_slc ?_ | refine w_isi ?_ | refine w_som ?_ | refine w_non ?_ | refine w_star ?_ | refine w_dsp ?_ | refine w_bmt ?_ | refine w_mth ?_ | refine w_new ?_ | refine w_tup ?_ | refine w_lst ?_ | refine w_nwl ?_ | refine w_ndd ?_ | refine w_seq ?_ | refine w_rng ?_ | refine w_tno ?_ | refine w_tso ?_
  | refine v_cons ?_ | refine v_nil ?_ | refine v_asg ?_ | refine v_asgT ?_ | refine v_asgP ?_ | refine v_ret ?_ | refine v_retN ?_ | refine v_exp ?_ | refine v_ite ?_ | refine v_sat ?_ | refine v_sub ?_ | refine v_augA ?_ | refine v_for ?_ | refine v_rse ?_ | refine v_try ?_ | refine v_pas ?_ | refine v_cnt ?_
  | ((with_reducible refine w_glb (x := ?_) ?_ ?_); rotate_left 1; exact rfl) | ((with_reducible refine v_augV (z := ?_) ?_ ?_); rotate_left 1; exact rfl))
local macro_rules | `(tactic| walk_at "op") => `(tactic| refine ⟨_, rfl, ?_⟩)
local macro_rules | `(tactic| walk_at "sz") => `(tactic| refine ⟨szl (by first | decide | simp), ?_⟩)
local macro_rules | `(tactic| walk_at "go") => `(tactic| repeat first | walk_at "ev" | walk_at "op" | walk_at "sz")
/-! ### first items, closing, going on -/
section
variable {B : Mem} {tl : List Nat} {s : St} {rs ps : List Nat} {M : Mem} {n : Nat} {r : Rho} {Q : MV → Mem → Prop} {E : Str → MV → Mem → Prop}
theorem pop_ok {q a : Nat} {xs : List Nat} {Q : MV × Mem → Prop} (h : M[q]? = some (.lst ((xs ++ [a]).map .ref))) (k : Q (.ref a, M.set q (.lst (xs.map .ref)))) : Op (bmtV .pop M (.ref q) []) Q := by
  refine ⟨_, ?_, k⟩
  simp only [bmtV, h]
  simp
theorem rec_pop {q : Nat} {rows : List MV} (h : M[q]? = some (.lst rows)) : recV .pop M (.ref q) = true := by simp only [recV, h]
theorem len_ref {q : Nat} {xs : List Nat} {Q : MV → Prop} (h : M[q]? = some (.lst (xs.map .ref))) (k : Q (.int (xs.length : Int))) : Op (bltV .len M [.ref q]) Q := by
  refine ⟨_, ?_, k⟩
  show biLen M [.ref q] = _
  simp only [biLen, lenV, asL, h]
  simp
theorem q_use {it : It} (hs : Sm it) : cmpV .Eq M (.str (knd it)) (.str "use") = some (match it with | .use _ => true | _ => false) := by
  cases it with
  | num k => exact tq_number_use
  | lost => exact tq_lost_use
  | use w => exact tq_use_use
  | grp _ _ => exact (hs : False).elim
/-- the first item of a block is small -/
theorem bf_small {d : Nat} {it : It} {rest : List Nat} (hl : tl.length ≤ 3000) (hT : ∀ c ∈ tl, c < 1000) (hr : s.rows.length ≤ 3000) (hp : s.top.path.length ≤ 100) (hw : Wf d it) (hs : Sm it) (hd : tl.drop s.pos = wl it ++ rest) (hD : Del rest) (hne : rest.take 2 ≠ [32, 61]) : BegF B tl (n + 4) s (aft s it) := by
  intro rs ps M Q E h q
  refine w_body (d := c10) tb12 rfl ?_
  dsimp only [c10, Mini.start]
  obtain ⟨p, hp1, hp2, hp3⟩ := top_ix h (kd := env0.kd)
  refine v_cons (v_asg (w_idx (a_pile h rfl (w_neg (w_con ⟨1, rfl, ⟨_, hp3, ?_⟩⟩)))))
  refine v_cons (v_asg (w_mth (w_var rfl ⟨_, mi_next h, by kernel_rfl, w_nil ?_⟩)))
  refine small h hl hr hp hw hs hd hD fun a M1 h1 => ?_
  have hend : ∀ {b : Bool}, Is (fin b M (.ok .non M1)) Q E := isf_dirty (h.dirty h1 (.inl (by have := wl_pos hw hs; show s.pos ≠ s.pos + (wl it).length; omega))) (q _ _ _ h1)
  have hrow := h1.rc s.rows.length (rowOf (s.top.path ++ [s.top.many]) s.pos it) a (by
    cases it with
    | grp _ _ => exact (hs : False).elim
    | _ => simp [aft, rowsI]) (by rw [← h.rl]; exact last_get)
  refine v_cons (v_ite (w_cmp (w_var rfl (w_con ⟨_, is_ref, ⟨_, rfl, br_f rfl ?_⟩⟩))))
  refine v_cons (v_ite (w_and (w_cmp (w_att (w_var rfl ⟨_, fr_kind hrow, w_con ⟨_, q_use hs, ⟨_, rfl, ?_⟩⟩⟩)))))
  cases it with
  | num k => exact br_f rfl ⟨_, rfl, br_f rfl (v_nil (v_nil (v_nil hend)))⟩
  | lost => exact br_f rfl ⟨_, rfl, br_f rfl (v_nil (v_nil (v_nil hend)))⟩
  | grp _ _ => exact (hs : False).elim
  | use w =>
    refine br_t rfl ?_
    refine w_cmp (w_slc (a_text h1 rfl (w_som (a_at h1 rfl ⟨_, rfl, w_som (w_bin (a_at h1 rfl (w_con ⟨_, rfl, ⟨_, rfl, ?_⟩⟩)))⟩))))
    rw [show ((aft s (.use w)).pos : Int) + 2 = (((aft s (.use w)).pos + 2 : Nat) : Int) from by omega]
    refine slcT hl (w_con ⟨false, ?_, ⟨_, rfl, br_f rfl (v_nil (v_nil (v_nil hend)))⟩⟩)
    have hd2 : tl.drop (aft s (.use w)).pos = rest := by
      show tl.drop (s.pos + (wl (.use w)).length) = rest
      rw [← List.drop_drop, hd, List.drop_left]
    rw [hd2, Nat.add_sub_cancel_left, e_eq]
    simp only [cmpV]
    rw [eq_str (ok_S fun c hc => hT c ?_) (ok_S (by decide)), SX.S_beq_eq, decide_eq_false hne]
    have h3 : c ∈ rest := List.mem_of_mem_take hc
    rw [← hd2] at h3
    exact List.mem_of_mem_drop h3
/-- the first item of a block is a group -/
theorem bf_grp {t : List Nat} {s1 : St} (hl : tl.length ≤ 3000) (hd : tl.drop s.pos = 40 :: t) (hpos : s.pos < s1.pos) (hb : Beg B tl (n + 3) s s1) : BegF B tl (n + 4) s s1 := by
  intro rs ps M Q E h q
  refine w_body (d := c10) tb12 rfl ?_
  dsimp only [c10, Mini.start]
  obtain ⟨p, hp1, hp2, hp3⟩ := top_ix h (kd := env0.kd)
  refine v_cons (v_asg (w_idx (a_pile h rfl (w_neg (w_con ⟨1, rfl, ⟨_, hp3, ?_⟩⟩)))))
  refine v_cons (v_asg (w_mth (w_var rfl ⟨_, mi_next h, by kernel_rfl, w_nil ?_⟩)))
  refine small_none h hl (by rw [hd]; kernel_rfl) (by rw [hd]; kernel_rfl) (by rw [hd]; kernel_rfl) ?_
  refine v_cons (v_ite (w_cmp (w_var rfl (w_con ⟨_, is_non, ⟨_, rfl, br_t rfl ?_⟩⟩))))
  refine v_cons (v_exp (w_mth (w_var rfl ⟨_, mi_next h, by kernel_rfl, w_nil ?_⟩)))
  refine hb _ _ _ _ _ h fun rs' ps' M2 h2 => v_nil (v_nil ?_)
  exact isf_dirty (h.dirty h2 (.inl (by omega))) (q _ _ _ h2)
/-- the head of a let -/
theorem bf_let {w : Str} {rest : List Nat} {i : Nat} {ro : Row} (hl : tl.length ≤ 3000) (hr : s.rows.length ≤ 3000) (hp : s.top.path.length ≤ 100) (hw : ∃ c ls fs, cl w = (c :: ls) ++ fs ∧ nmOk (c :: ls) fs (32 :: 61 :: rest)) (hd : tl.drop s.pos = cl w ++ 32 :: 61 :: rest) (hi : s.top.row = some i) (hro : s.rows[i]? = some ro) : BegF B tl (n + 4) s { s with pos := s.pos + (cl w).length + 2, rows := s.rows.set i { ro with kind := "let", val := .str w }, top := { s.top with many := 0 } } := by
  intro rs ps M Q E h q
  refine w_body (d := c10) tb12 rfl ?_
  dsimp only [c10, Mini.start]
  obtain ⟨p, hp1, hp2, hp3⟩ := top_ix h (kd := env0.kd)
  refine v_cons (v_asg (w_idx (a_pile h rfl (w_neg (w_con ⟨1, rfl, ⟨_, hp3, ?_⟩⟩)))))
  refine v_cons (v_asg (w_mth (w_var rfl ⟨_, mi_next h, by kernel_rfl, w_nil ?_⟩)))
  refine small_useG h hl hr hp hw hd fun a M1 h1 => ?_
  have hrow := h1.rc s.rows.length (rowOf (s.top.path ++ [s.top.many]) s.pos (.use w)) a (by simp [aft, rowsI]) (by rw [← h.rl]; exact last_get)
  refine v_cons (v_ite (w_cmp (w_var rfl (w_con ⟨_, is_ref, ⟨_, rfl, br_f rfl ?_⟩⟩))))
  refine v_cons (v_ite (w_and (w_cmp (w_att (w_var rfl ⟨_, fr_kind hrow, w_con ⟨_, tq_use_use, ⟨_, rfl, br_t rfl ?_⟩⟩⟩)))))
  refine w_cmp (w_slc (a_text h1 rfl (w_som (a_at h1 rfl ⟨_, rfl, w_som (w_bin (a_at h1 rfl (w_con ⟨_, rfl, ⟨_, rfl, ?_⟩⟩)))⟩))))
  rw [show ((aft s (.use w)).pos : Int) + 2 = (((aft s (.use w)).pos + 2 : Nat) : Int) from by omega]
  have hd2 : tl.drop (aft s (.use w)).pos = 32 :: 61 :: rest := by
    show tl.drop (s.pos + (cl w).length) = _
    rw [← List.drop_drop, hd, List.drop_left]
  refine slcT hl (w_con ⟨true, ?_, ⟨_, rfl, br_t rfl ?_⟩⟩)
  · rw [hd2, Nat.add_sub_cancel_left, e_eq]
    kernel_rfl
  have hpile : ∀ o ∈ (aft s (.use w)).pile, ∀ j, o.row = some j → j < s.rows.length := by
    intro o ho j hj
    rw [← h.rl]
    rcases List.mem_append.mp ho with ho | ho
    · exact h.ro o (List.mem_append.mpr (.inl ho)) j hj
    · cases List.mem_singleton.mp ho
      exact h.ro s.top (List.mem_append.mpr (.inr (List.mem_singleton.mpr rfl))) j hj
  have h2 := h1.unR (l := s.rows) rfl hpile
  rw [List.dropLast_concat] at h2
  refine v_cons (v_exp (w_bmt (a_rows h1 rfl ⟨rec_pop h1.ra, w_nil (pop_ok h1.ra ?_)⟩)))
  have hA : a ∈ rs ++ [a] := List.mem_append.mpr (.inr (List.mem_singleton.mpr rfl))
  have hne := h1.rne hA
  have hrow2 : (M1.set (B.length + 1) (.lst (rs.map .ref)))[a]? = _ := (set_ne hne.2.1).trans hrow
  generalize hM2 : M1.set (B.length + 1) (.lst (rs.map .ref)) = M2 at h2 hrow2 ⊢
  have hp4 : M2[p]? = some (Ope.cell rs { s.top with many := s.top.many + 1 }) := h2.pc s.low.length _ p (by simp [St.pile, aft]) hp1
  refine v_cons (v_sat (w_con (w_var rfl ⟨_, so_many (k := 0) hp4, ?_⟩)))
  have h3 := h2.tp { s.top with many := 0 } hp1 rfl
  have hpa : a ≠ p := fun e => hne.2.2.2.1 (e ▸ List.mem_of_getElem? hp1)
  have hrow3 := (set_ne (c := Ope.cell rs { s.top with many := 0 }) hpa).trans hrow2
  have hp5 := get_set (c := Ope.cell rs { s.top with many := 0 }) hp4
  dsimp only
  generalize hM3 : M2.set p (Ope.cell rs { s.top with many := 0 }) = M3 at h3 hrow3 hp5 ⊢
  have hil : i < rs.length := h.ro s.top (List.mem_append.mpr (.inr (List.mem_singleton.mpr rfl))) i hi
  obtain ⟨b, hb⟩ := get_lt hil
  have erow : rowRef rs s.top.row = .ref b := by
    rw [hi]
    simp only [rowRef, List.getD_eq_getElem?_getD, hb]
    rfl
  have hb3 := h3.rc i ro b hro hb
  have hfr : fldV env0.cl M3 (.ref p) "own_row" = some (.ref b) := by rw [fo_row hp5]; exact congrArg some erow
  refine v_cons (v_sat (w_con (w_att (w_var rfl ⟨_, hfr, ⟨_, sr_kind hb3 "let", ?_⟩⟩))))
  have h4 := h3.row (i := i) { ro with kind := "let" } hb
  have hnd : (rs ++ [a]).Nodup := h1.rn
  have hab : a ≠ b := by
    rintro rfl
    have := nd_inj hnd (last_get (rs := rs) (a := a)) (show (rs ++ [a])[i]? = some a by rw [List.getElem?_append_left hil]; exact hb)
    omega
  have hrow4 := (set_ne (c := Row.cell { ro with kind := "let" }) hab).trans hrow3
  have hp6 : (M3.set b (Row.cell { ro with kind := "let" }))[p]? = some (Ope.cell rs { s.top with many := 0 }) := by
    rw [set_ne]
    · exact hp5
    · rintro rfl
      exact (h.pne (List.mem_of_getElem? hp1)).2.2.2.1 (List.mem_of_getElem? hb)
  have hb4 := get_set (c := Row.cell { ro with kind := "let" }) hb3
  generalize hM4 : M3.set b (Row.cell { ro with kind := "let" }) = M4 at h4 hrow4 hp6 hb4 ⊢
  have hfr : fldV env0.cl M4 (.ref p) "own_row" = some (.ref b) := by rw [fo_row hp6]; exact congrArg some erow
  refine v_cons (v_sat (w_att (w_var rfl ⟨_, fr_val hrow4, w_att (w_var rfl ⟨_, hfr, ⟨_, sr_val hb4 _, ?_⟩⟩)⟩)))
  have h5 := h4.row (i := i) { ro with kind := "let", val := .str w } hb
  refine v_cons (v_step (s.pos + (cl w).length + 2) h5 rfl (by show ((s.pos + (cl w).length : Nat) : Int) + 2 = _; omega) (v_nil (v_nil (v_nil ?_))))
  have h6 := h5.at (s.pos + (cl w).length + 2)
  simp only [List.set_set] at h6
  exact isf_dirty (h.dirty h6 (.inl (by simp only; omega))) (q _ _ _ h6)
theorem close_ok {i : Nat} {ro : Row} {l : List Ope} {t : Ope} (h : R B tl s rs ps M) (hlow : s.low = l ++ [t]) (hi : s.top.row = some i) (hro : s.rows[i]? = some ro) (q : ∀ rs' ps' M', M'.length = M.length → R B tl { pos := s.pos + 1, rows := s.rows.set i { ro with behind := s.pos + 1 }, low := l, top := t } rs' ps' M' → Q .non M') : Is (evF env0 (n + 1) ("TextWalk", some "close_item") [.ref B.length] M) Q E := by
  refine w_body (d := c11) tb13 rfl ?_
  dsimp only [c11, Mini.start]
  refine v_cons (v_step (s.pos + 1) h rfl (by omega) ?_)
  have h1 := h.at (s.pos + 1)
  obtain ⟨p, hp1, hp2, hp3⟩ := top_ix h1 (kd := env0.kd)
  have hil : i < rs.length := h.ro s.top (List.mem_append.mpr (.inr (List.mem_singleton.mpr rfl))) i hi
  obtain ⟨b, hb⟩ := get_lt hil
  have erow : rowRef rs s.top.row = .ref b := by
    rw [hi]
    simp only [rowRef, List.getD_eq_getElem?_getD, hb]
    rfl
  have hfr := (fo_row hp2).trans (congrArg some erow)
  have hb1 := h1.rc i ro b hro hb
  refine v_cons (v_sat (a_at h1 rfl (w_att (w_idx (a_pile h1 rfl (w_neg (w_con ⟨1, rfl, ⟨_, hp3, ⟨_, hfr, ⟨_, sr_behind hb1 (s.pos + 1), ?_⟩⟩⟩⟩)))))))
  have h2 := h1.row (i := i) { ro with behind := s.pos + 1 } hb
  have eps : ∃ pp, ps = pp ++ [p] := by
    refine ⟨ps.take s.low.length, ?_⟩
    obtain ⟨hl, e2⟩ := List.getElem?_eq_some_iff.mp hp1
    rw [← e2, List.take_append_getElem hl, List.take_of_length_le (by rw [h1.pl]; exact Nat.le_refl _)]
  obtain ⟨pp, rfl⟩ := eps
  have h3 := h2.pop (l := l) (t := t) hlow
  rw [List.dropLast_concat] at h3
  refine v_cons (v_exp (w_bmt (a_pile h2 rfl ⟨rec_pop h2.pa, w_nil (pop_ok h2.pa (v_nil ?_))⟩)))
  exact isf_len (by rw [set_len, set_len, set_len]) (q _ _ _ (by rw [set_len, set_len, set_len]) h3)
end
end P
end LawK67

set_option Elab.async false
set_option linter.all false
set_option maxRecDepth 100000
set_option maxHeartbeats 4000000
namespace LawK67
namespace P
open PySem L2 Mini
local macro_rules | `(tactic| walk_at "ev") => `(tactic| first
  | ((with_reducible refine w_var (x := ?_) ?_ ?_); rotate_left 1; exact rfl)
  | with_reducible first | refine w_con ?_ | refine w_bin ?_ | refine w_cmp ?_ | refine w_idx ?_ | refine w_blt ?_ | refine w_nil ?_ | refine w_cons ?_ | refine w_att ?_ | refine w_cal ?_ | refine w_neg ?_ | refine w_not ?_ | refine w_and ?_ | refine w_or ?_ | refine w_chn ?_ | refine w_ife ?_ | refine w_slc ?_ | refine w_isi ?_ | refine w_som ?_ | refine w_non ?_ | refine w_star ?_ | refine w_dsp ?_ | refine w_bmt ?_ | refine w_mth ?_ | refine w_new ?_ | refine w_tup ?_ | refine w_lst ?_ | refine w_nwl ?_ | refine w_ndd ?_ | refine w_seq ?_ | refine w_rng ?_ | refine w_tno ?_ | refine w_tso ?_
  | refine v_cons ?_ | refine v_nil ?_ | refine v_asg ?_ | refine v_asgT ?_ | refine v_asgP ?_ | refine v_ret ?_ | refine v_retN ?_ | refine v_exp ?_ | refine v_ite ?_ | refine v_sat ?_ | refine v_sub ?_ | refine v_augA ?_ | refine v_for ?_ | refine v_rse ?_ | refine v_try ?_ | refine v_pas ?_ | refine v_cnt ?_
  | ((with_reducible refine w_glb (x := ?_) ?_ ?_); rotate_left 1; exact rfl) | ((with_reducible refine v_augV (z := ?_) ?_ ?_); rotate_left 1; exact rfl))
local macro_rules | `(tactic| walk_at "op") => `(tactic| refine ⟨_, rfl, ?_⟩)
local macro_rules | `(tactic| walk_at "sz") => `(tactic| refine ⟨szl (by first | decide | simp), ?_⟩)
local macro_rules | `(tactic| walk_at "go") => `(tactic| repeat first | walk_at "ev" | walk_at "op" | walk_at "sz")
/-! ### going on; over an item -/
section
variable {B : Mem} {tl : List Nat} {s : St}
theorem drop_lt {c : Nat} {t : List Nat} {k : Nat} (hd : tl.drop k = c :: t) : k < tl.length := by
  rcases Nat.lt_or_ge k tl.length with h | h
  · exact h
  · rw [List.drop_eq_nil_of_le h] at hd
    cases hd
theorem ne_beq {a b : Nat} (h : a ≠ b) : ((a : Int) == (b : Int)) = false := beq_eq_false_iff_ne.mpr fun e => h (Int.ofNat.inj e)
theorem go_close {t : List Nat} {l : List Ope} {t' : Ope} {i : Nat} {ro : Row} (hl : tl.length ≤ 3000) (hd : tl.drop s.pos = 41 :: t) (hlow : s.low = l ++ [t']) (hi : s.top.row = some i) (hro : s.rows[i]? = some ro) : Go B tl s { pos := s.pos + 1, rows := s.rows.set i { ro with behind := s.pos + 1 }, low := l, top := t' } := by
  intro n rs ps M Q E h q
  have hb := ne_beq (Nat.ne_of_lt (drop_lt hd))
  refine w_body (d := c12) tb14 rfl ?_
  dsimp only [c12, Mini.start]
  refine v_cons (v_ite (w_and (w_cmp (a_at h rfl (w_blt (w_cons (a_text h rfl (w_nil (lenT hl ⟨_, eq_int, ⟨_, rfl, br_f hb ⟨_, rfl, br_f hb (v_nil ?_)⟩⟩⟩)))))))))
  refine v_cons (v_ite (w_and (m_next h hl rfl (k := true) (by rw [hd]; kernel_rfl) ⟨_, rfl, br_t rfl (w_cmp (w_blt (w_cons (a_pile h rfl (w_nil (len_ref h.pa (w_con ⟨_, rfl, ⟨_, rfl, br_t ?_ ?_⟩⟩)))))))⟩)))
  · refine decide_eq_true ?_
    rw [h.pl, hlow, List.length_append]
    simp only [List.length_cons, List.length_nil]
    omega
  · refine v_cons (v_exp (w_mth (w_var rfl ⟨_, mi_next h, by kernel_rfl, w_nil ?_⟩)))
    exact close_ok h hlow hi hro fun rs' ps' M' hlen h' => v_nil (v_cons (v_ret (w_con (isf_len hlen (q _ _ _ h')))))
theorem go_item {t : List Nat} {s1 : St} (hl : tl.length ≤ 3000) (hd : tl.drop s.pos = 32 :: t) (hpos : s.pos < s1.pos) (hb : ∀ n, Beg B tl (n + 23) { s with pos := s.pos + 1 } s1) : Go B tl s s1 := by
  intro n rs ps M Q E h q
  have hne := ne_beq (Nat.ne_of_lt (drop_lt hd))
  refine w_body (d := c12) tb14 rfl ?_
  dsimp only [c12, Mini.start]
  refine v_cons (v_ite (w_and (w_cmp (a_at h rfl (w_blt (w_cons (a_text h rfl (w_nil (lenT hl ⟨_, eq_int, ⟨_, rfl, br_f hne ⟨_, rfl, br_f hne (v_nil ?_)⟩⟩⟩)))))))))
  refine v_cons (v_ite (w_and (m_next h hl rfl (k := false) (by rw [hd]; kernel_rfl) ⟨_, rfl, br_f rfl ⟨_, rfl, br_f rfl ?_⟩⟩)))
  refine v_cons (v_ite (m_next h hl rfl (k := true) (by rw [hd]; kernel_rfl) ⟨_, rfl, br_t rfl ?_⟩))
  refine v_cons (v_step (s.pos + 1) h rfl (by omega) ?_)
  have h1 := h.at (s.pos + 1)
  refine v_cons (v_exp (w_mth (w_var rfl ⟨_, mi_next h1, by kernel_rfl, w_nil ?_⟩)))
  refine hb n _ _ _ _ _ h1 fun rs' ps' M2 h2 => v_nil (v_nil (v_cons (v_ret (w_con ?_))))
  exact isf_dirty (h.dirty h2 (.inl (by omega))) (q _ _ _ h2)
inductive Gos (B : Mem) (tl : List Nat) : Nat → St → St → Prop
  | nil {s : St} : Gos B tl 0 s s
  | cons {k : Nat} {s s1 s2 : St} : s.pos < s1.pos → Go B tl s s1 → Gos B tl k s1 s2 → Gos B tl (k + 1) s s2
theorem Gos.trans {a b c : St} {j k : Nat} (h1 : Gos B tl j a b) (h2 : Gos B tl k b c) : Gos B tl (j + k) a c := by
  induction h1 with
  | nil => rw [Nat.zero_add]; exact h2
  | cons hp g _ ih => rw [Nat.add_right_comm]; exact .cons hp g (ih h2)
theorem Gos.pos {a b : St} {k : Nat} (h : Gos B tl k a b) : a.pos + k ≤ b.pos := by
  induction h with
  | nil => exact Nat.le_refl _
  | cons hp _ _ ih => omega
def sepL : List It → List Nat
  | [] => []
  | x :: xs => 32 :: (wl x ++ sepL xs)
theorem join_sep (w : List Nat) : ∀ xs : List It, TL.joinL [32] (w :: wls xs) = w ++ sepL xs := by
  intro xs
  induction xs generalizing w with
  | nil => simp [wls, TL.joinL, sepL]
  | cons x xs ih =>
    rw [wls, TL.joinL, ih, sepL]
    simp
theorem Del.sep {rest : List Nat} (h : Del rest) : ∀ xs : List It, Del (sepL xs ++ rest)
  | [] => h
  | x :: xs => .inr (.inl ⟨_, rfl⟩)
def aftL (s : St) (xs : List It) : St := { s with pos := s.pos + (sepL xs).length, rows := s.rows ++ rowsL s.top.path s.top.many (s.pos + 1) xs, top := { s.top with many := s.top.many + xs.length } }
def OverP (B : Mem) (tl : List Nat) (d : Nat) (it : It) : Prop := ∀ (s : St) (rest : List Nat), tl.drop s.pos = wl it ++ rest → Del rest → s.rows.length + 4 ^ d ≤ 2000 → s.top.path.length + d ≤ 50 → s.low.length + d ≤ 50 → ∃ k s1, k ≤ (wl it).length ∧ s.pos < s1.pos ∧ (∀ n, Beg B tl (n + 2 * d + 4) s s1) ∧ Gos B tl k s1 (aft s it)
def Row.rw (r : Row) : Rw := (r.path, r.first, r.behind)
mutual
theorem rowsI_sp : ∀ (it : It) (own : List Nat) (first : Nat), (rowsI own first it).map Row.rw = spI own first it
  | .num n, own, first => rfl
  | .lost, own, first => rfl
  | .use s, own, first => rfl
  | .grp h xs, own, first => by
    rw [rowsI, spI, List.map_cons, rowsL_sp xs own 0 (first + opn h)]
    rfl
theorem rowsL_sp : ∀ (xs : List It) (path : List Nat) (i first : Nat), (rowsL path i first xs).map Row.rw = spL path i first xs
  | [], path, i, first => rfl
  | x :: xs, path, i, first => by
    rw [rowsL, spL, List.map_append, rowsI_sp x, rowsL_sp xs]
end
theorem rowsI_len {d : Nat} {it : It} (h : Wf d it) (own : List Nat) (first : Nat) : (rowsI own first it).length ≤ 4 ^ d := by
  have := spI_len d own first it h
  rw [← rowsI_sp, List.length_map] at this
  exact this
theorem over_list {d : Nat} (hd3 : d ≤ 3) (hl : tl.length ≤ 3000) : ∀ (xs : List It) (s : St) (rest : List Nat), (∀ x ∈ xs, OverP B tl d x ∧ Wf d x) → tl.drop s.pos = sepL xs ++ rest → Del rest → s.rows.length + xs.length * 4 ^ d ≤ 2000 → s.top.path.length + d ≤ 50 → s.low.length + d ≤ 50 → ∃ k, k ≤ (sepL xs).length ∧ Gos B tl k s (aftL s xs)
  | [], s, rest, _, _, _, _, _, _ => ⟨0, Nat.le_refl _, by
    have : aftL s [] = s := by simp [aftL, sepL, rowsL]
    rw [this]
    exact .nil⟩
  | x :: xs, s, rest, hx, hd, hD, hr, hp, hlow => by
    obtain ⟨ho, hw⟩ := hx x List.mem_cons_self
    rw [List.length_cons, Nat.succ_mul] at hr
    have hd1 : tl.drop (s.pos + 1) = wl x ++ (sepL xs ++ rest) := by
      rw [← List.drop_drop, hd]
      simp [sepL]
    obtain ⟨k1, s1, hk1, hpos, hb, hg⟩ := ho { s with pos := s.pos + 1 } (sepL xs ++ rest) hd1 (hD.sep xs) (by simp only; omega) hp hlow
    have hgo : Go B tl s s1 := go_item hl (t := wl x ++ (sepL xs ++ rest)) (by rw [hd]; simp [sepL]) (Nat.lt_of_succ_lt hpos) fun n => by
      have := hb (n + 19 - 2 * d)
      rw [show n + 19 - 2 * d + 2 * d + 4 = n + 23 from by omega] at this
      exact this
    have hrl := rowsI_len hw (s.top.path ++ [s.top.many]) (s.pos + 1)
    obtain ⟨k2, hk2, hg2⟩ := over_list hd3 hl xs (aft { s with pos := s.pos + 1 } x) rest (fun y hy => hx y (List.mem_cons_of_mem _ hy)) (by
      show tl.drop (s.pos + 1 + (wl x).length) = _
      rw [← List.drop_drop, hd1, List.drop_left]) hD (by
      show (s.rows ++ rowsI (s.top.path ++ [s.top.many]) (s.pos + 1) x).length + _ ≤ _
      rw [List.length_append]
      omega) hp hlow
    refine ⟨1 + k1 + k2, by simp only [sepL, List.length_cons, List.length_append]; omega, ?_⟩
    have e : aftL s (x :: xs) = aftL (aft { s with pos := s.pos + 1 } x) xs := by
      simp only [aftL, aft, sepL, rowsL, List.length_cons, List.length_append, List.append_assoc, St.mk.injEq, Ope.mk.injEq, true_and, and_true]
      refine ⟨by omega, by omega⟩
    rw [e, Nat.add_comm 1 k1, Nat.add_right_comm]
    exact .cons (Nat.lt_of_succ_lt hpos) hgo (hg.trans hg2)
end
end P
end LawK67

set_option Elab.async false
set_option linter.all false
set_option maxRecDepth 100000
set_option maxHeartbeats 4000000
namespace LawK67
namespace P
open PySem L2 Mini
local macro_rules | `(tactic| walk_at "ev") => `(tactic| first
  | ((with_reducible refine w_var (x := ?_) ?_ ?_); rotate_left 1; exact rfl)
  | with_reducible first | refine w_con ?_ | refine w_bin ?_ | refine w_cmp ?_ | refine w_idx ?_ | refine w_blt ?_ | refine w_nil ?_ | refine w_cons ?_ | refine w_att ?_ | refine w_cal ?_ | refine w_neg ?_ | refine w_not ?_ | refine w_and ?_ | refine w_or ?_ | refine w_chn ?_ | refine w_ife ?_ | refine w_slc ?_ | refine w_isi ?_ | refine w_som ?_ | refine w_non ?_ | refine w_star ?_ | refine w_dsp ?_ | refine w_bmt ?_ | refine w_mth ?_ | refine w_new ?_ | refine w_tup ?_ | refine w_lst ?_ | refine w_nwl ?_ | refine w_ndd ?_ | refine w_seq ?_ | refine w_rng ?_ | refine w_tno ?_ | refine w_tso ?_
  | refine v_cons ?_ | refine v_nil ?_ | refine v_asg ?_ | refine v_asgT ?_ | refine v_asgP ?_ | refine v_ret ?_ | refine v_retN ?_ | refine v_exp ?_ | refine v_ite ?_ | refine v_sat ?_ | refine v_sub ?_ | refine v_augA ?_ | refine v_for ?_ | refine v_rse ?_ | refine v_try ?_ | refine v_pas ?_ | refine v_cnt ?_
  | ((with_reducible refine w_glb (x := ?_) ?_ ?_); rotate_left 1; exact rfl) | ((with_reducible refine v_augV (z := ?_) ?_ ?_); rotate_left 1; exact rfl))
local macro_rules | `(tactic| walk_at "op") => `(tactic| refine ⟨_, rfl, ?_⟩)
local macro_rules | `(tactic| walk_at "sz") => `(tactic| refine ⟨szl (by first | decide | simp), ?_⟩)
local macro_rules | `(tactic| walk_at "go") => `(tactic| repeat first | walk_at "ev" | walk_at "op" | walk_at "sz")
/-! ### over one item -/
section
variable {B : Mem} {tl : List Nat} {s : St}
theorem lets_pm : ∀ c ∈ lets.cps.toList, hdIn [c] "+*" = false ∧ hdIn [c] ")" = false ∧ c ≠ 61 := by decide +kernel
theorem figs_pm : ∀ c ∈ figs.cps.toList, hdIn [c] "+*" = false ∧ hdIn [c] ")" = false ∧ c ≠ 61 := by decide +kernel
theorem wl_block (x : It) (xs : List It) : wl (.grp .block (x :: xs)) = 40 :: (wl x ++ (sepL xs ++ [41])) := by
  rw [wl, wls, join_sep, List.append_assoc]
theorem wl_block0 : wl (.grp .block []) = [40, 41] := rfl
def hdT : Hd → List Nat
  | .block => [40]
  | .sum => [40, 43]
  | .prod => [40, 42]
  | .lt s => 40 :: (cl s ++ [32, 61])
theorem wl_head {h : Hd} (xs : List It) (hh : h ≠ .block) : wl (.grp h xs) = hdT h ++ (sepL xs ++ [41]) := by
  cases h with
  | block => exact (hh rfl).elim
  | sum => rw [wl, join_sep, List.append_assoc]; rfl
  | prod => rw [wl, join_sep, List.append_assoc]; rfl
  | lt s => rw [wl, join_sep, List.append_assoc]; rfl
theorem wl_first {d : Nat} {x : It} (hw : Wf d x) : ∃ c t, wl x = c :: t ∧ hdIn [c] "+*" = false ∧ hdIn [c] ")" = false ∧ c ≠ 61 ∧ (Sm x ∨ c = 40) := by
  cases hw with
  | num hk =>
    rcases num_form hk with ⟨c, e, f, _⟩ | ⟨c, d, e, f, _⟩
    · obtain ⟨a, b, c1⟩ := figs_pm c f
      exact ⟨c, _, e, a, b, c1, .inl trivial⟩
    · obtain ⟨a, b, c1⟩ := figs_pm c f
      exact ⟨c, _, e, a, b, c1, .inl trivial⟩
  | lost => exact ⟨63, [], rfl, by kernel_rfl, by kernel_rfl, by decide, .inl trivial⟩
  | use hn =>
    obtain ⟨c, ls, fs, e, hn⟩ := nm_form (rest := []) hn (.inl rfl)
    obtain ⟨a, b, c1⟩ := lets_pm c (hn.1 c List.mem_cons_self)
    exact ⟨c, ls ++ fs, e, a, b, c1, .inl trivial⟩
  | @grp _ h xs _ _ _ =>
    refine ⟨40, (wl (.grp h xs)).drop 1, ?_, by kernel_rfl, by kernel_rfl, by decide, .inr rfl⟩
    cases h with
    | block => rw [wl]; rfl
    | sum => rw [wl_head xs (by simp)]; rfl
    | prod => rw [wl_head xs (by simp)]; rfl
    | lt s => rw [wl_head xs (by simp)]; rfl
def kndH (h : Hd) : Str := knd (.grp h [])
def vluH (h : Hd) : MV := vlu (.grp h [])
/-- the items of a group are done -/
def kids (s : St) (h : Hd) (xs : List It) (p : Nat) : St := { pos := p, rows := s.rows ++ (⟨s.top.path ++ [s.top.many], s.pos, s.pos, kndH h, vluH h⟩ :: rowsL (s.top.path ++ [s.top.many]) 0 (s.pos + opn h) xs), low := s.low ++ [{ s.top with many := s.top.many + 1 }], top := ⟨s.top.path ++ [s.top.many], some s.rows.length, xs.length⟩ }
theorem kids_close {h : Hd} {xs : List It} {p : Nat} {rest : List Nat} (hl : tl.length ≤ 3000) (hd : tl.drop p = 41 :: rest) (hp : p + 1 = s.pos + (wl (.grp h xs)).length) : Go B tl (kids s h xs p) (aft s (.grp h xs)) := by
  have := go_close (B := B) (s := kids s h xs p) (i := s.rows.length) (ro := ⟨s.top.path ++ [s.top.many], s.pos, s.pos, kndH h, vluH h⟩) hl hd rfl rfl (by simp [kids])
  have e : aft s (.grp h xs) = { pos := (kids s h xs p).pos + 1, rows := (kids s h xs p).rows.set s.rows.length { path := s.top.path ++ [s.top.many], first := s.pos, behind := (kids s h xs p).pos + 1, kind := kndH h, val := vluH h }, low := s.low, top := { s.top with many := s.top.many + 1 } } := by
    have e1 : (kids s h xs p).pos + 1 = s.pos + (wl (.grp h xs)).length := hp
    rw [e1]
    have e2 : rowOf (s.top.path ++ [s.top.many]) s.pos (.grp h xs) = { path := s.top.path ++ [s.top.many], first := s.pos, behind := s.pos + (wl (.grp h xs)).length, kind := kndH h, val := vluH h } := by
      cases h <;> rfl
    simp only [aft, rowsI, kids, e2, List.set_append_right _ _ (Nat.le_refl _), Nat.sub_self, List.set_cons_zero]
  rw [e]
  exact this
/-- a group whose head is passed as a whole -/
theorem over_head {d : Nat} {h : Hd} {xs : List It} {rest : List Nat} {s2 : St} (hh : h ≠ .block) (hd3 : d ≤ 3) (hl : tl.length ≤ 3000) (hx : ∀ x ∈ xs, OverP B tl d x ∧ Wf d x) (hxl : xs.length ≤ 3) (hd : tl.drop s.pos = wl (.grp h xs) ++ rest) (hD : Del rest) (hr : s.rows.length + 4 ^ (d + 1) ≤ 2000) (hp : s.top.path.length + (d + 1) ≤ 50) (hlow : s.low.length + (d + 1) ≤ 50) (ho : opn h = (hdT h).length + 1)
    (e2 : s2 = { pos := s.pos + (hdT h).length, rows := s.rows ++ [⟨s.top.path ++ [s.top.many], s.pos, s.pos, kndH h, vluH h⟩], low := s.low ++ [{ s.top with many := s.top.many + 1 }], top := ⟨s.top.path ++ [s.top.many], some s.rows.length, 0⟩ }) : ∃ k, k ≤ (wl (.grp h xs)).length ∧ Gos B tl k s2 (aft s (.grp h xs)) := by
  have hw := wl_head xs hh
  have hd2 : tl.drop (s.pos + (hdT h).length) = sepL xs ++ (41 :: rest) := by
    rw [← List.drop_drop, hd, hw, List.append_assoc, List.drop_left, List.append_assoc]
    rfl
  have hpw : 4 ^ (d + 1) = 4 * 4 ^ d := by rw [Nat.pow_succ]; omega
  have h1 : 1 ≤ 4 ^ d := Nat.one_le_pow _ _ (by decide)
  have hm := Nat.mul_le_mul_right (4 ^ d) hxl
  obtain ⟨k, hk, hg⟩ := over_list (B := B) hd3 hl xs s2 (41 :: rest) hx (by rw [e2]; exact hd2) (.inr (.inr ⟨_, rfl⟩)) (by rw [e2]; simp only [List.length_append, List.length_cons, List.length_nil]; omega) (by rw [e2]; simp only [List.length_append, List.length_cons, List.length_nil]; omega) (by rw [e2]; simp only [List.length_append, List.length_cons, List.length_nil]; omega)
  have e3 : aftL s2 xs = kids s h xs (s.pos + (hdT h).length + (sepL xs).length) := by
    rw [e2]
    simp only [aftL, kids, ho, List.append_assoc, Nat.zero_add, Nat.add_assoc]
    rfl
  have hwl : (wl (.grp h xs)).length = (hdT h).length + (sepL xs).length + 1 := by
    rw [hw]
    simp only [List.length_append, List.length_cons, List.length_nil]
    omega
  have hc := kids_close (B := B) (s := s) (h := h) (xs := xs) (p := s.pos + (hdT h).length + (sepL xs).length) (rest := rest) hl (by rw [← List.drop_drop, hd2, List.drop_left]) (by omega)
  refine ⟨k + 1, by omega, ?_⟩
  rw [e3] at hg
  exact hg.trans (.cons (by show s.pos + (hdT h).length + (sepL xs).length < s.pos + (wl (.grp h xs)).length; omega) hc .nil)
theorem over_block {d : Nat} {x : It} {xs : List It} {rest : List Nat} {s1 : St} {kx : Nat} (hd3 : d ≤ 3) (hl : tl.length ≤ 3000) (hx : ∀ y ∈ xs, OverP B tl d y ∧ Wf d y) (hw : Wf d x) (hxl : xs.length ≤ 2) (hd : tl.drop s.pos = wl (.grp .block (x :: xs)) ++ rest) (hD : Del rest) (hr : s.rows.length + 4 ^ (d + 1) ≤ 2000) (hp : s.top.path.length + (d + 1) ≤ 50) (hlow : s.low.length + (d + 1) ≤ 50) (hkx : kx ≤ (wl x).length) (hg : Gos B tl kx s1 (aft (opened s) x)) : ∃ k, k ≤ (wl (.grp .block (x :: xs))).length ∧ Gos B tl k s1 (aft s (.grp .block (x :: xs))) := by
  have hwb := wl_block x xs
  have hd1 : tl.drop (s.pos + 1) = wl x ++ (sepL xs ++ (41 :: rest)) := by
    rw [← List.drop_drop, hd, hwb]
    simp
  have hd2 : tl.drop (s.pos + 1 + (wl x).length) = sepL xs ++ (41 :: rest) := by
    rw [← List.drop_drop, hd1, List.drop_left]
  have hpw : 4 ^ (d + 1) = 4 * 4 ^ d := by rw [Nat.pow_succ]; omega
  have h1 : 1 ≤ 4 ^ d := Nat.one_le_pow _ _ (by decide)
  have hm := Nat.mul_le_mul_right (4 ^ d) hxl
  have hrl := rowsI_len hw (s.top.path ++ [s.top.many] ++ [0]) (s.pos + 1)
  obtain ⟨k, hk, hg2⟩ := over_list (B := B) hd3 hl xs (aft (opened s) x) (41 :: rest) hx hd2 (.inr (.inr ⟨_, rfl⟩)) (by simp only [aft, opened, List.length_append, List.length_cons, List.length_nil] at hrl ⊢; omega) (by simp only [aft, opened, List.length_append, List.length_cons, List.length_nil]; omega) (by simp only [aft, opened, List.length_append, List.length_cons, List.length_nil]; omega)
  have e3 : aftL (aft (opened s) x) xs = kids s .block (x :: xs) (s.pos + 1 + (wl x).length + (sepL xs).length) := by
    simp only [aftL, aft, opened, kids, opn, rowsL, List.append_assoc, Nat.zero_add, List.length_cons, St.mk.injEq, Ope.mk.injEq, true_and]
    refine ⟨rfl, by omega⟩
  have hwl : (wl (.grp .block (x :: xs))).length = 1 + (wl x).length + (sepL xs).length + 1 := by
    rw [hwb]
    simp only [List.length_append, List.length_cons, List.length_nil]
    omega
  have hc := kids_close (B := B) (s := s) (h := .block) (xs := x :: xs) (p := s.pos + 1 + (wl x).length + (sepL xs).length) (rest := rest) hl (by rw [← List.drop_drop, hd2, List.drop_left]) (by omega)
  refine ⟨kx + (k + 1), by omega, ?_⟩
  rw [e3] at hg2
  exact hg.trans (hg2.trans (.cons (by show s.pos + 1 + (wl x).length + (sepL xs).length < s.pos + (wl (.grp .block (x :: xs))).length; omega) hc .nil))
theorem over (hl : tl.length ≤ 3000) (hT : ∀ c ∈ tl, c < 1000) : ∀ (d : Nat) (it : It), Wf d it → d ≤ 3 → OverP B tl d it := by
  have hsmall : ∀ (d : Nat) (it : It), Wf d it → Sm it → OverP B tl d it := by
    intro d it hw hs s rest hd hD hr hp hlow
    have hpos := wl_pos hw hs
    refine ⟨0, aft s it, by omega, by show s.pos < s.pos + (wl it).length; omega, fun n => ?_, .nil⟩
    exact beg_small (n := n + 2 * d) hl (by have := Nat.one_le_pow d 4 (by decide); omega) (by omega) hw hs hd hD
  intro d
  induction d with
  | zero =>
    intro it hw _
    refine hsmall 0 it hw ?_
    cases hw <;> trivial
  | succ d ih =>
    intro it hw hd3
    cases hw with
    | num hk => exact hsmall _ _ (.num hk) trivial
    | lost => exact hsmall _ _ .lost trivial
    | use hn => exact hsmall _ _ (.use hn) trivial
    | @grp _ h xs ho hxl hxw =>
      intro s rest hd hD hr hp hlow
      have hx : ∀ x ∈ xs, OverP B tl d x ∧ Wf d x := fun x hx => ⟨ih x (hxw x hx) (by omega), hxw x hx⟩
      have h4 : 1 ≤ 4 ^ (d + 1) := Nat.one_le_pow _ _ (by decide)
      have hr1 : s.rows.length ≤ 3000 := by omega
      have hp1 : s.top.path.length ≤ 90 := by omega
      have hl1 : s.low.length ≤ 90 := by omega
      cases h with
      | sum =>
        obtain ⟨k, hk, hg⟩ := over_head (B := B) (s := s) (h := .sum) (by simp) (by omega) hl hx hxl hd hD hr hp hlow rfl rfl
        refine ⟨k, _, hk, ?_, fun n => ?_, hg⟩
        · show s.pos < s.pos + 2
          omega
        · exact beg_sign (n := n + 2 * (d + 1)) (c := 43) (kd := "sum") (by kernel_rfl) (fun M => sk_sum) hl hr1 hp1 hl1 (t := sepL xs ++ [41] ++ rest) (by rw [hd, wl_head xs (by simp)]; rfl)
      | prod =>
        obtain ⟨k, hk, hg⟩ := over_head (B := B) (s := s) (h := .prod) (by simp) (by omega) hl hx hxl hd hD hr hp hlow rfl rfl
        refine ⟨k, _, hk, ?_, fun n => ?_, hg⟩
        · show s.pos < s.pos + 2
          omega
        · exact beg_sign (n := n + 2 * (d + 1)) (c := 42) (kd := "product") (by kernel_rfl) (fun M => sk_prd) hl hr1 hp1 hl1 (t := sepL xs ++ [41] ++ rest) (by rw [hd, wl_head xs (by simp)]; rfl)
      | lt w =>
        obtain ⟨k, hk, hg⟩ := over_head (B := B) (s := s) (h := .lt w) (by simp) (by omega) hl hx hxl hd hD hr hp hlow (by simp [opn, hdT]) rfl
        obtain ⟨c, ls, fs, e, hn⟩ := nm_form (rest := []) ho (.inl rfl)
        obtain ⟨c1, c2, c3⟩ := lets_pm c (hn.1 c List.mem_cons_self)
        have hd2 : tl.drop s.pos = 40 :: (cl w ++ (32 :: 61 :: (sepL xs ++ (41 :: rest)))) := by
          rw [hd, wl_head xs (by simp)]
          simp [hdT]
        refine ⟨k, _, hk, ?_, fun n => ?_, hg⟩
        · show s.pos < s.pos + (hdT (.lt w)).length
          simp [hdT]
        · refine beg_first (n := n + 2 * (d + 1)) (c := c) (t := ls ++ fs ++ (32 :: 61 :: (sepL xs ++ (41 :: rest)))) c1 c2 hl hr1 hp1 hl1 (by rw [hd2, e]; simp) (by show s.pos < s.pos + (hdT (.lt w)).length; simp [hdT]) ?_
          have := bf_let (B := B) (n := n + 2 * d + 1) (s := opened s) (i := s.rows.length) (ro := ⟨s.top.path ++ [s.top.many], s.pos, s.pos, "block", .non⟩) (rest := sepL xs ++ (41 :: rest)) hl (by simp only [opened, List.length_append, List.length_cons, List.length_nil]; omega) (by simp only [opened, List.length_append, List.length_cons, List.length_nil]; omega) (nm_form ho (.inr (.inl ⟨_, rfl⟩))) (by rw [opened_pos, ← List.drop_drop, hd2]; rfl) rfl (by simp [opened])
          rw [show n + 2 * (d + 1) + 3 = n + 2 * d + 1 + 4 from by omega]
          have e5 : ({ opened s with pos := (opened s).pos + (cl w).length + 2, rows := (opened s).rows.set s.rows.length { path := s.top.path ++ [s.top.many], first := s.pos, behind := s.pos, kind := "let", val := .str w }, top := { (opened s).top with many := 0 } } : St) = { pos := s.pos + (hdT (.lt w)).length, rows := s.rows ++ [⟨s.top.path ++ [s.top.many], s.pos, s.pos, kndH (.lt w), vluH (.lt w)⟩], low := s.low ++ [{ s.top with many := s.top.many + 1 }], top := ⟨s.top.path ++ [s.top.many], some s.rows.length, 0⟩ } := by
            simp only [opened, hdT, List.set_append_right _ _ (Nat.le_refl _), Nat.sub_self, List.set_cons_zero, List.length_cons, List.length_append, List.length_nil, St.mk.injEq, and_true]
            exact ⟨by omega, rfl⟩
          rw [e5] at this
          exact this
      | block =>
        cases xs with
        | nil =>
          have hd2 : tl.drop s.pos = 40 :: 41 :: rest := by rw [hd]; rfl
          have hc := kids_close (B := B) (s := s) (h := .block) (xs := []) (p := s.pos + 1) (rest := rest) hl (by rw [← List.drop_drop, hd2]; rfl) (by rw [wl_block0]; simp)
          refine ⟨1, opened s, by rw [wl_block0]; decide, by rw [opened_pos]; omega, fun n => beg_empty (n := n + 2 * (d + 1)) hl hr1 hp1 hl1 hd2, ?_⟩
          exact .cons (by show s.pos + 1 < s.pos + (wl (.grp .block [])).length; rw [wl_block0]; simp) hc .nil
        | cons x xs =>
          obtain ⟨hox, hwx⟩ := hx x List.mem_cons_self
          obtain ⟨c, t, e, c1, c2, c3, c4⟩ := wl_first hwx
          have hwb := wl_block x xs
          have hd2 : tl.drop s.pos = 40 :: (wl x ++ (sepL xs ++ (41 :: rest))) := by
            rw [hd, hwb]
            simp
          have hd1 : tl.drop (opened s).pos = wl x ++ (sepL xs ++ (41 :: rest)) := by
            rw [opened_pos, ← List.drop_drop, hd2]
            rfl
          have hpw : 4 ^ (d + 1) = 4 * 4 ^ d := by rw [Nat.pow_succ]; omega
          have h41 : 1 ≤ 4 ^ d := Nat.one_le_pow _ _ (by decide)
          have hD2 : Del (sepL xs ++ (41 :: rest)) := Del.sep (.inr (.inr ⟨_, rfl⟩)) xs
          have hroom : (opened s).rows.length + 4 ^ d ≤ 2000 := by simp only [opened, List.length_append, List.length_cons, List.length_nil]; omega
          have hpath : (opened s).top.path.length + d ≤ 50 := by simp only [opened, List.length_append, List.length_cons, List.length_nil]; omega
          have hlw : (opened s).low.length + d ≤ 50 := by simp only [opened, List.length_append, List.length_cons, List.length_nil]; omega
          have hxl2 : xs.length ≤ 2 := by simp at hxl; omega
          have hx2 : ∀ y ∈ xs, OverP B tl d y ∧ Wf d y := fun y hy => hx y (List.mem_cons_of_mem _ hy)
          have hne : (sepL xs ++ (41 :: rest)).take 2 ≠ [32, 61] := by
            cases xs with
            | nil => simp [sepL]
            | cons y ys =>
              obtain ⟨c', t', e', _, _, c3', _⟩ := wl_first (hx2 y List.mem_cons_self).2
              simp only [sepL, e']
              simp
              exact c3'
          by_cases hs : Sm x
          · have hpx := wl_pos hwx hs
            obtain ⟨k, hk, hg⟩ := over_block (B := B) (s := s) (s1 := aft (opened s) x) (kx := 0) (by omega) hl hx2 hwx hxl2 hd hD hr hp hlow (Nat.zero_le _) .nil
            refine ⟨k, _, hk, by show s.pos < s.pos + 1 + _; omega, fun n => ?_, hg⟩
            refine beg_first (n := n + 2 * (d + 1)) (c := c) (t := t ++ (sepL xs ++ (41 :: rest))) c1 c2 hl hr1 hp1 hl1 (by rw [hd2, e]; rfl) (by show s.pos < s.pos + 1 + _; omega) ?_
            rw [show n + 2 * (d + 1) + 3 = n + 2 * d + 1 + 4 from by omega]
            exact bf_small hl hT (by omega) (by omega) hwx hs hd1 hD2 hne
          · have hc40 : c = 40 := c4.resolve_left hs
            obtain ⟨kx, s1, hkx, hpos, hb, hgx⟩ := hox (opened s) _ hd1 hD2 hroom hpath hlw
            obtain ⟨k, hk, hg⟩ := over_block (B := B) (s := s) (by omega) hl hx2 hwx hxl2 hd hD hr hp hlow hkx hgx
            have hpos2 : s.pos < s1.pos := by rw [opened_pos] at hpos; omega
            refine ⟨k, s1, hk, hpos2, fun n => ?_, hg⟩
            refine beg_first (n := n + 2 * (d + 1)) (c := c) (t := t ++ (sepL xs ++ (41 :: rest))) c1 c2 hl hr1 hp1 hl1 (by rw [hd2, e]; rfl) hpos2 ?_
            rw [show n + 2 * (d + 1) + 3 = n + 2 * d + 1 + 4 from by omega]
            refine bf_grp (t := t ++ (sepL xs ++ (41 :: rest))) hl (by rw [hd1, e, hc40]; rfl) hpos ?_
            rw [show n + 2 * d + 1 + 3 = n + 2 * d + 4 from by omega]
            exact hb n
end
end P
end LawK67

set_option Elab.async false
set_option linter.all false
set_option maxRecDepth 100000
set_option maxHeartbeats 4000000
namespace LawK67
namespace P
open PySem L2 Mini
local macro_rules | `(tactic| walk_at "ev") => `(tactic| first
  | ((with_reducible refine w_var (x := ?_) ?_ ?_); rotate_left 1; exact rfl)
  | with_reducible first | refine w_con ?_ | refine w_bin ?_ | refine w_cmp ?_ | refine w_idx ?_ | refine w_blt ?_ | refine w_nil ?_ | refine w_cons ?_ | refine w_att ?_ | refine w_cal ?_ | refine w_neg ?_ | refine w_not ?_ | refine w_and ?_ | refine w_or ?_ | refine w_chn ?_ | refine w_ife ?_ | refine w_slc ?_ | refine w_isi ?_ | refine w_som ?_ | refine w_non ?_ | refine w_star ?_ | refine w_dsp ?_ | refine w_bmt ?_ | refine w_mth ?_ | refine w_new ?_ | refine w_tup ?_ | refine w_lst ?_ | refine w_nwl ?_ | refine w_ndd ?_ | refine w_seq ?_ | refine w_rng ?_ | refine w_tno ?_ | refine w_tso ?_
  | refine v_cons ?_ | refine v_nil ?_ | refine v_asg ?_ | refine v_asgT ?_ | refine v_asgP ?_ | refine v_ret ?_ | refine v_retN ?_ | refine v_exp ?_ | refine v_ite ?_ | refine v_sat ?_ | refine v_sub ?_ | refine v_augA ?_ | refine v_for ?_ | refine v_rse ?_ | refine v_try ?_ | refine v_pas ?_ | refine v_cnt ?_
  | ((with_reducible refine w_glb (x := ?_) ?_ ?_); rotate_left 1; exact rfl) | ((with_reducible refine v_augV (z := ?_) ?_ ?_); rotate_left 1; exact rfl))
local macro_rules | `(tactic| walk_at "op") => `(tactic| refine ⟨_, rfl, ?_⟩)
local macro_rules | `(tactic| walk_at "sz") => `(tactic| refine ⟨szl (by first | decide | simp), ?_⟩)
local macro_rules | `(tactic| walk_at "go") => `(tactic| repeat first | walk_at "ev" | walk_at "op" | walk_at "sz")
/-! ### the whole text -/
section
variable {B : Mem} {tl : List Nat} {s : St} {rs ps : List Nat} {M : Mem} {n : Nat} {Q : MV → Mem → Prop} {E : Str → MV → Mem → Prop}
theorem begin_bad (h : R B tl s rs ps M) (hl : tl.length ≤ 3000) (h1 : hdIn (tl.drop s.pos) figs = false) (h2 : hdIn (tl.drop s.pos) lets = false) (h3 : hdIn (tl.drop s.pos) "?" = false) (h4 : hdIn (tl.drop s.pos) "(" = false) (e : E "BadText" (.int (s.pos : Int)) M) : Is (evF env0 (n + 4) ("TextWalk", some "begin_item") [.ref B.length] M) Q E := by
  refine w_body (d := c9) tb11 rfl ?_
  dsimp only [c9, Mini.start]
  refine v_cons (v_ite (w_cmp (w_mth (w_var rfl ⟨_, mi_next h, by kernel_rfl, w_nil ?_⟩))))
  refine small_none h hl h1 h2 h3 (w_con ⟨_, isn_non, ⟨_, rfl, br_f rfl (v_nil ?_)⟩⟩)
  refine v_cons (v_ite (w_not (m_next h hl rfl h4 ⟨_, rfl, ⟨_, rfl, br_t rfl ?_⟩⟩)))
  refine v_cons (v_exp (w_mth (w_var rfl ⟨_, mi_next h, by kernel_rfl, w_nil ?_⟩)))
  refine refuse h ?_
  rw [fin_lenX rfl]
  unfold Is
  exact e
theorem go_end (h : R B tl s rs ps M) (hl : tl.length ≤ 3000) (hp : s.pos = tl.length) (hlow : s.low = []) (q : Q (.bl false) M) : Is (evF env0 (n + 24) ("TextWalk", some "go_on") [.ref B.length] M) Q E := by
  refine w_body (d := c12) tb14 rfl ?_
  dsimp only [c12, Mini.start]
  have e1 : ((s.pos : Int) == (tl.length : Int)) = true := by rw [hp]; exact beq_self_eq_true _
  have e2 : ((ps.length : Int) == 1) = true := by rw [h.pl, hlow]; rfl
  refine v_cons (v_ite (w_and (w_cmp (a_at h rfl (w_blt (w_cons (a_text h rfl (w_nil (lenT hl ⟨_, eq_int, ⟨_, rfl, br_t e1 ?_⟩⟩)))))))))
  refine w_cmp (w_blt (w_cons (a_pile h rfl (w_nil (len_ref h.pa (w_con ⟨_, eq_int, ⟨_, rfl, br_t e2 ?_⟩⟩))))))
  exact v_cons (v_ret (w_con (isf_same q)))
theorem go_bad (h : R B tl s rs ps M) (hl : tl.length ≤ 3000) (hd : tl.drop s.pos = [32]) (e : ∀ rs' ps' M', M'.length = M.length → R B tl { s with pos := s.pos + 1 } rs' ps' M' → E "BadText" (.int ((s.pos + 1 : Nat) : Int)) M') : Is (evF env0 (n + 24) ("TextWalk", some "go_on") [.ref B.length] M) Q E := by
  have hne := ne_beq (Nat.ne_of_lt (drop_lt hd))
  refine w_body (d := c12) tb14 rfl ?_
  dsimp only [c12, Mini.start]
  refine v_cons (v_ite (w_and (w_cmp (a_at h rfl (w_blt (w_cons (a_text h rfl (w_nil (lenT hl ⟨_, eq_int, ⟨_, rfl, br_f hne ⟨_, rfl, br_f hne (v_nil ?_)⟩⟩⟩)))))))))
  refine v_cons (v_ite (w_and (m_next h hl rfl (k := false) (by rw [hd]; kernel_rfl) ⟨_, rfl, br_f rfl ⟨_, rfl, br_f rfl ?_⟩⟩)))
  refine v_cons (v_ite (m_next h hl rfl (k := true) (by rw [hd]; kernel_rfl) ⟨_, rfl, br_t rfl ?_⟩))
  refine v_cons (v_step (s.pos + 1) h rfl (by omega) ?_)
  have h1 := h.at (s.pos + 1)
  refine v_cons (v_exp (w_mth (w_var rfl ⟨_, mi_next h1, by kernel_rfl, w_nil ?_⟩)))
  have hd1 : tl.drop (s.pos + 1) = [] := by rw [← List.drop_drop, hd]; rfl
  refine begin_bad (n := n + 19) h1 hl (by simp only [hd1]; rfl) (by simp only [hd1]; rfl) (by simp only [hd1]; rfl) (by simp only [hd1]; rfl) ?_
  rw [fin_lenX set_len]
  have := e _ _ _ set_len h1
  unfold Is
  exact this
abbrev lpB : CB := .cons (.asg 1 (.mth "TextWalk" (.var 0) "go_on" .nil)) .nil
theorem loop_gos {Q : Flw → Mem → Prop} {k fuel : Nat} {s s' : St} (hg : Gos B tl k s s') : ∀ {rs ps : List Nat} {M : Mem}, R B tl s rs ps M → (∀ rs' ps' M', R B tl s' rs' ps' M' → Is (whlV (fun r1 M1 => bitV (env0.cfg (n + 24)) r1 (.var 1) M1) (fun r1 M1 => evB (env0.cfg (n + 24)) lpB r1 M1) fuel [some (.ref B.length), some (.bl true)] M') Q E) → Is (whlV (fun r1 M1 => bitV (env0.cfg (n + 24)) r1 (.var 1) M1) (fun r1 M1 => evB (env0.cfg (n + 24)) lpB r1 M1) (k + fuel) [some (.ref B.length), some (.bl true)] M) Q E := by
  induction hg with
  | nil =>
    intro rs ps M h q
    rw [Nat.zero_add]
    exact q _ _ _ h
  | @cons k s s1 s2 _ g _ ih =>
    intro rs ps M h q
    rw [show k + 1 + fuel = k + fuel + 1 from by omega]
    refine whl_step (is_bit (w_var rfl ⟨_, rfl, br_t rfl ?_⟩))
    refine v_cons (v_asg (w_mth (w_var rfl ⟨_, mi_next h, by kernel_rfl, w_nil ?_⟩)))
    exact g n _ _ _ _ _ h fun rs' ps' M' h' => v_nil (ih h' q)
theorem nil_ne {l : List Nat} (hT : ∀ c ∈ l, c < 1000) : cmpV .NotEq M (.str (SX.S l)) (.str "") = some (!decide (l = [])) := by
  have e : ("" : Str) = SX.S [] := by kernel_rfl
  rw [e]
  simp only [cmpV]
  rw [eq_str (ok_S hT) (ok_S (by simp)), SX.S_beq_eq]
  rfl
def sta : St := ⟨0, [], [], ⟨[], none, 0⟩⟩
/-- a text walked to its end -/
theorem walked_ok {s1 s2 : St} {k : Nat} (h : R B tl sta rs ps M) (hl : tl.length ≤ 3000) (hT : ∀ c ∈ tl, c < 1000) (hne : tl ≠ []) (hk : k < 4000) (hb : Beg B tl (n + 24) sta s1) (hg : Gos B tl k s1 s2) (hp : s2.pos = tl.length) (hlow : s2.low = []) (q : ∀ rs' ps' M', R B tl s2 rs' ps' M' → Q (.ref (B.length + 1)) M') : Is (evF env0 (n + 25) ("TextWalk", some "walked_rows") [.ref B.length] M) Q E := by
  refine w_body (d := c13) tb15 rfl ?_
  dsimp only [c13, Mini.start]
  refine v_cons (v_ite (w_cmp (a_text h rfl (w_con ⟨_, nil_ne hT, ⟨_, rfl, br_t (by rw [decide_eq_false hne]; rfl) ?_⟩⟩))))
  refine v_cons (v_exp (w_mth (w_var rfl ⟨_, mi_next h, by kernel_rfl, w_nil ?_⟩)))
  refine hb _ _ _ _ _ h fun rs1 ps1 M1 h1 => ?_
  refine v_cons (v_asg (w_con (v_cons (v_whl ?_))))
  show Is (whlV _ _ 5000 _ _) _ _
  rw [show (5000 : Nat) = k + (4998 - k + 1 + 1) from by omega]
  refine loop_gos hg h1 fun rs2 ps2 M2 h2 => ?_
  refine whl_step (is_bit (w_var rfl ⟨_, rfl, br_t rfl ?_⟩))
  refine v_cons (v_asg (w_mth (w_var rfl ⟨_, mi_next h2, by kernel_rfl, w_nil ?_⟩)))
  refine go_end h2 hl hp hlow (v_nil ?_)
  refine whl_step (is_bit (w_var rfl ⟨_, rfl, br_f rfl (v_nil ?_)⟩))
  refine v_cons (v_ret (a_rows h2 rfl ?_))
  refine isf_dirty (h.dirty h2 (.inl ?_)) (q _ _ _ h2)
  rw [hp]
  intro e
  exact hne (List.length_eq_zero_iff.mp e.symm)
/-- a text with a sign too many -/
theorem walked_bad {s1 s2 : St} {k : Nat} (h : R B tl sta rs ps M) (hl : tl.length ≤ 3000) (hT : ∀ c ∈ tl, c < 1000) (hk : k < 4000) (hb : Beg B tl (n + 24) sta s1) (hg : Gos B tl k s1 s2) (hd : tl.drop s2.pos = [32]) (q : ∀ rs' ps' M', R B tl { s2 with pos := s2.pos + 1 } rs' ps' M' → E "BadText" (.int ((s2.pos + 1 : Nat) : Int)) M') : Is (evF env0 (n + 25) ("TextWalk", some "walked_rows") [.ref B.length] M) Q E := by
  have hne : tl ≠ [] := by
    rintro rfl
    simp at hd
  refine w_body (d := c13) tb15 rfl ?_
  dsimp only [c13, Mini.start]
  refine v_cons (v_ite (w_cmp (a_text h rfl (w_con ⟨_, nil_ne hT, ⟨_, rfl, br_t (by rw [decide_eq_false hne]; rfl) ?_⟩⟩))))
  refine v_cons (v_exp (w_mth (w_var rfl ⟨_, mi_next h, by kernel_rfl, w_nil ?_⟩)))
  refine hb _ _ _ _ _ h fun rs1 ps1 M1 h1 => ?_
  refine v_cons (v_asg (w_con (v_cons (v_whl ?_))))
  show Is (whlV _ _ 5000 _ _) _ _
  rw [show (5000 : Nat) = k + (4998 - k + 1 + 1) from by omega]
  refine loop_gos hg h1 fun rs2 ps2 M2 h2 => ?_
  refine whl_step (is_bit (w_var rfl ⟨_, rfl, br_t rfl ?_⟩))
  refine v_cons (v_asg (w_mth (w_var rfl ⟨_, mi_next h2, by kernel_rfl, w_nil ?_⟩)))
  refine go_bad h2 hl hd fun rs' ps' M' _ h' => ?_
  have := q _ _ _ h'
  rw [fin_dirtyX (h.dirty h' (.inl (by show (0 : Nat) ≠ s2.pos + 1; omega)))]
  unfold Is
  exact this
/-- a text that begins with no item -/
theorem walked_bad0 (h : R B tl sta rs ps M) (hl : tl.length ≤ 3000) (hT : ∀ c ∈ tl, c < 1000) (hd : tl = [32]) (q : E "BadText" (.int 0) M) : Is (evF env0 (n + 25) ("TextWalk", some "walked_rows") [.ref B.length] M) Q E := by
  refine w_body (d := c13) tb15 rfl ?_
  dsimp only [c13, Mini.start]
  refine v_cons (v_ite (w_cmp (a_text h rfl (w_con ⟨_, nil_ne hT, ⟨_, rfl, br_t (by rw [hd]; rfl) ?_⟩⟩))))
  refine v_cons (v_exp (w_mth (w_var rfl ⟨_, mi_next h, by kernel_rfl, w_nil ?_⟩)))
  subst hd
  refine begin_bad (n := n + 20) h hl (by kernel_rfl) (by kernel_rfl) (by kernel_rfl) (by kernel_rfl) ?_
  rw [fin_lenX rfl]
  unfold Is
  exact q
theorem walked_nil (h : R B tl sta rs ps M) (hd : tl = []) (q : Q (.ref (B.length + 1)) M) : Is (evF env0 (n + 25) ("TextWalk", some "walked_rows") [.ref B.length] M) Q E := by
  subst hd
  refine w_body (d := c13) tb15 rfl ?_
  dsimp only [c13, Mini.start]
  refine v_cons (v_ite (w_cmp (a_text h rfl (w_con ⟨_, nil_ne (fun _ z => nomatch z), ⟨_, rfl, br_f rfl (v_nil ?_)⟩⟩))))
  exact v_cons (v_ret (a_rows h rfl (isf_same q)))
/-- the walk made -/
def M0 (B : Mem) (tl : List Nat) : Mem := B ++ [wkC B tl 0, .lst [], Ope.cell [] ⟨[], none, 0⟩, .lst [.ref (B.length + 2)]]
theorem R0 : R B tl sta [] [B.length + 2] (M0 B tl) where
  base := by simp [M0]
  wk := by simp [M0, sta]
  ra := by simp [M0]
  pa := by simp [M0]
  rl := rfl
  pl := rfl
  rn := List.nodup_nil
  pn := by simp
  rc i r a h := by simp [sta] at h
  pc i o a h1 h2 := by
    match i, h1, h2 with
    | 0, h1, h2 =>
      cases h1
      cases h2
      simp [M0, sta]
    | i + 1, h1, h2 => simp [sta, St.pile] at h1
  rb a h := nomatch h
  pb a h := by
    cases List.mem_singleton.mp h
    omega
  ro o h j hj := by
    cases List.mem_singleton.mp h
    cases hj
theorem sat_in {c f : Str} {v : MV} {fs : List (Str × MV)} {t : Mem} (hc : env0.cl c f = true) (hf : Nat.ble fs.length 999 = true) : satV env0.cl (B ++ .ins c fs :: t) (.ref B.length) f v = some (B ++ .ins c (putL f v fs) :: t) := by
  simp only [satV, List.getElem?_append_right (Nat.le_refl _), Nat.sub_self, List.getElem?_cons_zero]
  rw [if_pos ⟨hc, Nat.lt_succ_of_le (Nat.le_of_ble_eq_true hf)⟩, List.set_append_right _ _ (Nat.le_refl _), Nat.sub_self]
  rfl
theorem fin_w {X : Mem} (hX : X = M0 B tl) (q : Q .non (M0 B tl)) : Is (fin false (B ++ [.ins "TextWalk" []]) (.ok .non X)) Q E := by
  subst hX
  refine isf_dirty ?_ q
  intro e
  have e2 := congrArg (fun (l : Mem) => l[B.length]?) e
  simp [M0, wkC] at e2
theorem fin_wL {B t : List Cell} : (List.append B t).length = B.length + t.length := List.length_append
theorem init_walk (q : Q .non (M0 B tl)) : Is (evF env0 (n + 2) ("TextWalk", some "__init__") [.ref B.length, .str (SX.S tl)] (B ++ [.ins "TextWalk" []])) Q E := by
  refine w_body (d := c2) tb4 rfl ?_
  dsimp only [c2, Mini.start]
  refine v_cons (v_sat (w_var rfl (w_var rfl ⟨_, sat_in (by kernel_rfl) (by kernel_rfl), ?_⟩)))
  refine v_cons (v_sat (w_con (w_var rfl ⟨_, sat_in (by kernel_rfl) (by kernel_rfl), ?_⟩)))
  refine v_cons (v_sat (w_nwl (w_nil ⟨szl (by simp), ?_⟩)))
  rw [List.append_assoc]
  refine w_var rfl ⟨_, sat_in (by kernel_rfl) (by kernel_rfl), ?_⟩
  refine v_cons (v_sat (w_nwl (w_cons (w_new (w_cons (w_tup (w_nil ⟨szl (by simp), w_cons (w_con (w_nil ?_))⟩)))))))
  refine init_open (path := []) ⟨rfl, w_nil ⟨szl (by simp), ?_⟩⟩
  rw [List.append_assoc, List.append_assoc]
  refine w_var rfl ⟨_, sat_in (by kernel_rfl) (by kernel_rfl), v_nil ?_⟩
  refine fin_w ?_ q
  dsimp only [List.append, HAppend.hAppend, Append.append]
  simp only [fin_wL]
  kernel_rfl
end
end P
end LawK67

set_option Elab.async false
set_option linter.all false
set_option maxRecDepth 100000
set_option maxHeartbeats 4000000
namespace LawK67
namespace P
open PySem L2 Mini
local macro_rules | `(tactic| walk_at "ev") => `(tactic| first
  | ((with_reducible refine w_var (x := ?_) ?_ ?_); rotate_left 1; exact rfl)
  | with_reducible first | refine w_con ?_ | refine w_bin ?_ | refine w_cmp ?_ | refine w_idx ?_ | refine w_blt ?_ | refine w_nil ?_ | refine w_cons ?_ | refine w_att ?_ | refine w_cal ?_ | refine w_neg ?_ | refine w_not ?_ | refine w_and ?_ | refine w_or ?_ | refine w_chn ?_ | refine w_ife ?_ | refine w_slc ?_ | refine w_isi ?_ | refine w_som ?_ | refine w_non ?_ | refine w_star ?_ | refine w_dsp ?_ | refine w_bmt ?_ | refine w_mth ?_ | refine w_new ?_ | refine w_tup ?_ | refine w_lst ?_ | refine w_nwl ?_ | refine w_ndd ?_ | refine w_seq ?_ | refine w_rng ?_ | refine w_tno ?_ | refine w_tso ?_
  | refine v_cons ?_ | refine v_nil ?_ | refine v_asg ?_ | refine v_asgT ?_ | refine v_asgP ?_ | refine v_ret ?_ | refine v_retN ?_ | refine v_exp ?_ | refine v_ite ?_ | refine v_sat ?_ | refine v_sub ?_ | refine v_augA ?_ | refine v_for ?_ | refine v_rse ?_ | refine v_try ?_ | refine v_pas ?_ | refine v_cnt ?_
  | ((with_reducible refine w_glb (x := ?_) ?_ ?_); rotate_left 1; exact rfl) | ((with_reducible refine v_augV (z := ?_) ?_ ?_); rotate_left 1; exact rfl))
local macro_rules | `(tactic| walk_at "op") => `(tactic| refine ⟨_, rfl, ?_⟩)
local macro_rules | `(tactic| walk_at "sz") => `(tactic| refine ⟨szl (by first | decide | simp), ?_⟩)
local macro_rules | `(tactic| walk_at "go") => `(tactic| repeat first | walk_at "ev" | walk_at "op" | walk_at "sz")
/-! ### rows_of_text -/
def Row.obj (r : Row) : MV := .obj "ItemRow" [("own_path", .tup (nats r.path)), ("own_first", .int (r.first : Int)), ("own_behind", .int (r.behind : Int)), ("own_kind", .str r.kind), ("own_value", r.val)]
theorem nats_clean (N : Nat) : ∀ p : List Nat, cleanL N (nats p) = true
  | [] => rfl
  | x :: p => by
    show (clean N (.int (x : Int)) && cleanL N (nats p)) = true
    rw [nats_clean N p]
    simp [clean]
theorem frz_clean {M : Mem} {N k : Nat} {x : MV} (h : clean N x = true) : frz M N (k + 1) x = some x := by
  unfold frz
  rw [if_pos h]
theorem frz_row {M : Mem} {N k a : Nat} {r : Row} (ha : M[a]? = some r.cell) (hb : N ≤ a) (hv : clean N r.val = true) : frz M N (k + 2) (.ref a) = some r.obj := by
  unfold frz
  rw [if_neg (by simp [clean]; omega)]
  have e1 : frz M N (k + 1) (.tup (nats r.path)) = some (.tup (nats r.path)) := frz_clean (by simp [clean, nats_clean])
  have e2 : frz M N (k + 1) (.int (r.first : Int)) = some (.int (r.first : Int)) := frz_clean (by simp [clean])
  have e3 : frz M N (k + 1) (.int (r.behind : Int)) = some (.int (r.behind : Int)) := frz_clean (by simp [clean])
  have e4 : frz M N (k + 1) (.str r.kind) = some (.str r.kind) := frz_clean (by simp [clean])
  have e5 : frz M N (k + 1) r.val = some r.val := frz_clean hv
  simp only [ha, Row.cell, mapO, e1, e2, e3, e4, e5, Option.map_some]
  rfl
theorem frz_list {f : MV → Option MV} : ∀ (rs : List Nat) (rows : List Row), rs.length = rows.length → (∀ (i : Nat) (r : Row) (a : Nat), rows[i]? = some r → rs[i]? = some a → f (.ref a) = some r.obj) → mapO f (rs.map .ref) = some (rows.map Row.obj)
  | [], [], _, _ => rfl
  | [], r :: rows, h, _ => by cases h
  | a :: rs, [], h, _ => by cases h
  | a :: rs, r :: rows, h, hf => by
    have h0 := hf 0 r a rfl rfl
    have h1 := frz_list rs rows (by simpa using h) fun i r a hr ha => hf (i + 1) r a hr ha
    simp only [List.map_cons, mapO, h0, h1]
mutual
theorem rowsI_val (N : Nat) : ∀ (it : It) (own : List Nat) (first : Nat), ∀ r ∈ rowsI own first it, clean N r.val = true
  | .num n, own, first, r, h => by cases List.mem_singleton.mp h; simp [rowOf, vlu, clean]
  | .lost, own, first, r, h => by cases List.mem_singleton.mp h; simp [rowOf, vlu, clean]
  | .use s, own, first, r, h => by cases List.mem_singleton.mp h; simp [rowOf, vlu, clean]
  | .grp hd xs, own, first, r, h => by
    rw [rowsI] at h
    rcases List.mem_cons.mp h with rfl | h
    · cases hd <;> simp [rowOf, vlu, clean]
    · exact rowsL_val N xs own 0 (first + opn hd) r h
theorem rowsL_val (N : Nat) : ∀ (xs : List It) (path : List Nat) (i first : Nat), ∀ r ∈ rowsL path i first xs, clean N r.val = true
  | [], path, i, first, r, h => by rw [rowsL] at h; cases h
  | x :: xs, path, i, first, r, h => by
    rw [rowsL] at h
    rcases List.mem_append.mp h with h | h
    · exact rowsI_val N x _ _ r h
    · exact rowsL_val N xs _ _ _ r h
end
section
variable {B : Mem} {tl : List Nat} {s : St} {rs ps : List Nat} {M : Mem} {n : Nat} {Q : MV → Mem → Prop} {E : Str → MV → Mem → Prop}
theorem isf_rows (h : R B tl s rs ps M) (hv : ∀ r ∈ s.rows, clean B.length r.val = true) (q : Q (.lst (s.rows.map Row.obj)) B) : Is (fin false B (.ok (.ref (B.length + 1)) M)) Q E := by
  have hl := h.len
  refine is_ok (fin_frz (by omega) h.base ?_) q
  show frz M B.length (63 + 1) (.ref (B.length + 1)) = _
  unfold frz
  rw [if_neg (by simp [clean])]
  simp only [h.ra]
  rw [frz_list rs s.rows h.rl fun i r a hr ha => frz_row (k := 61) (h.rc i r a hr ha) (h.rb a (List.mem_of_getElem? ha)) (hv r (List.mem_of_getElem? hr))]
  rfl
theorem isf_bad {i : Int} (h : R B tl s rs ps M) (q : E "BadText" (.int i) B) : Is (fin false B (.exn "BadText" (.int i) M)) Q E := by
  have hl := h.len
  rw [fin_frzX (u := .int i) (by omega) h.base (frz_clean (by simp [clean]))]
  unfold Is
  exact q
theorem isi_str {x : Str} : isiA M (.str x) ["str"] = some true := by kernel_rfl
theorem isi_str_non : isiA M .non ["str"] = some false := by kernel_rfl
/-- from the walk that is made -/
theorem rows_body (h : Is (evF env0 (n + 25) ("TextWalk", some "walked_rows") [.ref M.length] (M0 M tl)) (fun v M1 => Is (fin false M (.ok v M1)) Q E) (fun c x M1 => Is (fin false M (.exn c x M1)) Q E)) : Is (evF env0 (n + 26) ("rows_of_text", none) [.str (SX.S tl)] M) Q E := by
  refine w_body (d := c14) tb16 rfl ?_
  dsimp only [c14, Mini.start]
  refine v_cons (v_ite (w_not (w_isi (w_var rfl ⟨_, isi_str, ⟨_, rfl, ⟨_, rfl, br_f rfl (v_nil ?_)⟩⟩⟩))))
  exact v_cons (v_ret (w_mth (w_new (w_cons (w_var rfl (w_nil (init_walk ⟨rfl, ⟨_, mi_next R0, by kernel_rfl, w_nil h⟩⟩)))))))
theorem rows_none (q : E "BadText" (.int 0) M) : Is (evF env0 (n + 26) ("rows_of_text", none) [.non] M) Q E := by
  refine w_body (d := c14) tb16 rfl ?_
  dsimp only [c14, Mini.start]
  refine v_cons (v_ite (w_not (w_isi (w_var rfl ⟨_, isi_str_non, ⟨_, rfl, ⟨_, rfl, br_t rfl ?_⟩⟩⟩))))
  refine v_cons (v_rse (w_con ?_))
  rw [fin_lenX rfl]
  unfold Is
  exact q
end
/-! signs -/
theorem nm_lt : ∀ s ∈ nm, ∀ c ∈ cl s, c < 1000 := by decide +kernel
theorem sep_lt {d : Nat} : ∀ (xs : List It), (∀ x ∈ xs, Wf d x ∧ ∀ c ∈ wl x, c < 1000) → ∀ c ∈ sepL xs, c < 1000
  | [], _, c, h => nomatch h
  | x :: xs, hx, c, h => by
    rw [sepL] at h
    rcases List.mem_cons.mp h with rfl | h
    · decide
    rcases List.mem_append.mp h with h | h
    · exact (hx x List.mem_cons_self).2 c h
    · exact sep_lt xs (fun y hy => hx y (List.mem_cons_of_mem _ hy)) c h
theorem wl_lt : ∀ (d : Nat) (it : It), Wf d it → ∀ c ∈ wl it, c < 1000 := by
  intro d
  induction d with
  | zero =>
    intro it hw c hc
    cases hw with
    | num hk =>
      rcases num_form hk with ⟨a, e, f, _⟩ | ⟨a, b, e, f, _, g, _⟩
      · rw [e] at hc; cases List.mem_singleton.mp hc; exact figs_lt _ f
      · rw [e] at hc
        simp only [List.mem_cons, List.not_mem_nil, or_false] at hc
        rcases hc with rfl | rfl
        · exact figs_lt _ f
        · exact figs_lt _ g
    | lost => cases List.mem_singleton.mp hc; decide
    | use hn => exact nm_lt _ hn c hc
  | succ d ih =>
    intro it hw c hc
    cases hw with
    | num hk =>
      rcases num_form hk with ⟨a, e, f, _⟩ | ⟨a, b, e, f, _, g, _⟩
      · rw [e] at hc; cases List.mem_singleton.mp hc; exact figs_lt _ f
      · rw [e] at hc
        simp only [List.mem_cons, List.not_mem_nil, or_false] at hc
        rcases hc with rfl | rfl
        · exact figs_lt _ f
        · exact figs_lt _ g
    | lost => cases List.mem_singleton.mp hc; decide
    | use hn => exact nm_lt _ hn c hc
    | @grp _ h xs ho hxl hxw =>
      have hs := sep_lt xs fun x hx => ⟨hxw x hx, ih x (hxw x hx)⟩
      have hend : ∀ c ∈ sepL xs ++ [41], c < 1000 := by
        intro c hc
        rcases List.mem_append.mp hc with h | h
        · exact hs c h
        · cases List.mem_singleton.mp h; decide
      cases h with
      | block =>
        cases xs with
        | nil =>
          rw [wl_block0] at hc
          simp only [List.mem_cons, List.not_mem_nil, or_false] at hc
          rcases hc with rfl | rfl <;> decide
        | cons x xs =>
          rw [wl_block] at hc
          rcases List.mem_cons.mp hc with rfl | hc
          · decide
          refine hend c ?_
          rw [sepL]
          simp only [List.cons_append, List.append_assoc, List.mem_cons]
          exact .inr hc
      | sum =>
        rw [wl_head xs (by simp)] at hc
        rcases List.mem_append.mp hc with hc | hc
        · have : ∀ c ∈ hdT .sum, c < 1000 := by decide
          exact this c hc
        · exact hend c hc
      | prod =>
        rw [wl_head xs (by simp)] at hc
        rcases List.mem_append.mp hc with hc | hc
        · have : ∀ c ∈ hdT .prod, c < 1000 := by decide
          exact this c hc
        · exact hend c hc
      | lt w =>
        rw [wl_head xs (by simp)] at hc
        rcases List.mem_append.mp hc with hc | hc
        · simp only [hdT, List.mem_cons, List.mem_append, List.not_mem_nil, or_false] at hc
          rcases hc with rfl | hc | rfl | rfl
          · decide
          · exact nm_lt _ ho c hc
          · decide
          · decide
        · exact hend c hc
theorem tx_cons (x : It) (xs : List It) : tx (x :: xs) = wl x ++ sepL xs := by rw [tx, wls, join_sep]
theorem tx_lt {xs : List It} (hw : ∀ x ∈ xs, Wf 3 x) : ∀ c ∈ tx xs, c < 1000 := by
  cases xs with
  | nil => intro c h; cases h
  | cons x xs =>
    rw [tx_cons]
    intro c h
    rcases List.mem_append.mp h with h | h
    · exact wl_lt 3 x (hw x List.mem_cons_self) c h
    · exact sep_lt xs (fun y hy => ⟨hw y (List.mem_cons_of_mem _ hy), wl_lt 3 y (hw y (List.mem_cons_of_mem _ hy))⟩) c h
section
variable {B : Mem} {M : Mem} {n : Nat} {Q : MV → Mem → Prop} {E : Str → MV → Mem → Prop}
theorem prog_over {x : It} {xs : List It} {rest : List Nat} (hlen : (x :: xs).length ≤ 4) (hw : ∀ y ∈ x :: xs, Wf 3 y) (hD : Del rest) (hl : (tx (x :: xs) ++ rest).length ≤ 3000) (hT : ∀ c ∈ tx (x :: xs) ++ rest, c < 1000) : ∃ k s1 s2, k < 4000 ∧ (∀ n, Beg B (tx (x :: xs) ++ rest) (n + 24) sta s1) ∧ Gos B (tx (x :: xs) ++ rest) k s1 s2 ∧ s2.pos = (tx (x :: xs)).length ∧ s2.low = [] ∧ s2.rows = rowsL [] 0 0 (x :: xs) := by
  have ho : ∀ y, Wf 3 y → OverP B (tx (x :: xs) ++ rest) 3 y := fun y hy => over hl hT 3 y hy (Nat.le_refl _)
  have hwx := hw x List.mem_cons_self
  obtain ⟨k1, s1, hk1, hpos, hb, hg⟩ := ho x hwx sta (sepL xs ++ rest) (by show tx (x :: xs) ++ rest = _; rw [tx_cons, List.append_assoc]) (hD.sep xs) (by decide) (by decide) (by decide)
  have hrl := rowsI_len hwx [0] 0
  simp only [List.length_cons] at hlen
  have hm := Nat.mul_le_mul_right (4 ^ 3) (show xs.length ≤ 3 by omega)
  obtain ⟨k2, hk2, hg2⟩ := over_list (B := B) (tl := tx (x :: xs) ++ rest) (d := 3) (Nat.le_refl _) hl xs (aft sta x) rest (fun y hy => ⟨ho y (hw y (List.mem_cons_of_mem _ hy)), hw y (List.mem_cons_of_mem _ hy)⟩) (by
    show (tx (x :: xs) ++ rest).drop (0 + (wl x).length) = _
    rw [Nat.zero_add, tx_cons, List.append_assoc, List.drop_left]) hD (by
    show ([] ++ rowsI [0] 0 x).length + _ ≤ _
    rw [List.nil_append]
    omega) (by simp [aft, sta]) (by simp [aft, sta])
  have hlx : (tx (x :: xs)).length = (wl x).length + (sepL xs).length := by rw [tx_cons, List.length_append]
  rw [List.length_append] at hl
  refine ⟨k1 + k2, s1, aftL (aft sta x) xs, by omega, fun n => ?_, hg.trans hg2, ?_, rfl, ?_⟩
  · have := hb (n + 14)
    exact this
  · show 0 + (wl x).length + (sepL xs).length = _
    omega
  · show [] ++ rowsI [0] 0 x ++ rowsL [] (0 + 1) (0 + (wl x).length + 1) xs = _
    rw [rowsL, List.nil_append]
    rfl
theorem rows_ok {xs : List It} (hlen : xs.length ≤ 4) (hw : ∀ y ∈ xs, Wf 3 y) (q : Q (.lst ((rowsL [] 0 0 xs).map Row.obj)) M) : Is (evF env0 (n + 26) ("rows_of_text", none) [.str (SX.S (tx xs))] M) Q E := by
  refine rows_body ?_
  have hl := tx_len hlen hw
  cases xs with
  | nil => exact walked_nil R0 rfl (isf_rows R0 (fun r h => nomatch h) q)
  | cons x xs =>
    have hT := tx_lt hw
    obtain ⟨k, s1, s2, hk, hb, hg, hp, hlow, hrows⟩ := prog_over (B := M) (rest := []) hlen hw (.inl rfl) (by rw [List.append_nil]; omega) (by rw [List.append_nil]; exact hT)
    simp only [List.append_nil] at hb hg
    refine walked_ok R0 (by omega) hT ?_ hk (hb n) hg hp hlow fun rs' ps' M' h' => ?_
    · obtain ⟨c, t, e, _⟩ := wl_first (hw x List.mem_cons_self)
      rw [tx_cons, e]
      simp
    · refine isf_rows h' (fun r hr => ?_) ?_
      · rw [hrows] at hr
        exact rowsL_val _ _ _ _ _ r hr
      · rw [hrows]
        exact q
theorem rows_bad {xs : List It} (hlen : xs.length ≤ 4) (hw : ∀ y ∈ xs, Wf 3 y) (q : E "BadText" (.int (((tx xs).length : Int) + (if xs = [] then 0 else 1))) M) : Is (evF env0 (n + 26) ("rows_of_text", none) [.str (SX.S (tx xs ++ [32]))] M) Q E := by
  refine rows_body ?_
  have hl := tx_len hlen hw
  have hT : ∀ c ∈ tx xs ++ [32], c < 1000 := by
    intro c hc
    rcases List.mem_append.mp hc with h | h
    · exact tx_lt hw c h
    · cases List.mem_singleton.mp h; decide
  have hl2 : (tx xs ++ [32]).length ≤ 3000 := by rw [List.length_append]; simp only [List.length_cons, List.length_nil]; omega
  cases xs with
  | nil => exact walked_bad0 R0 hl2 hT rfl (isf_bad R0 q)
  | cons x xs =>
    obtain ⟨k, s1, s2, hk, hb, hg, hp, hlow, hrows⟩ := prog_over (B := M) (rest := [32]) hlen hw (.inr (.inl ⟨_, rfl⟩)) hl2 hT
    refine walked_bad R0 hl2 hT hk (hb n) hg (by rw [hp, List.drop_left]) fun rs' ps' M' h' => ?_
    refine isf_bad h' ?_
    rw [if_neg (by simp)] at q
    rw [hp]
    exact q
end
end P
end LawK67

set_option Elab.async false
set_option linter.all false
set_option maxRecDepth 100000
set_option maxHeartbeats 4000000
namespace LawK67
namespace P
open PySem L2 Mini
local macro_rules | `(tactic| walk_at "ev") => `(tactic| first
  | ((with_reducible refine w_var (x := ?_) ?_ ?_); rotate_left 1; exact rfl)
  | with_reducible first | refine w_con ?_ | refine w_bin ?_ | refine w_cmp ?_ | refine w_idx ?_ | refine w_blt ?_ | refine w_nil ?_ | refine w_cons ?_ | refine w_att ?_ | refine w_cal ?_ | refine w_neg ?_ | refine w_not ?_ | refine w_and ?_ | refine w_or ?_ | refine w_chn ?_ | refine w_ife ?_ | refine w_slc ?_ | refine w_isi ?_ | refine w_som ?_ | refine w_non ?_ | refine w_star ?_ | refine w_dsp ?_ | refine w_bmt ?_ | refine w_mth ?_ | refine w_new ?_ | refine w_tup ?_ | refine w_lst ?_ | refine w_nwl ?_ | refine w_ndd ?_ | refine w_seq ?_ | refine w_rng ?_ | refine w_tno ?_ | refine w_tso ?_
  | refine v_cons ?_ | refine v_nil ?_ | refine v_asg ?_ | refine v_asgT ?_ | refine v_asgP ?_ | refine v_ret ?_ | refine v_retN ?_ | refine v_exp ?_ | refine v_ite ?_ | refine v_sat ?_ | refine v_sub ?_ | refine v_augA ?_ | refine v_for ?_ | refine v_rse ?_ | refine v_try ?_ | refine v_pas ?_ | refine v_cnt ?_
  | ((with_reducible refine w_glb (x := ?_) ?_ ?_); rotate_left 1; exact rfl) | ((with_reducible refine v_augV (z := ?_) ?_ ?_); rotate_left 1; exact rfl))
local macro_rules | `(tactic| walk_at "op") => `(tactic| refine ⟨_, rfl, ?_⟩)
local macro_rules | `(tactic| walk_at "sz") => `(tactic| refine ⟨szl (by first | decide | simp), ?_⟩)
local macro_rules | `(tactic| walk_at "go") => `(tactic| repeat first | walk_at "ev" | walk_at "op" | walk_at "sz")
/-! ### values that are compared -/
def Fit (M : Mem) (j : Nat) (x : MV) : Prop := ∀ k, ∃ d, toD (k + j + 1) M x = some d ∧ d.canLay0 = true ∧ d.depth ≤ j
theorem fit_all {M : Mem} {j : Nat} : ∀ (xs : List MV), (∀ x ∈ xs, Fit M j x) → ∀ k, ∃ ds, mapO (toD (k + j + 1) M) xs = some ds ∧ PyData.canLayAll0 ds = true ∧ PyData.depthAll ds ≤ j
  | [], _, k => ⟨[], rfl, rfl, Nat.zero_le _⟩
  | x :: xs, h, k => by
    obtain ⟨d, e, c, p⟩ := h x List.mem_cons_self k
    obtain ⟨ds, e2, c2, p2⟩ := fit_all xs (fun y hy => h y (List.mem_cons_of_mem _ hy)) k
    refine ⟨d :: ds, by simp only [mapO, e, e2], by simp [PyData.canLayAll0, c, c2], ?_⟩
    rw [PyData.depthAll]
    omega
theorem fit_tup {M : Mem} {j : Nat} {xs : List MV} (h : ∀ x ∈ xs, Fit M j x) : Fit M (j + 1) (.tup xs) := by
  intro k
  obtain ⟨ds, e, c, p⟩ := fit_all xs h k
  refine ⟨.tuple ds, ?_, c, by rw [PyData.depth]; omega⟩
  show (mapO (toD (k + j + 1) M) xs).map PyData.tuple = _
  rw [e]
  rfl
theorem fit_lst {M : Mem} {j : Nat} {xs : List MV} (h : ∀ x ∈ xs, Fit M j x) : Fit M (j + 1) (.lst xs) := by
  intro k
  obtain ⟨ds, e, c, p⟩ := fit_all xs h k
  refine ⟨.list ds, ?_, c, by rw [PyData.depth]; omega⟩
  show (mapO (toD (k + j + 1) M) xs).map PyData.list = _
  rw [e]
  rfl
theorem fit_int {M : Mem} {j : Nat} {i : Int} : Fit M j (.int i) := fun k => ⟨.int i, rfl, rfl, Nat.zero_le _⟩
theorem fit_bl {M : Mem} {j : Nat} {i : Bool} : Fit M j (.bl i) := fun k => ⟨.bool i, rfl, rfl, Nat.zero_le _⟩
theorem fit_non {M : Mem} {j : Nat} : Fit M j .non := fun k => ⟨.none, rfl, rfl, Nat.zero_le _⟩
theorem fit_str {M : Mem} {j : Nat} {s : Str} (h : PyData.strOk s = true) : Fit M j (.str s) := fun k => ⟨.str s, rfl, h, Nat.zero_le _⟩
theorem fit_nats {M : Mem} {j : Nat} {p : List Nat} : Fit M (j + 1) (.tup (nats p)) := fit_tup fun x hx => by
  obtain ⟨k, _, rfl⟩ := List.mem_map.mp hx
  exact fit_int
theorem fit_row {M : Mem} {j : Nat} {r : Rw} : Fit M (j + 2) (rowMV r) := fit_tup fun x hx => by
  simp only [List.mem_cons, List.not_mem_nil, or_false] at hx
  rcases hx with rfl | rfl | rfl
  · exact fit_nats
  · exact fit_int
  · exact fit_int
theorem eq_same {M : Mem} {j : Nat} {x : MV} (h : Fit M j x) (hj : j ≤ 63) : cmpV .NotEq M x x = some false := by
  obtain ⟨d, e, c, p⟩ := h (63 - j)
  rw [show 63 - j + j + 1 = 64 from by omega] at e
  simp only [cmpV, eqD, e, SeqAt.shaped, c, Bool.true_and, Bool.and_self]
  rw [if_pos (decide_eq_true (by omega)), SeqAt.eqv_refl d c]
  rfl
theorem ne_nil {M : Mem} {j : Nat} {xs : List MV} (h : Fit M j (.lst xs)) (hj : j ≤ 63) : cmpV .NotEq M (.lst xs) (.lst []) = some (!decide (xs = [])) := by
  obtain ⟨d, e, c, p⟩ := h (63 - j)
  rw [show 63 - j + j + 1 = 64 from by omega] at e
  have e2 : toD 64 M (.lst []) = some (.list []) := rfl
  simp only [cmpV, eqD, e, e2, SeqAt.shaped, c, Bool.true_and]
  rw [if_pos (by simp [PyData.canLay0, PyData.canLayAll0, PyData.depth, PyData.depthAll]; omega)]
  have e3 : (mapO (toD 63 M) xs).map PyData.list = some d := e
  cases xs with
  | nil =>
    cases e3
    simp [PyData.eqv, PyData.eqvAll]
  | cons y ys =>
    cases e4 : mapO (toD 63 M) (y :: ys) with
    | none => rw [e4] at e3; cases e3
    | some ds =>
      rw [e4] at e3
      cases e3
      cases ds with
      | nil =>
        simp only [mapO] at e4
        split at e4 <;> cases e4
      | cons d ds => simp [PyData.eqv, PyData.eqvAll]
end P
end LawK67

set_option Elab.async false
set_option linter.all false
set_option maxRecDepth 100000
set_option maxHeartbeats 4000000
namespace LawK67
namespace P
open PySem L2 Mini
local macro_rules | `(tactic| walk_at "ev") => `(tactic| first
  | ((with_reducible refine w_var (x := ?_) ?_ ?_); rotate_left 1; exact rfl)
  | with_reducible first | refine w_con ?_ | refine w_bin ?_ | refine w_cmp ?_ | refine w_idx ?_ | refine w_blt ?_ | refine w_nil ?_ | refine w_cons ?_ | refine w_att ?_ | refine w_cal ?_ | refine w_neg ?_ | refine w_not ?_ | refine w_and ?_ | refine w_or ?_ | refine w_chn ?_ | refine w_ife ?_ | refine w_slc ?_ | refine w_isi ?_ | refine w_som ?_ | refine w_non ?_ | refine w_star ?_ | refine w_dsp ?_ | refine w_bmt ?_ | refine w_mth ?_ | refine w_new ?_ | refine w_tup ?_ | refine w_lst ?_ | refine w_nwl ?_ | refine w_ndd ?_ | refine w_seq ?_ | refine w_rng ?_ | refine w_tno ?_ | refine w_tso ?_
  | refine v_cons ?_ | refine v_nil ?_ | refine v_asg ?_ | refine v_asgT ?_ | refine v_asgP ?_ | refine v_ret ?_ | refine v_retN ?_ | refine v_exp ?_ | refine v_ite ?_ | refine v_sat ?_ | refine v_sub ?_ | refine v_augA ?_ | refine v_for ?_ | refine v_rse ?_ | refine v_try ?_ | refine v_pas ?_ | refine v_cnt ?_
  | ((with_reducible refine w_glb (x := ?_) ?_ ?_); rotate_left 1; exact rfl) | ((with_reducible refine v_augV (z := ?_) ?_ ?_); rotate_left 1; exact rfl))
local macro_rules | `(tactic| walk_at "op") => `(tactic| refine ⟨_, rfl, ?_⟩)
local macro_rules | `(tactic| walk_at "sz") => `(tactic| refine ⟨szl (by first | decide | simp), ?_⟩)
local macro_rules | `(tactic| walk_at "go") => `(tactic| repeat first | walk_at "ev" | walk_at "op" | walk_at "sz")
theorem w_chr {g : Cfg} {r : Rho} {M : Mem} {a : CE} {Q : List MV → Mem → Prop} {E : Str → MV → Mem → Prop} (h : Is (evE g r a M) (fun x M1 => ∃ z, x = .str z ∧ Q (z.cps.toList.map fun c => .str ⟨#[c]⟩) M1) E) : Is (evI g r (.chr a) M) Q E := by
  simp only [evI]; exact is_bind (h.imp fun x M1 ⟨z, e, q⟩ => by subst e; exact is_ok rfl q)
theorem w_rev {g : Cfg} {r : Rho} {M : Mem} {a : CE} {Q : MV → Mem → Prop} {E : Str → MV → Mem → Prop} (h : Is (evE g r a M) (fun x M1 => ∃ xs, asL M1 x = some xs ∧ Q (.lst xs.reverse) M1) E) : Is (evE g r (.rev a) M) Q E := by
  simp only [evE]; exact is_bind (h.imp fun x M1 ⟨xs, e, q⟩ => is_opt ⟨_, by rw [e]; rfl, q⟩)
theorem w_dd1 {g : Cfg} {r : Rho} {M : Mem} {a b : CE} {Q : MV → Mem → Prop} {E : Str → MV → Mem → Prop} (h : Is (evE g r a (M ++ [.dct []])) (fun x M1 => Is (evE g r b M1) (fun y M2 => ∃ q, keyT x = some q ∧ M2[M.length]? = some (.dct []) ∧ Q (.ref M.length) (M2.set M.length (.dct [(q, y)]))) E) E) : Is (evE g r (.dd1 a b) M) Q E := by
  simp only [evE]; exact is_bind (h.imp fun x M1 h1 => is_bind (h1.imp fun y M2 ⟨q, e1, e2, z⟩ => by rw [e1, e2]; exact is_ok rfl z))
theorem w_dix {g : Cfg} {r : Rho} {M : Mem} {a b : CE} {Q : MV → Mem → Prop} {E : Str → MV → Mem → Prop} (h : Is (evE g r a M) (fun x M1 => Is (evE g r b M1) (fun y M2 => ∃ kvs q z, dctV M2 x = some kvs ∧ keyT y = some q ∧ lookT kvs q = some z ∧ Q z M2) E) E) : Is (evE g r (.dix a b) M) Q E := by
  simp only [evE]; exact is_bind (h.imp fun x M1 h1 => is_bind (h1.imp fun y M2 ⟨kvs, q, z, e1, e2, e3, hq⟩ => is_opt ⟨z, by rw [e1, Option.bind_some, e2, Option.bind_some, e3], hq⟩))
theorem w_cav {g : Cfg} {r : Rho} {M : Mem} {f : Str} {a : CE} {es : CL} {Q : MV → Mem → Prop} {E : Str → MV → Mem → Prop} (h : Is (evE g r a M) (fun x M1 => x = .glo f ∧ Is (evL g r es M1) (fun xs M2 => Is (g.call (f, none) xs M2) Q E) E) E) : Is (evE g r (.cav f a es) M) Q E := by
  simp only [evE]; exact is_bind (h.imp fun x M1 ⟨e, h1⟩ => by subst e; dsimp only; rw [if_pos rfl]; exact is_bind h1)
/-! ### the law's own walk over the signs, in plain words -/
inductive Kd where
  | start | item | opn | gap | word | after | sign
  deriving DecidableEq
def Kd.nm : Kd → Str
  | .start => "start"
  | .item => "item"
  | .opn => "open"
  | .gap => "gap"
  | .word => "word"
  | .after => "after"
  | .sign => "sign"
structure Au where
  o : Nat
  k : Kd
  w : List Nat
  nd : Bool
abbrev fq : Str := "0123456789?"
abbrev beg1 : Str := "0123456789abcdefghijklmnopqrstuvwxyz?"
abbrev pm : Str := "+*"
def inS (c : Nat) (sg : Str) : Bool := decide (c ∈ sg.cps.toList)
def goes (w : List Nat) (c : Nat) : Bool := match w with
  | [] => false
  | d :: _ => if inS d fq then (decide (w.length = 1) && (inS d figs1 && inS c figs)) else
    if (w.filter fun x => inS x lets).length = w.length then ((decide ((w.filter fun x => inS x lets).length < 4) && inS c lets) || inS c figs1)
    else (decide (w.length = (w.filter fun x => inS x lets).length + 1) && inS c figs)
def Kd.bg : Kd → Bool
  | .start => true
  | .item => true
  | .opn => true
  | .gap => true
  | _ => false
/-- the step, no word under way -/
def stepB (a : Au) (k : Kd) (c : Nat) : Option Au :=
  if (k.bg && inS c beg1) = true then some ⟨a.o, .word, [c], decide (k = .opn) && inS c lets⟩
  else if (k.bg && decide (c = 40)) = true then some ⟨a.o + 1, .opn, a.w, false⟩
  else if (decide (k = .opn) && inS c pm || decide (k = .gap) && decide (c = 61)) = true then some ⟨a.o, .sign, a.w, a.nd⟩
  else if (decide (c = 41) && (decide (0 < a.o) && (decide (k = .opn) || decide (k = .after) || decide (k = .sign)))) = true then some ⟨a.o - 1, .after, a.w, false⟩
  else if (decide (c = 32) && (decide (k = .after) || decide (k = .sign))) = true then some ⟨a.o, if (a.nd && decide (k = .after)) = true then .gap else .item, a.w, false⟩
  else none
def stepA (a : Au) (c : Nat) : Option Au := if (decide (a.k = .word) && goes a.w c) = true then some { a with w := a.w ++ [c] } else stepB a (if a.k = .word then .after else a.k) c
def auR (a : Au) : List Nat → Nat → Option Nat
  | [], p => if (decide (0 < a.o) || (decide (a.k = .item) || decide (a.k = .gap))) = true then some p else none
  | c :: u, p => match stepA a c with
    | none => some p
    | some a' => auR a' u (p + 1)
def au0 : Au := ⟨0, .start, [], false⟩
def auV : Option Nat → MV
  | none => .non
  | some i => .int (i : Int)
section
variable {M : Mem} {n : Nat} {Q : MV → Mem → Prop} {E : Str → MV → Mem → Prop}
theorem in_str {c : Nat} {sg : Str} : cmpV .In M (.str (SX.S [c])) (.str sg) = some (inS c sg) := rfl
theorem kq (k d : Kd) : cmpV .Eq M (.str k.nm) (.str d.nm) = some (decide (k = d)) := by
  cases k <;> cases d <;> kernel_rfl
theorem kin4 (k : Kd) : cmpV .In M (.str k.nm) (.tup [.str "start", .str "item", .str "open", .str "gap"]) = some k.bg := by
  cases k <;> kernel_rfl
theorem kin3 (k : Kd) : cmpV .In M (.str k.nm) (.tup [.str "open", .str "after", .str "sign"]) = some (decide (k = .opn) || decide (k = .after) || decide (k = .sign)) := by
  cases k <;> kernel_rfl
theorem kin2 (k : Kd) : cmpV .In M (.str k.nm) (.tup [.str "after", .str "sign"]) = some (decide (k = .after) || decide (k = .sign)) := by
  cases k <;> kernel_rfl
theorem kin2b (k : Kd) : cmpV .In M (.str k.nm) (.tup [.str "item", .str "gap"]) = some (decide (k = .item) || decide (k = .gap)) := by
  cases k <;> kernel_rfl
theorem cq {c d : Nat} {t : Str} (ht : t = SX.S [d]) (hc : c < 1000) (hd : d < 1000) : cmpV .Eq M (.str (SX.S [c])) (.str t) = some (decide (c = d)) := by
  rw [ht]
  simp only [cmpV]
  rw [eq_str (ok_S (by simpa using hc)) (ok_S (by simpa using hd)), SX.S_beq_eq]
  simp
theorem e_lp : ("(" : Str) = SX.S [40] := by kernel_rfl
theorem e_rp : (")" : Str) = SX.S [41] := by kernel_rfl
theorem e_sp1 : (" " : Str) = SX.S [32] := by kernel_rfl
theorem e_eq1 : ("=" : Str) = SX.S [61] := by kernel_rfl
theorem tb26 : env0.tab ("_law_goes", none) = some c26 := by kernel_rfl
theorem tb27 : env0.tab ("_law_wrong", none) = some c27 := by kernel_rfl
theorem lc_if {g : Cfg} {r2 : Rho} {a t : CE} {M : Mem} {Q : Option MV → Mem → Prop} {E : Str → MV → Mem → Prop} (h : Is (evE g r2 t M) (fun x M1 => Op (truth M1 x) fun k => if k = true then Is (evE g r2 a M1) (fun y M2 => Q (some y) M2) (fun _ _ _ => False) else Q none M1) fun _ _ _ => False) :
    Is (calm ((evT g r2 (.some t) M).bind fun b M3 => if b then (evE g r2 a M3).bind fun y M4 => .ok (some y) M4 else .ok none M3)) Q E := by
  refine is_calm (is_bind (w_tso (h.imp fun x M1 ⟨k, e, q⟩ => ⟨k, e, ?_⟩)))
  cases k with
  | true =>
    rw [if_pos rfl] at q ⊢
    exact is_bind (q.imp fun y M2 z => is_ok rfl z)
  | false =>
    rw [if_neg Bool.false_ne_true] at q ⊢
    exact is_ok rfl q
theorem chars_ok {f : MV → Mem → Res (Option MV)} : ∀ (l : List Nat), (∀ c ∈ l, Is (f (.str (SX.S [c])) M) (fun o M' => o = (if inS c lets = true then some (.str (SX.S [c])) else none) ∧ M' = M) E) → Is (mapR f (l.map fun c => MV.str ⟨#[c]⟩) M) (fun ys M' => ys.length = (l.filter fun x => inS x lets).length ∧ M' = M) E
  | [], _ => map_nil ⟨rfl, rfl⟩
  | c :: l, h => map_cons ((h c List.mem_cons_self).imp fun o M1 ⟨e, e1⟩ => by
    rw [e, e1]
    refine (chars_ok l fun x hx => h x (List.mem_cons_of_mem _ hx)).imp fun ys M2 ⟨e, e1⟩ => ⟨?_, e1⟩
    by_cases k : inS c lets = true
    · simp [List.filter_cons, k, e]
    · simp [List.filter_cons, k, e])
theorem nat_eq {a b : Nat} : ((a : Int) == (b : Int)) = decide (a = b) := by
  by_cases h : a = b
  · rw [h]; simp
  · rw [decide_eq_false h]; exact beq_eq_false_iff_ne.mpr fun z => h (Int.ofNat.inj z)
theorem goes_ok {w : List Nat} {c : Nat} (hw : w ≠ []) (hl : w.length ≤ 3000) (q : Q (.bl (goes w c)) M) : Is (evF env0 (n + 1) ("_law_goes", none) [.str (SX.S w), .str (SX.S [c])] M) Q E := by
  obtain ⟨d, t, rfl⟩ := List.exists_cons_of_ne_nil hw
  refine w_body (d := c26) tb26 rfl ?_
  dsimp only [c26, Mini.start]
  have h0 : (d :: t)[0]? = some d := rfl
  refine v_cons (v_ite (w_cmp (w_idx (w_var rfl (w_con (idxT (k := 0) hl h0 (w_con ⟨_, in_str, ⟨_, rfl, ?_⟩⟩)))))))
  dsimp only [goes] at q
  by_cases h1 : inS d fq = true
  · refine br_t h1 ?_
    rw [if_pos h1] at q
    refine v_cons (v_ret (w_and (w_cmp (w_blt (w_cons (w_var rfl (w_nil (lenT hl (w_con ⟨_, eq_int, ⟨_, rfl, ?_⟩⟩)))))))))
    have e1 : (((d :: t).length : Int) == 1) = decide ((d :: t).length = 1) := nat_eq (b := 1)
    rw [e1]
    by_cases h2 : (d :: t).length = 1
    · refine br_t (decide_eq_true h2) (w_and (w_cmp (w_idx (w_var rfl (w_con (idxT (k := 0) hl h0 (w_con ⟨_, in_str, ⟨_, rfl, ?_⟩⟩)))))))
      rw [decide_eq_true h2, Bool.true_and] at q
      by_cases h3 : inS d figs1 = true
      · refine br_t h3 (w_cmp (w_var rfl (w_con ⟨_, in_str, isf_same ?_⟩)))
        rw [h3, Bool.true_and] at q
        exact q
      · have h3' : inS d figs1 = false := by simpa using h3
        refine br_f h3' (isf_same ?_)
        rw [h3', Bool.false_and] at q
        show Q (.bl (inS d figs1)) M
        rw [h3']
        exact q
    · refine br_f (decide_eq_false h2) (isf_same ?_)
      rw [decide_eq_false h2, Bool.false_and] at q
      show Q (.bl (decide ((d :: t).length = 1))) M
      rw [decide_eq_false h2]
      exact q
  · have h1' : inS d fq = false := by simpa using h1
    refine br_f h1' (v_nil ?_)
    rw [if_neg h1] at q
    have hfl : ((d :: t).filter fun x => inS x lets).length ≤ (d :: t).length := List.length_filter_le _ _
    refine v_cons (v_asg (w_blt (w_cons (w_lcp (w_chr (w_var rfl ⟨_, rfl, ?_⟩))))))
    refine (chars_ok (d :: t) fun x hx => ?_).imp fun ys M1 ⟨ey, em⟩ => ?_
    · dsimp only [bind1, wipeR]
      refine lc_if (w_cmp (w_var rfl (w_con ⟨_, in_str, ⟨_, rfl, ?_⟩⟩)))
      by_cases k : inS x lets = true
      · exact br_t k (w_var rfl ⟨by rw [if_pos k], rfl⟩)
      · exact br_f (by simpa using k) ⟨by rw [if_neg k], rfl⟩
    subst em
    refine ⟨szl (by rw [ey]; omega), w_nil ⟨_, rfl, ?_⟩⟩
    dsimp only
    rw [ey]
    generalize hL : ((d :: t).filter fun x => inS x lets).length = L at hfl q
    refine v_cons (v_ite (w_cmp (w_var rfl (w_blt (w_cons (w_var rfl (w_nil (lenT hl ⟨_, eq_int, ⟨_, rfl, ?_⟩⟩))))))))
    rw [nat_eq]
    by_cases h2 : L = (d :: t).length
    · refine br_t (decide_eq_true h2) ?_
      rw [if_pos h2] at q
      refine v_cons (v_ret (w_or (w_and (w_cmp (w_var rfl (w_con ⟨_, rfl, ⟨_, rfl, ?_⟩⟩))))))
      have e4 : decide ((L : Int) < 4) = decide (L < 4) := by
        by_cases h : L < 4
        · rw [decide_eq_true h, decide_eq_true (by omega)]
        · rw [decide_eq_false h, decide_eq_false (by omega)]
      by_cases h3 : L < 4
      · refine br_t (show decide ((L : Int) < 4) = true by rw [e4]; exact decide_eq_true h3) (w_cmp (w_var rfl (w_con ⟨_, in_str, ⟨_, rfl, ?_⟩⟩)))
        rw [decide_eq_true h3, Bool.true_and] at q
        by_cases h4 : inS c lets = true
        · refine br_t h4 (isf_same ?_)
          rw [h4, Bool.true_or] at q
          show Q (.bl (inS c lets)) _
          rw [h4]
          exact q
        · have h4' : inS c lets = false := by simpa using h4
          rw [h4', Bool.false_or] at q
          exact br_f h4' (w_cmp (w_var rfl (w_con ⟨_, in_str, isf_same q⟩)))
      · have h3' : decide ((L : Int) < 4) = false := by rw [e4]; exact decide_eq_false h3
        rw [decide_eq_false h3, Bool.false_and, Bool.false_or] at q
        exact br_f h3' ⟨_, rfl, br_f h3' (w_cmp (w_var rfl (w_con ⟨_, in_str, isf_same q⟩)))⟩
    · refine br_f (decide_eq_false h2) (v_nil ?_)
      rw [if_neg h2] at q
      refine v_cons (v_ret (w_and (w_cmp (w_blt (w_cons (w_var rfl (w_nil (lenT hl (w_bin (w_var rfl (w_con ⟨_, rfl, ⟨_, eq_int, ⟨_, rfl, ?_⟩⟩⟩)))))))))))
      have e5 : (((d :: t).length : Int) == (L : Int) + 1) = decide ((d :: t).length = L + 1) := nat_eq (b := L + 1)
      rw [e5]
      by_cases h3 : (d :: t).length = L + 1
      · rw [decide_eq_true h3, Bool.true_and] at q
        exact br_t (decide_eq_true h3) (w_cmp (w_var rfl (w_con ⟨_, in_str, isf_same q⟩)))
      · refine br_f (decide_eq_false h3) (isf_same ?_)
        rw [decide_eq_false h3, Bool.false_and] at q
        show Q (.bl (decide ((d :: t).length = L + 1))) _
        rw [decide_eq_false h3]
        exact q

abbrev rhoW (tl : List Nat) (a : Au) (o5 o6 o7 : Option MV) : Rho := [some (.str (SX.S tl)), some (.int (a.o : Int)), some (.str a.k.nm), some (.str (SX.S a.w)), some (.bl a.nd), o5, o6, o7]
theorem and2 {g : Cfg} {r : Rho} {M : Mem} {a b : CE} {x y : Bool} {Q : MV → Mem → Prop} {E : Str → MV → Mem → Prop} (ha : ∀ {Q' : MV → Mem → Prop}, Q' (.bl x) M → Is (evE g r a M) Q' E) (hb : ∀ {Q' : MV → Mem → Prop}, x = true → Q' (.bl y) M → Is (evE g r b M) Q' E) (q : Q (.bl (x && y)) M) : Is (evE g r (.and a b) M) Q E := by
  refine w_and (ha ⟨_, rfl, ?_⟩)
  cases x with
  | true => exact br_t rfl (hb rfl q)
  | false => exact br_f rfl q
theorem or2 {g : Cfg} {r : Rho} {M : Mem} {a b : CE} {x y : Bool} {Q : MV → Mem → Prop} {E : Str → MV → Mem → Prop} (ha : ∀ {Q' : MV → Mem → Prop}, Q' (.bl x) M → Is (evE g r a M) Q' E) (hb : ∀ {Q' : MV → Mem → Prop}, x = false → Q' (.bl y) M → Is (evE g r b M) Q' E) (q : Q (.bl (x || y)) M) : Is (evE g r (.or a b) M) Q E := by
  refine w_or (ha ⟨_, rfl, ?_⟩)
  cases x with
  | true => exact br_t rfl q
  | false => exact br_f rfl (hb rfl q)
abbrev wTail : CB := .cons (.ite (.and (.var 7) (.cmp .In (.var 6) (.con (.str "0123456789abcdefghijklmnopqrstuvwxyz?")))) (.cons (.asg 4 (.and (.cmp .Eq (.var 2) (.con (.str "open"))) (.cmp .In (.var 6) (.con (.str "abcdefghijklmnopqrstuvwxyz"))))) (.cons (.asgP [2, 3] (.cons (.con (.str "word")) (.cons (.var 6) .nil))) .nil)) (.cons (.ite (.and (.var 7) (.cmp .Eq (.var 6) (.con (.str "(")))) (.cons (.asgP [2, 4, 1] (.cons (.con (.str "open")) (.cons (.con (.bl false)) (.cons (.bin .Add (.var 1) (.con (.int 1))) .nil)))) .nil) (.cons (.ite (.or (.and (.cmp .Eq (.var 2) (.con (.str "open"))) (.cmp .In (.var 6) (.con (.str "+*")))) (.and (.cmp .Eq (.var 2) (.con (.str "gap"))) (.cmp .Eq (.var 6) (.con (.str "="))))) (.cons (.asg 2 (.con (.str "sign"))) .nil) (.cons (.ite (.and (.cmp .Eq (.var 6) (.con (.str ")"))) (.and (.cmp .Gt (.var 1) (.con (.int 0))) (.cmp .In (.var 2) (.tup (.cons (.con (.str "open")) (.cons (.con (.str "after")) (.cons (.con (.str "sign")) .nil))))))) (.cons (.asgP [2, 4, 1] (.cons (.con (.str "after")) (.cons (.con (.bl false)) (.cons (.bin .Sub (.var 1) (.con (.int 1))) .nil)))) .nil) (.cons (.ite (.and (.cmp .Eq (.var 6) (.con (.str " "))) (.cmp .In (.var 2) (.tup (.cons (.con (.str "after")) (.cons (.con (.str "sign")) .nil))))) (.cons (.asgP [2, 4] (.cons (.ife (.and (.var 4) (.cmp .Eq (.var 2) (.con (.str "after")))) (.con (.str "gap")) (.con (.str "item"))) (.cons (.con (.bl false)) .nil))) .nil) (.cons (.ret (.var 5)) .nil)) .nil)) .nil)) .nil)) .nil)) .nil
theorem gt0 {o : Nat} : (fun i j : Int => decide (j < i)) (o : Int) 0 = decide (0 < o) := by
  show decide ((0 : Int) < (o : Int)) = _
  by_cases h : 0 < o
  · rw [decide_eq_true h, decide_eq_true (by omega)]
  · rw [decide_eq_false h, decide_eq_false (by omega)]
theorem tail_step {tl : List Nat} {a : Au} {k : Kd} {c p : Nat} {P : Flw → Mem → Prop} (hc : c < 1000)
    (h1 : stepB a k c = none → P (.ret (.int (p : Int))) M) (h2 : ∀ a' o5 o6 o7, stepB a k c = some a' → P (.next (rhoW tl a' o5 o6 o7)) M) :
    Is (evB (env0.cfg (n + 1)) wTail [some (.str (SX.S tl)), some (.int (a.o : Int)), some (.str k.nm), some (.str (SX.S a.w)), some (.bl a.nd), some (.int (p : Int)), some (.str (SX.S [c])), some (.bl k.bg)] M) P E := by
  refine v_cons (v_ite (and2 (fun q => w_var rfl q) (fun _ q => w_cmp (w_var rfl (w_con ⟨_, in_str, q⟩))) ⟨_, rfl, ?_⟩))
  by_cases b1 : (k.bg && inS c beg1) = true
  · refine br_t b1 ?_
    have hs : stepB a k c = some ⟨a.o, .word, [c], decide (k = .opn) && inS c lets⟩ := by unfold stepB; rw [if_pos b1]
    refine v_cons (v_asg (and2 (fun q => w_cmp (w_var rfl (w_con ⟨_, kq k .opn, q⟩))) (fun _ q => w_cmp (w_var rfl (w_con ⟨_, in_str, q⟩))) ?_))
    refine v_cons (v_asgP (w_cons (w_con (w_cons (w_var rfl (w_nil ⟨_, rfl, v_nil (v_nil ?_)⟩))))))
    exact h2 _ _ _ _ hs
  refine br_f (by simpa using b1) ?_
  refine v_cons (v_ite (and2 (fun q => w_var rfl q) (fun _ q => w_cmp (w_var rfl (w_con ⟨_, cq e_lp hc (by decide), q⟩))) ⟨_, rfl, ?_⟩))
  by_cases b2 : (k.bg && decide (c = 40)) = true
  · refine br_t b2 ?_
    have hs : stepB a k c = some ⟨a.o + 1, .opn, a.w, false⟩ := by unfold stepB; rw [if_neg b1, if_pos b2]
    refine v_cons (v_asgP (w_cons (w_con (w_cons (w_con (w_cons (w_bin (w_var rfl (w_con ⟨_, rfl, w_nil ⟨_, rfl, v_nil (v_nil (v_nil ?_))⟩⟩)))))))))
    exact h2 _ _ _ _ hs
  refine br_f (by simpa using b2) ?_
  refine v_cons (v_ite (or2 (fun q => and2 (fun q => w_cmp (w_var rfl (w_con ⟨_, kq k .opn, q⟩))) (fun _ q => w_cmp (w_var rfl (w_con ⟨_, in_str, q⟩))) q) (fun _ q => and2 (fun q => w_cmp (w_var rfl (w_con ⟨_, kq k .gap, q⟩))) (fun _ q => w_cmp (w_var rfl (w_con ⟨_, cq e_eq1 hc (by decide), q⟩))) q) ⟨_, rfl, ?_⟩))
  by_cases b3 : (decide (k = .opn) && inS c pm || decide (k = .gap) && decide (c = 61)) = true
  · refine br_t b3 ?_
    have hs : stepB a k c = some ⟨a.o, .sign, a.w, a.nd⟩ := by unfold stepB; rw [if_neg b1, if_neg b2, if_pos b3]
    refine v_cons (v_asg (w_con (v_nil (v_nil (v_nil (v_nil ?_))))))
    exact h2 _ _ _ _ hs
  refine br_f (by simpa using b3) ?_
  refine v_cons (v_ite (and2 (fun q => w_cmp (w_var rfl (w_con ⟨_, cq e_rp hc (by decide), q⟩))) (fun _ q => and2 (x := decide (0 < a.o)) (fun q => w_cmp (w_var rfl (w_con ⟨_, by rw [← gt0]; rfl, q⟩))) (fun _ q => w_cmp (w_var rfl (w_tup (w_cons (w_con (w_cons (w_con (w_cons (w_con (w_nil ⟨szl (by simp), ⟨_, kin3 k, q⟩⟩)))))))))) q) ⟨_, rfl, ?_⟩))
  by_cases b4 : (decide (c = 41) && (decide (0 < a.o) && (decide (k = .opn) || decide (k = .after) || decide (k = .sign)))) = true
  · refine br_t b4 ?_
    have hs : stepB a k c = some ⟨a.o - 1, .after, a.w, false⟩ := by unfold stepB; rw [if_neg b1, if_neg b2, if_neg b3, if_pos b4]
    have ho : 0 < a.o := by
      simp only [Bool.and_eq_true, decide_eq_true_eq] at b4
      exact b4.2.1
    refine v_cons (v_asgP (w_cons (w_con (w_cons (w_con (w_cons (w_bin (w_var rfl (w_con ⟨_, rfl, w_nil ⟨_, rfl, v_nil (v_nil (v_nil (v_nil (v_nil ?_))))⟩⟩)))))))))
    have e : (a.o : Int) - 1 = ((a.o - 1 : Nat) : Int) := by omega
    have := h2 _ (some (.int (p : Int))) (some (.str (SX.S [c]))) (some (.bl k.bg)) hs
    dsimp only [rhoW] at this
    rw [← e] at this
    exact this
  refine br_f (by simpa using b4) ?_
  refine v_cons (v_ite (and2 (fun q => w_cmp (w_var rfl (w_con ⟨_, cq e_sp1 hc (by decide), q⟩))) (fun _ q => w_cmp (w_var rfl (w_tup (w_cons (w_con (w_cons (w_con (w_nil ⟨szl (by simp), ⟨_, kin2 k, q⟩⟩)))))))) ⟨_, rfl, ?_⟩))
  by_cases b5 : (decide (c = 32) && (decide (k = .after) || decide (k = .sign))) = true
  · refine br_t b5 ?_
    have hs : stepB a k c = some ⟨a.o, if (a.nd && decide (k = .after)) = true then .gap else .item, a.w, false⟩ := by unfold stepB; rw [if_neg b1, if_neg b2, if_neg b3, if_neg b4, if_pos b5]
    refine v_cons (v_asgP (w_cons (w_ife (and2 (fun q => w_var rfl q) (fun _ q => w_cmp (w_var rfl (w_con ⟨_, kq k .after, q⟩))) ⟨_, rfl, ?_⟩))))
    by_cases b6 : (a.nd && decide (k = .after)) = true
    · rw [if_pos b6] at hs
      refine br_t b6 (w_con (w_cons (w_con (w_nil ⟨_, rfl, v_nil (v_nil (v_nil (v_nil (v_nil (v_nil ?_)))))⟩))))
      exact h2 _ _ _ _ hs
    · rw [if_neg b6] at hs
      refine br_f (by simpa using b6) (w_con (w_cons (w_con (w_nil ⟨_, rfl, v_nil (v_nil (v_nil (v_nil (v_nil (v_nil ?_)))))⟩))))
      exact h2 _ _ _ _ hs
  refine br_f (by simpa using b5) ?_
  refine v_cons (v_ret (w_var rfl ?_))
  exact h1 (by unfold stepB; rw [if_neg b1, if_neg b2, if_neg b3, if_neg b4, if_neg b5])
theorem stepB_w {a a' : Au} {k : Kd} {c : Nat} (h : stepB a k c = some a') : (a'.k = .word → a'.w ≠ []) ∧ a'.w.length ≤ a.w.length + 1 := by
  unfold stepB at h
  split at h
  · cases h
    exact ⟨fun _ => by simp, by simp⟩
  split at h
  · cases h
    exact ⟨fun z => (nomatch z), by simp⟩
  split at h
  · cases h
    exact ⟨fun z => (nomatch z), by simp⟩
  split at h
  · cases h
    exact ⟨fun z => (nomatch z), by simp⟩
  split at h
  · cases h
    refine ⟨fun z => ?_, by simp⟩
    dsimp only at z
    split at z <;> cases z
  · cases h
theorem stepA_w {a a' : Au} {c : Nat} (h : stepA a c = some a') : (a'.k = .word → a'.w ≠ []) ∧ a'.w.length ≤ a.w.length + 1 := by
  unfold stepA at h
  split at h
  · cases h
    exact ⟨fun _ => by simp, by simp⟩
  · exact stepB_w h
theorem wrong_ok {tl : List Nat} (hl : tl.length ≤ 3000) (hT : ∀ c ∈ tl, c < 1000) (q : Q (auV (auR au0 tl 0)) M) : Is (evF env0 (n + 2) ("_law_wrong", none) [.str (SX.S tl)] M) Q E := by
  refine w_body (d := c27) tb27 rfl ?_
  dsimp only [c27, Mini.start]
  refine v_cons (v_asgT (w_tup (w_cons (w_con (w_cons (w_con (w_cons (w_con (w_cons (w_con (w_nil ⟨szl (by simp), ⟨_, rfl, ?_⟩⟩)))))))))))
  refine v_cons (v_for (w_rng (w_blt (w_cons (w_var rfl (w_nil (lenT hl ⟨_, rfl, ⟨by omega, by omega⟩, ?_⟩)))))))
  rw [show ((tl.length : Int)).toNat = tl.length from by omega]
  refine for_inv (fun rest r M1 => ∃ (p : Nat) (a : Au) (o5 o6 o7 : Option MV), p ≤ tl.length ∧ rest = intsFrom (p : Int) (tl.length - p) ∧ M1 = M ∧ r = rhoW tl a o5 o6 o7 ∧ (a.k = .word → a.w ≠ []) ∧ a.w.length ≤ p ∧ auR a (tl.drop p) p = auR au0 tl 0) ?_ ?_ _ _ _ ⟨0, au0, _, _, _, by omega, rfl, rfl, rfl, fun h => (nomatch h), Nat.le_refl _, rfl⟩
  · rintro x rest r M1 ⟨p, a, o5, o6, o7, hp, e, rfl, rfl, hw, hwl, hau⟩
    have hlt : p < tl.length := by
      rcases Nat.lt_or_ge p tl.length with h | h
      · exact h
      · rw [show tl.length - p = 0 from by omega] at e; cases e
    obtain ⟨m, em⟩ : ∃ m, tl.length - p = m + 1 := ⟨tl.length - p - 1, by omega⟩
    rw [em] at e
    obtain ⟨rfl, rfl⟩ := List.cons.inj e
    have hd : tl.drop p = tl[p] :: tl.drop (p + 1) := List.drop_eq_getElem_cons hlt
    have hc : tl[p] < 1000 := hT _ (List.getElem_mem hlt)
    rw [hd] at hau
    have hget : tl[p]? = some tl[p] := List.getElem?_eq_getElem hlt
    generalize tl[p] = c at hau hc hget
    have em2 : tl.length - (p + 1) = m := by omega
    dsimp only [bind1]
    refine v_cons (v_asg (w_idx (w_var rfl (w_var rfl (idxT hl hget ?_)))))
    have next : ∀ (a' : Au) (o5 o6 o7 : Option MV), stepA a c = some a' → ∃ (p' : Nat) (b : Au) (o5' o6' o7' : Option MV), p' ≤ tl.length ∧ intsFrom ((p : Int) + 1) m = intsFrom (p' : Int) (tl.length - p') ∧ M1 = M1 ∧ rhoW tl a' o5 o6 o7 = rhoW tl b o5' o6' o7' ∧ (b.k = .word → b.w ≠ []) ∧ b.w.length ≤ p' ∧ auR b (tl.drop p') p' = auR au0 tl 0 := by
      intro a' o5 o6 o7 hs
      obtain ⟨w1, w2⟩ := stepA_w hs
      refine ⟨p + 1, a', o5, o6, o7, hlt, by rw [em2]; rfl, rfl, rfl, w1, by omega, ?_⟩
      rw [← hau]
      simp only [auR, hs]
    refine v_cons (v_ite (and2 (fun q => w_cmp (w_var rfl (w_con ⟨_, kq a.k .word, q⟩))) (fun hx q => w_cal (w_cons (w_var rfl (w_cons (w_var rfl (w_nil (goes_ok (n := n) (hw (of_decide_eq_true hx)) (by omega) q))))))) ⟨_, rfl, ?_⟩))
    by_cases b0 : (decide (a.k = .word) && goes a.w c) = true
    · refine br_t b0 (v_cons (v_asg (w_bin (w_var rfl (w_var rfl (add_ok (by rw [SX.S_len, SX.S_len]; simp only [List.length_cons, List.length_nil]; omega) ?_))))))
      rw [SX.S_cat]
      refine v_cons (v_cnt ?_)
      exact next _ _ _ _ (by unfold stepA; rw [if_pos b0])
    · refine br_f (by simpa using b0) (v_nil ?_)
      have hsa : stepA a c = stepB a (if a.k = .word then .after else a.k) c := by unfold stepA; rw [if_neg b0]
      have fin1 : ∀ (k : Kd), k = (if a.k = .word then .after else a.k) → Is (evB (env0.cfg (n + 1)) (.cons (.asg 7 (.cmp .In (.var 2) (.tup (.cons (.con (.str "start")) (.cons (.con (.str "item")) (.cons (.con (.str "open")) (.cons (.con (.str "gap")) .nil))))))) wTail) [some (.str (SX.S tl)), some (.int (a.o : Int)), some (.str k.nm), some (.str (SX.S a.w)), some (.bl a.nd), some (.int (p : Int)), some (.str (SX.S [c])), o7] M1) (fun w M2 => match w with
          | .next r1 => ∃ (p' : Nat) (b : Au) (o5' o6' o7' : Option MV), p' ≤ tl.length ∧ intsFrom ((p : Int) + 1) m = intsFrom (p' : Int) (tl.length - p') ∧ M2 = M1 ∧ r1 = rhoW tl b o5' o6' o7' ∧ (b.k = .word → b.w ≠ []) ∧ b.w.length ≤ p' ∧ auR b (tl.drop p') p' = auR au0 tl 0
          | .ret x => x = auV (auR au0 tl 0) ∧ M2 = M1
          | _ => False) (fun c x M2 => Is (fin false M1 (.exn c x M2)) Q E) := by
        intro k hk
        refine v_cons (v_asg (w_cmp (w_var rfl (w_tup (w_cons (w_con (w_cons (w_con (w_cons (w_con (w_cons (w_con (w_nil ⟨szl (by simp), ⟨_, kin4 k, ?_⟩⟩)))))))))))))
        refine tail_step (k := k) hc (fun hs => ?_) fun a' o5 o6 o7 hs => ?_
        · rw [hk, ← hsa] at hs
          refine ⟨?_, rfl⟩
          rw [← hau]
          simp only [auR, hs]
          rfl
        · rw [hk, ← hsa] at hs
          exact next _ _ _ _ hs
      refine v_cons (v_asg (w_ife (w_cmp (w_var rfl (w_con ⟨_, kq a.k .word, ⟨_, rfl, ?_⟩⟩)))))
      have conv : ∀ (w : Flw) (M2 : Mem), (match w with
          | .next r1 => ∃ (p' : Nat) (b : Au) (o5' o6' o7' : Option MV), p' ≤ tl.length ∧ intsFrom ((p : Int) + 1) m = intsFrom (p' : Int) (tl.length - p') ∧ M2 = M1 ∧ r1 = rhoW tl b o5' o6' o7' ∧ (b.k = .word → b.w ≠ []) ∧ b.w.length ≤ p' ∧ auR b (tl.drop p') p' = auR au0 tl 0
          | .ret x => x = auV (auR au0 tl 0) ∧ M2 = M1
          | _ => False) → (match w with
          | .next r1 => ∃ (p' : Nat) (b : Au) (o5' o6' o7' : Option MV), p' ≤ tl.length ∧ intsFrom ((p : Int) + 1) m = intsFrom (p' : Int) (tl.length - p') ∧ M2 = M1 ∧ r1 = rhoW tl b o5' o6' o7' ∧ (b.k = .word → b.w ≠ []) ∧ b.w.length ≤ p' ∧ auR b (tl.drop p') p' = auR au0 tl 0
          | .cnt r1 => ∃ (p' : Nat) (b : Au) (o5' o6' o7' : Option MV), p' ≤ tl.length ∧ intsFrom ((p : Int) + 1) m = intsFrom (p' : Int) (tl.length - p') ∧ M2 = M1 ∧ r1 = rhoW tl b o5' o6' o7' ∧ (b.k = .word → b.w ≠ []) ∧ b.w.length ≤ p' ∧ auR b (tl.drop p') p' = auR au0 tl 0
          | .brk r1 => False
          | .ret y => Is (fin false M1 (.ok y M2)) Q E) := by
        intro w M2 h
        cases w with
        | next r1 => exact h
        | cnt r1 => exact h.elim
        | brk r1 => exact h
        | ret y =>
          obtain ⟨rfl, rfl⟩ := h
          exact isf_same q
      by_cases hk : a.k = .word
      · refine br_t (decide_eq_true hk) (w_con ?_)
        refine (fin1 .after (by rw [if_pos hk])).imp fun w M2 h => ?_
        have := conv w M2 h
        cases w with
        | next r1 => exact this
        | cnt r1 => exact this
        | brk r1 => exact this.elim
        | ret y => exact this
      · refine br_f (decide_eq_false hk) (w_var rfl ?_)
        refine (fin1 a.k (by rw [if_neg hk])).imp fun w M2 h => ?_
        have := conv w M2 h
        cases w with
        | next r1 => exact this
        | cnt r1 => exact this
        | brk r1 => exact this.elim
        | ret y => exact this
  · rintro r M1 ⟨p, a, o5, o6, o7, hp, e, rfl, rfl, hw, hwl, hau⟩
    have hpe : p = tl.length := by
      cases h : tl.length - p with
      | zero => omega
      | succ m => rw [h] at e; cases e
    subst hpe
    rw [List.drop_eq_nil_of_le (Nat.le_refl _)] at hau
    rw [← hau] at q
    refine v_cons (v_ret (w_ife (or2 (x := decide (0 < a.o)) (fun q => w_cmp (w_var rfl (w_con ⟨_, by rw [← gt0]; rfl, q⟩))) (fun _ q => w_cmp (w_var rfl (w_tup (w_cons (w_con (w_cons (w_con (w_nil ⟨szl (by simp), ⟨_, kin2b a.k, q⟩⟩)))))))) ⟨_, rfl, ?_⟩)))
    unfold auR at q
    by_cases b : (decide (0 < a.o) || (decide (a.k = .item) || decide (a.k = .gap))) = true
    · rw [if_pos b] at q
      exact br_t b (w_blt (w_cons (w_var rfl (w_nil (lenT hl (isf_same q))))))
    · rw [if_neg b] at q
      exact br_f (by simpa using b) (w_con (isf_same q))
end
end P
end LawK67

set_option Elab.async false
set_option linter.all false
set_option maxRecDepth 100000
set_option maxHeartbeats 4000000
namespace LawK67
namespace P
open PySem L2 Mini
local macro_rules | `(tactic| walk_at "ev") => `(tactic| first
  | ((with_reducible refine w_var (x := ?_) ?_ ?_); rotate_left 1; exact rfl)
  | with_reducible first | refine w_con ?_ | refine w_bin ?_ | refine w_cmp ?_ | refine w_idx ?_ | refine w_blt ?_ | refine w_nil ?_ | refine w_cons ?_ | refine w_att ?_ | refine w_cal ?_ | refine w_neg ?_ | refine w_not ?_ | refine w_and ?_ | refine w_or ?_ | refine w_chn ?_ | refine w_ife ?_ | refine w_slc ?_ | refine w_isi ?_ | refine w_som ?_ | refine w_non ?_ | refine w_star ?_ | refine w_dsp ?_ | refine w_bmt ?_ | refine w_mth ?_ | refine w_new ?_ | refine w_tup ?_ | refine w_lst ?_ | refine w_nwl ?_ | refine w_ndd ?_ | refine w_seq ?_ | refine w_rng ?_ | refine w_tno ?_ | refine w_tso ?_
  | refine v_cons ?_ | refine v_nil ?_ | refine v_asg ?_ | refine v_asgT ?_ | refine v_asgP ?_ | refine v_ret ?_ | refine v_retN ?_ | refine v_exp ?_ | refine v_ite ?_ | refine v_sat ?_ | refine v_sub ?_ | refine v_augA ?_ | refine v_for ?_ | refine v_rse ?_ | refine v_try ?_ | refine v_pas ?_ | refine v_cnt ?_
  | ((with_reducible refine w_glb (x := ?_) ?_ ?_); rotate_left 1; exact rfl) | ((with_reducible refine v_augV (z := ?_) ?_ ?_); rotate_left 1; exact rfl))
local macro_rules | `(tactic| walk_at "op") => `(tactic| refine ⟨_, rfl, ?_⟩)
local macro_rules | `(tactic| walk_at "sz") => `(tactic| refine ⟨szl (by first | decide | simp), ?_⟩)
local macro_rules | `(tactic| walk_at "go") => `(tactic| repeat first | walk_at "ev" | walk_at "op" | walk_at "sz")
/-! ### plain items of rows -/
theorem tb15' : env0.tab ("nested_rows", none) = some c15 := by kernel_rfl
theorem tb16' : env0.tab ("plain_item", none) = some c16 := by kernel_rfl
theorem tb17' : env0.tab ("plain_of", none) = some c17 := by kernel_rfl
theorem tb18' : env0.tab ("is_text", none) = some c18 := by kernel_rfl
def kidsV : It → List MV
  | .grp _ xs => mvs xs
  | _ => []
section
variable {M : Mem} {n : Nat} {Q : MV → Mem → Prop} {E : Str → MV → Mem → Prop}
theorem ro_kind {r : Row} : fldV env0.cl M r.obj "own_kind" = some (.str r.kind) := by kernel_rfl
theorem ro_val {r : Row} : fldV env0.cl M r.obj "own_value" = some r.val := by kernel_rfl
theorem ro_path {r : Row} : fldV env0.cl M r.obj "own_path" = some (.tup (nats r.path)) := by kernel_rfl
theorem k_lost {it : It} : cmpV .Eq M (.str (knd it)) (.str "lost") = some (match it with | .lost => true | _ => false) := by
  cases it with
  | grp h xs => cases h <;> kernel_rfl
  | _ => kernel_rfl
theorem k_nu {it : It} : cmpV .In M (.str (knd it)) (.tup [.str "number", .str "use"]) = some (match it with | .num _ => true | .use _ => true | _ => false) := by
  cases it with
  | grp h xs => cases h <;> kernel_rfl
  | _ => kernel_rfl
theorem k_let {it : It} : cmpV .Eq M (.str (knd it)) (.str "let") = some (match it with | .grp (.lt _) _ => true | _ => false) := by
  cases it with
  | grp h xs => cases h <;> kernel_rfl
  | _ => kernel_rfl
theorem plain_ok {it : It} {own : List Nat} {first : Nat} (q : Q (mv it) M) : Is (evF env0 (n + 1) ("plain_item", none) [(rowOf own first it).obj, .tup (kidsV it)] M) Q E := by
  refine w_body (d := c16) tb16' rfl ?_
  dsimp only [c16, Mini.start]
  refine v_cons (v_ite (w_cmp (w_att (w_var rfl ⟨_, ro_kind, w_con ⟨_, k_lost, ⟨_, rfl, ?_⟩⟩⟩))))
  have hin : ∀ {k : Bool} {P : MV → Mem → Prop} {E' : Str → MV → Mem → Prop} {r : Rho}, cmpV .In M (.str (knd it)) (.tup [.str "number", .str "use"]) = some k → r[0]? = some (some (rowOf own first it).obj) → P (.bl k) M → Is (evE (env0.cfg n) r (.cmp .In (.att (.var 0) "own_kind") (.tup (.cons (.con (.str "number")) (.cons (.con (.str "use")) .nil)))) M) P E' := fun hk hr hP => w_cmp (w_att (w_var hr ⟨_, ro_kind, w_tup (w_cons (w_con (w_cons (w_con (w_nil ⟨szl (by simp), ⟨_, hk, hP⟩⟩)))))⟩))
  cases it with
  | lost => exact br_t rfl (v_cons (v_ret (w_tup (w_cons (w_con (w_nil ⟨szl (by simp), isf_same q⟩))))))
  | num k =>
    refine br_f rfl (v_nil (v_cons (v_ite (hin k_nu rfl ⟨_, rfl, br_t rfl ?_⟩))))
    exact v_cons (v_ret (w_tup (w_cons (w_att (w_var rfl ⟨_, ro_kind, w_cons (w_att (w_var rfl ⟨_, ro_val, w_nil ⟨szl (by simp), isf_same q⟩⟩))⟩)))))
  | use w =>
    refine br_f rfl (v_nil (v_cons (v_ite (hin k_nu rfl ⟨_, rfl, br_t rfl ?_⟩))))
    exact v_cons (v_ret (w_tup (w_cons (w_att (w_var rfl ⟨_, ro_kind, w_cons (w_att (w_var rfl ⟨_, ro_val, w_nil ⟨szl (by simp), isf_same q⟩⟩))⟩)))))
  | grp h xs =>
    refine br_f rfl (v_nil (v_cons (v_ite (hin k_nu rfl ⟨_, rfl, br_f rfl (v_nil ?_)⟩))))
    refine v_cons (v_ite (w_cmp (w_att (w_var rfl ⟨_, ro_kind, w_con ⟨_, k_let, ⟨_, rfl, ?_⟩⟩⟩))))
    cases h with
    | lt s => exact br_t rfl (v_cons (v_ret (w_tup (w_cons (w_con (w_cons (w_att (w_var rfl ⟨_, ro_val, w_cons (w_var rfl (w_nil ⟨szl (by simp), isf_same q⟩))⟩))))))))
    | block => exact br_f rfl (v_nil (v_cons (v_ret (w_tup (w_cons (w_att (w_var rfl ⟨_, ro_kind, w_cons (w_var rfl (w_nil ⟨szl (by simp), isf_same q⟩))⟩)))))))
    | sum => exact br_f rfl (v_nil (v_cons (v_ret (w_tup (w_cons (w_att (w_var rfl ⟨_, ro_kind, w_cons (w_var rfl (w_nil ⟨szl (by simp), isf_same q⟩))⟩)))))))
    | prod => exact br_f rfl (v_nil (v_cons (v_ret (w_tup (w_cons (w_att (w_var rfl ⟨_, ro_kind, w_cons (w_var rfl (w_nil ⟨szl (by simp), isf_same q⟩))⟩)))))))
end
/-! ### the dict of nested_rows -/
def kp (p : List Nat) : List Key := p.map fun (n : Nat) => .inl (n : Int)
theorem kp_inj : ∀ {p q : List Nat}, kp p = kp q → p = q
  | [], [], _ => rfl
  | [], _ :: _, h => by cases h
  | _ :: _, [], h => by cases h
  | a :: p, b :: q, h => by
    simp only [kp, List.map_cons, List.cons.injEq, Sum.inl.injEq] at h
    rw [Int.ofNat.inj h.1, kp_inj (p := p) (q := q) h.2]
theorem keys_nats : ∀ p : List Nat, keysOf (nats p) = some (kp p)
  | [] => rfl
  | a :: p => by
    have h : mapO keyOf (nats p) = some (kp p) := keys_nats p
    show mapO keyOf (MV.int (a : Int) :: nats p) = _
    simp only [mapO, Mini.keyOf, h]
    rfl
theorem key_nats (p : List Nat) : keyT (.tup (nats p)) = some (kp p) := keys_nats p
abbrev Tr := List Nat × List MV × Nat
def kvT (T : List Tr) : List (List Key × MV) := T.map fun t => (kp t.1, MV.ref t.2.2)
theorem look_T (p : List Nat) : ∀ T : List Tr, lookT (kvT T) (kp p) = (T.find? fun t => decide (t.1 = p)).map fun t => MV.ref t.2.2
  | [] => rfl
  | t :: T => by
    have h := look_T p T
    unfold lookT kvT at h ⊢
    rw [List.map_cons, List.find?_cons, List.find?_cons]
    by_cases e : t.1 = p
    · rw [decide_eq_true e, decide_eq_true (show kp t.1 = kp p by rw [e])]
      rfl
    · rw [decide_eq_false e, decide_eq_false (fun z => e (kp_inj z))]
      exact h
def Tdrop (T : List Tr) (p : List Nat) : List Tr := T.filter fun t => decide (t.1 ≠ p)
theorem drop_T (p : List Nat) : ∀ T : List Tr, dropT (kvT T) (kp p) = kvT (Tdrop T p)
  | [] => rfl
  | t :: T => by
    have h := drop_T p T
    unfold dropT kvT Tdrop at h ⊢
    rw [List.map_cons, List.filter_cons, List.filter_cons]
    by_cases e : t.1 = p
    · rw [if_neg (by simp [e]), if_neg (by simp [e])]
      exact h
    · have e2 : kp t.1 ≠ kp p := fun z => e (kp_inj z)
      rw [if_pos (by simpa using e2), if_pos (by simpa using e), List.map_cons, h]
structure DR (B : Mem) (T : List Tr) (M : Mem) : Prop where
  base : M.take B.length = B
  dic : M[B.length]? = some (.dct (kvT T))
  cel : ∀ t ∈ T, M[t.2.2]? = some (.lst t.2.1) ∧ B.length < t.2.2
  nd : (T.map (·.2.2)).Nodup
section
variable {B : Mem} {T : List Tr} {M : Mem}
theorem DR.len (h : DR B T M) : B.length < M.length := (List.getElem?_eq_some_iff.mp h.dic).1
theorem DR.new (h : DR B T M) (c : Cell) : DR B T (M ++ [c]) where
  base := take_app h.base (Nat.le_of_lt h.len)
  dic := app_get h.dic
  cel t ht := ⟨app_get (h.cel t ht).1, (h.cel t ht).2⟩
  nd := h.nd
theorem DR.drp (h : DR B T M) (p : List Nat) : DR B (Tdrop T p) (M.set B.length (.dct (kvT (Tdrop T p)))) where
  base := take_set h.base (Nat.le_refl _)
  dic := get_set h.dic
  cel t ht := by
    obtain ⟨h1, h2⟩ := h.cel t (List.mem_filter.mp ht).1
    exact ⟨by rw [set_ne (by omega)]; exact h1, h2⟩
  nd := h.nd.sublist ((List.filter_sublist).map _)
theorem DR.add (h : DR B T M) {p : List Nat} {a : Nat} (ha : M[a]? = some (.lst [])) (hb : B.length < a) (hn : a ∉ T.map (·.2.2)) : DR B (T ++ [(p, [], a)]) (M.set B.length (.dct (kvT (T ++ [(p, [], a)])))) where
  base := take_set h.base (Nat.le_refl _)
  dic := get_set h.dic
  cel t ht := by
    rcases List.mem_append.mp ht with ht | ht
    · obtain ⟨h1, h2⟩ := h.cel t ht
      exact ⟨by rw [set_ne (by omega)]; exact h1, h2⟩
    · cases List.mem_singleton.mp ht
      exact ⟨by rw [set_ne (by simp only; omega)]; exact ha, hb⟩
  nd := by
    rw [List.map_append]
    exact nodup_app h.nd hn
def Tapp (T : List Tr) (p : List Nat) (v : MV) : List Tr := T.map fun t => if t.1 = p then (t.1, t.2.1 ++ [v], t.2.2) else t
theorem Tapp_adr (p : List Nat) (v : MV) : ∀ T : List Tr, (Tapp T p v).map (·.2.2) = T.map (·.2.2)
  | [] => rfl
  | t :: T => by
    have := Tapp_adr p v T
    unfold Tapp at this ⊢
    rw [List.map_cons, List.map_cons, List.map_cons, this]
    congr 1
    split <;> rfl
theorem Tapp_kv (p : List Nat) (v : MV) : ∀ T : List Tr, kvT (Tapp T p v) = kvT T
  | [] => rfl
  | t :: T => by
    have := Tapp_kv p v T
    unfold Tapp kvT at this ⊢
    rw [List.map_cons, List.map_cons, List.map_cons, this]
    congr 1
    split <;> rfl
theorem DR.app (h : DR B T M) {p : List Nat} {vs : List MV} {a : Nat} {v : MV} (ht : (p, vs, a) ∈ T) (hu : ∀ t ∈ T, t.1 = p → t = (p, vs, a)) : DR B (Tapp T p v) (M.set a (.lst (vs ++ [v]))) := by
  have hA := h.cel _ ht
  refine ⟨take_set h.base (Nat.le_of_lt hA.2), ?_, fun t hm => ?_, by rw [Tapp_adr]; exact h.nd⟩
  · rw [set_ne (by have := hA.2; simp only at this; omega), Tapp_kv]
    exact h.dic
  · obtain ⟨t0, h0, rfl⟩ := List.mem_map.mp hm
    by_cases e : t0.1 = p
    · rw [if_pos e]
      have := hu t0 h0 e
      subst this
      exact ⟨get_set hA.1, hA.2⟩
    · rw [if_neg e]
      obtain ⟨h1, h2⟩ := h.cel t0 h0
      refine ⟨?_, h2⟩
      rw [set_ne]
      · exact h1
      · intro z
        have : t0 = (p, vs, a) := by
          have hp := List.pairwise_map.mp h.nd
          rcases List.mem_iff_getElem.mp h0 with ⟨i, hi, ei⟩
          rcases List.mem_iff_getElem.mp ht with ⟨j, hj, ej⟩
          have hg := List.pairwise_iff_getElem.mp hp
          rcases Nat.lt_trichotomy i j with q | q | q
          · exact absurd (by rw [ei, ej]; exact z) (hg i j hi hj q)
          · subst q; rw [← ei, ej]
          · exact absurd (by rw [ei, ej]; exact z.symm) (hg j i hj hi q)
        exact e (by rw [this])
end
end P
end LawK67

set_option Elab.async false
set_option linter.all false
set_option maxRecDepth 100000
set_option maxHeartbeats 4000000
namespace LawK67
namespace P
open PySem L2 Mini
local macro_rules | `(tactic| walk_at "ev") => `(tactic| first
  | ((with_reducible refine w_var (x := ?_) ?_ ?_); rotate_left 1; exact rfl)
  | with_reducible first | refine w_con ?_ | refine w_bin ?_ | refine w_cmp ?_ | refine w_idx ?_ | refine w_blt ?_ | refine w_nil ?_ | refine w_cons ?_ | refine w_att ?_ | refine w_cal ?_ | refine w_neg ?_ | refine w_not ?_ | refine w_and ?_ | refine w_or ?_ | refine w_chn ?_ | refine w_ife ?_ | refine w_slc ?_ | refine w_isi ?_ | refine w_som ?_ | refine w_non ?_ | refine w_star ?_ | refine w_dsp ?_ | refine w_bmt ?_ | refine w_mth ?_ | refine w_new ?_ | refine w_tup ?_ | refine w_lst ?_ | refine w_nwl ?_ | refine w_ndd ?_ | refine w_seq ?_ | refine w_rng ?_ | refine w_tno ?_ | refine w_tso ?_
  | refine v_cons ?_ | refine v_nil ?_ | refine v_asg ?_ | refine v_asgT ?_ | refine v_asgP ?_ | refine v_ret ?_ | refine v_retN ?_ | refine v_exp ?_ | refine v_ite ?_ | refine v_sat ?_ | refine v_sub ?_ | refine v_augA ?_ | refine v_for ?_ | refine v_rse ?_ | refine v_try ?_ | refine v_pas ?_ | refine v_cnt ?_
  | ((with_reducible refine w_glb (x := ?_) ?_ ?_); rotate_left 1; exact rfl) | ((with_reducible refine v_augV (z := ?_) ?_ ?_); rotate_left 1; exact rfl))
local macro_rules | `(tactic| walk_at "op") => `(tactic| refine ⟨_, rfl, ?_⟩)
local macro_rules | `(tactic| walk_at "sz") => `(tactic| refine ⟨szl (by first | decide | simp), ?_⟩)
local macro_rules | `(tactic| walk_at "go") => `(tactic| repeat first | walk_at "ev" | walk_at "op" | walk_at "sz")
/-! ### nested_rows -/
abbrev Fd := List (List Nat × List MV)
def er (T : List Tr) : Fd := T.map fun t => (t.1, t.2.1)
def appF (fs : Fd) (p : List Nat) (v : MV) : Fd := if (fs.any fun f => decide (f.1 = p)) = true then fs.map fun f => if f.1 = p then (f.1, f.2 ++ [v]) else f else fs ++ [(p, [v])]
def dropF (fs : Fd) (p : List Nat) : Fd := fs.filter fun f => decide (f.1 ≠ p)
def getF (fs : Fd) (p : List Nat) : List MV := ((fs.find? fun f => decide (f.1 = p)).map (·.2)).getD []
theorem er_drop (p : List Nat) (T : List Tr) : er (Tdrop T p) = dropF (er T) p := by
  unfold er Tdrop dropF
  rw [List.filter_map]
  rfl
theorem er_find (p : List Nat) (T : List Tr) : ((er T).find? fun f => decide (f.1 = p)) = (T.find? fun t => decide (t.1 = p)).map fun t => (t.1, t.2.1) := by
  unfold er
  rw [List.find?_map]
  rfl
theorem er_any (p : List Nat) (T : List Tr) : ((er T).any fun f => decide (f.1 = p)) = T.any fun t => decide (t.1 = p) := by
  unfold er
  rw [List.any_map]
  rfl
theorem er_app (p : List Nat) (v : MV) (T : List Tr) : er (Tapp T p v) = (er T).map fun f => if f.1 = p then (f.1, f.2 ++ [v]) else f := by
  unfold er Tapp
  rw [List.map_map, List.map_map]
  congr 1
  funext t
  show (((if t.1 = p then _ else t) : Tr).1, ((if t.1 = p then _ else t) : Tr).2.1) = if t.1 = p then _ else _
  split <;> rfl
abbrev nsB : CB := .cons (.asg 4 (.bmt .popd (.var 2) (.cons (.att (.var 3) "own_path") (.cons (.nwl .nil) .nil)))) (.cons (.exp (.bmt .append (.bmt .setd (.var 2) (.cons (.slc (.att (.var 3) "own_path") .none (.some (.neg (.con (.int 1))))) (.cons (.nwl .nil) .nil))) (.cons (.cav "plain_item" (.var 1) (.cons (.var 3) (.cons (.blt .tuple (.cons (.rev (.var 4)) .nil)) .nil))) .nil))) .nil)
section
variable {B : Mem} {T : List Tr} {M : Mem} {n : Nat} {E : Str → MV → Mem → Prop}
theorem rec_d (h : DR B T M) : recV .popd M (.ref B.length) = true ∧ recV .setd M (.ref B.length) = true := by
  simp only [recV, dctV, h.dic]
  exact ⟨rfl, rfl⟩
theorem find_mem {p : List Nat} {t : Tr} (e : (T.find? fun t => decide (t.1 = p)) = some t) : t ∈ T ∧ t.1 = p := ⟨List.mem_of_find?_eq_some e, by have := List.find?_some e; simpa using this⟩
theorem find_none {p : List Nat} (e : (T.find? fun t => decide (t.1 = p)) = none) : ∀ t ∈ T, t.1 ≠ p := fun t ht z => (List.find?_eq_none.mp e) t ht (decide_eq_true z)
theorem cut_nats {p : List Nat} {j : Nat} : cutL (nats (p ++ [j])) none (some (-1)) = nats p := by
  have hl : (nats (p ++ [j])).length = p.length + 1 := by simp [nats]
  unfold cutL
  rw [hl]
  have e1 : HT.sIx (p.length + 1) 0 none = 0 := rfl
  have e2 : HT.sIx (p.length + 1) (p.length + 1) (some (-1)) = p.length := by
    unfold HT.sIx
    simp only
    split <;> omega
  rw [e1, e2]
  simp [nats]
theorem nd_keys {p : List Nat} (hn : (T.map (·.1)).Nodup) {t u : Tr} (ht : t ∈ T) (hu : u ∈ T) (et : t.1 = p) (eu : u.1 = p) : t = u := by
  have hp := List.pairwise_map.mp hn
  rcases List.mem_iff_getElem.mp ht with ⟨i, hi, ei⟩
  rcases List.mem_iff_getElem.mp hu with ⟨j, hj, ej⟩
  have hg := List.pairwise_iff_getElem.mp hp
  rcases Nat.lt_trichotomy i j with q | q | q
  · exact absurd (by rw [ei, ej, et, eu]) (hg i j hi hj q)
  · subst q; rw [← ei, ej]
  · exact absurd (by rw [ei, ej, et, eu]) (hg j i hj hi q)
theorem row_step {it : It} {path : List Nat} {j first : Nat} {v0 : MV} {o4 : Option MV} {Q : Flw → Mem → Prop} (h : DR B T M) (hn : (T.map (·.1)).Nodup) (hT : T.length ≤ 5000) (hv : getF (er T) (path ++ [j]) = (kidsV it).reverse) (hL : ∀ t ∈ T, t.2.1.length ≤ 5000)
    (q : ∀ o4' T' M', DR B T' M' → (T'.map (·.1)).Nodup → er T' = appF (dropF (er T) (path ++ [j])) path (mv it) → Q (.next [some v0, some (.glo "plain_item"), some (.ref B.length), some (rowOf (path ++ [j]) first it).obj, o4']) M') :
    Is (evB (env0.cfg (n + 1)) nsB [some v0, some (.glo "plain_item"), some (.ref B.length), some (rowOf (path ++ [j]) first it).obj, o4] M) Q E := by
  have h0 := h.new (.lst [])
  have hz : (M ++ [Cell.lst []])[M.length]? = some (.lst []) := get_new
  refine v_cons (v_asg (w_bmt (w_var rfl ⟨(rec_d h).1, w_cons (w_att (w_var rfl ⟨_, ro_path, w_cons (w_nwl (w_nil ⟨szl (by simp), w_nil ?_⟩))⟩))⟩)))
  have hgo : ∀ (a : Nat) (M2 : Mem), DR B (Tdrop T (path ++ [j])) M2 → M2[a]? = some (.lst (kidsV it).reverse) → a ∉ (Tdrop T (path ++ [j])).map (·.2.2) → B.length < a → Is (evB (env0.cfg (n + 1)) (.cons (.exp (.bmt .append (.bmt .setd (.var 2) (.cons (.slc (.att (.var 3) "own_path") .none (.some (.neg (.con (.int 1))))) (.cons (.nwl .nil) .nil))) (.cons (.cav "plain_item" (.var 1) (.cons (.var 3) (.cons (.blt .tuple (.cons (.rev (.var 4)) .nil)) .nil))) .nil))) .nil) [some v0, some (.glo "plain_item"), some (.ref B.length), some (rowOf (path ++ [j]) first it).obj, some (.ref a)] M2) Q E := by
    intro a M2 h2 ha hna hba
    have hn2 : ((Tdrop T (path ++ [j])).map (·.1)).Nodup := hn.sublist ((List.filter_sublist).map _)
    have hl2 : (Tdrop T (path ++ [j])).length ≤ 5000 := Nat.le_trans (List.length_filter_le _ _) hT
    have he2 := er_drop (path ++ [j]) T
    have hL2 : ∀ t ∈ Tdrop T (path ++ [j]), t.2.1.length ≤ 5000 := fun t ht => hL t (List.mem_filter.mp ht).1
    generalize Tdrop T (path ++ [j]) = T2 at h2 hna hn2 hl2 he2 hL2
    rw [← he2] at q
    have h3 := h2.new (.lst [])
    have hz3 : (M2 ++ [Cell.lst []])[M2.length]? = some (.lst []) := get_new
    have ha3 := app_get (c := .lst []) ha
    refine v_cons (v_exp (w_bmt (w_bmt (w_var rfl ⟨(rec_d h2).2, ?_⟩))))
    refine w_cons (w_slc (w_att (w_var rfl ⟨_, ro_path, w_non (w_som (w_neg (w_con ⟨1, rfl, ⟨_, rfl, ?_⟩⟩)))⟩)))
    refine ⟨.tup (nats path), by show some (MV.tup (cutL (nats (path ++ [j])) none (some (-1)))) = _; rw [cut_nats], ?_⟩
    refine w_cons (w_nwl (w_nil ⟨szl (by simp), w_nil ?_⟩))
    have hend : ∀ (T3 : List Tr) (M3 : Mem) (b : Nat) (vs : List MV), DR B T3 M3 → (T3.map (·.1)).Nodup → (path, vs, b) ∈ T3 → M3[a]? = some (.lst (kidsV it).reverse) → M3[b]? = some (.lst vs) → vs.length ≤ 100000 → er (Tapp T3 path (mv it)) = appF (er T2) path (mv it) → recV .append M3 (.ref b) = true ∧ Is (evL (env0.cfg (n + 1)) [some v0, some (.glo "plain_item"), some (.ref B.length), some (rowOf (path ++ [j]) first it).obj, some (.ref a)] (.cons (.cav "plain_item" (.var 1) (.cons (.var 3) (.cons (.blt .tuple (.cons (.rev (.var 4)) .nil)) .nil))) .nil) M3) (fun xs M4 => Op (bmtV .append M4 (.ref b) xs) fun p => match Flw.next [some v0, some (.glo "plain_item"), some (.ref B.length), some (rowOf (path ++ [j]) first it).obj, some (.ref a)] with
        | .next r1 => Is (evB (env0.cfg (n + 1)) .nil r1 p.2) Q E
        | w => Q w p.2) E := by
      intro T3 M3 b vs hD hN hm hA hB hvl he
      refine ⟨rec_app hB, w_cons (w_cav (w_var rfl ⟨rfl, ?_⟩))⟩
      refine w_cons (w_var rfl (w_cons (w_blt (w_cons (w_rev (w_var rfl ⟨(kidsV it).reverse, by simp only [asL, hA], ?_⟩))))))
      refine w_nil ⟨_, rfl, w_nil ?_⟩
      rw [List.reverse_reverse]
      refine plain_ok (w_nil ?_)
      refine ⟨_, by simp only [bmtV, hB]; rw [if_pos (Nat.lt_of_le_of_lt hvl (by decide))], ?_⟩
      refine v_nil (q _ _ _ (hD.app hm (fun t ht et => nd_keys hN ht hm et rfl)) ?_ he)
      have : (Tapp T3 path (mv it)).map (·.1) = T3.map (·.1) := by
        have := congrArg (List.map (·.1)) (Tapp_kv path (mv it) T3)
        unfold kvT at this
        rw [List.map_map, List.map_map] at this
        unfold Tapp
        rw [List.map_map]
        congr 1
        funext t
        show ((if t.1 = path then _ else t) : Tr).1 = t.1
        split <;> rfl
      rw [this]
      exact hN
    cases ef : (T2.find? fun t => decide (t.1 = path)) with
    | some t =>
      obtain ⟨hm, et⟩ := find_mem ef
      obtain ⟨p', vs, b⟩ := t
      cases et
      obtain ⟨hc1, hc2⟩ := h3.cel _ hm
      refine ⟨(.ref b, M2 ++ [.lst []]), ?_, ?_⟩
      · simp only [bmtV, h3.dic, key_nats, look_T, ef]
        rfl
      · refine hend T2 _ b vs h3 hn2 hm ha3 hc1 ?_ ?_
        · have := hL2 _ hm
          simp only at this
          omega
        · rw [er_app]
          unfold appF
          rw [er_any, if_pos (List.any_eq_true.mpr ⟨_, hm, decide_eq_true rfl⟩)]
    | none =>
      have hno := find_none ef
      have hD := h3.add (p := path) hz3 (by have := h2.len; omega) (fun z => by
        obtain ⟨t, ht, et⟩ := List.mem_map.mp z
        have := (List.getElem?_eq_some_iff.mp (h2.cel t ht).1).1
        omega)
      have hne : M2.length ≠ B.length := by have := h2.len; omega
      refine ⟨(.ref M2.length, (M2 ++ [Cell.lst []] : Mem).set B.length (.dct (kvT (T2 ++ [(path, [], M2.length)])))), ?_, ?_⟩
      · simp only [bmtV, h3.dic, key_nats, look_T, ef, Option.map_none]
        rw [if_pos (by unfold kvT; rw [List.length_map]; exact Nat.lt_of_le_of_lt hl2 (by decide))]
        congr 3
        unfold putT
        have : (kvT T2).any (fun kv => decide (kv.1 = kp path)) = false := by
          rw [List.any_eq_false]
          intro kv hkv
          obtain ⟨t, ht, rfl⟩ := List.mem_map.mp hkv
          intro z
          exact hno t ht (kp_inj (of_decide_eq_true z))
        rw [this]
        unfold kvT
        rw [List.map_append]
        rfl
      · refine hend _ _ M2.length [] hD ?_ (List.mem_append.mpr (.inr (List.mem_singleton.mpr rfl))) (by rw [set_ne (by omega)]; exact ha3) (by rw [set_ne hne]; exact hz3) (by simp) ?_
        · rw [List.map_append]
          refine List.nodup_append.mpr ⟨hn2, by simp, fun x hx y hy => ?_⟩
          obtain ⟨t, ht, rfl⟩ := List.mem_map.mp hx
          cases List.mem_singleton.mp hy
          exact hno t ht
        · rw [er_app]
          have ea : ((er T2).any fun f => decide (f.1 = path)) = false := by
            rw [er_any, List.any_eq_false]
            intro t ht z
            exact hno t ht (of_decide_eq_true z)
          unfold appF
          rw [ea, if_neg Bool.false_ne_true]
          unfold er
          rw [List.map_append, List.map_append]
          congr 1
          · rw [List.map_map]
            apply List.map_congr_left
            intro t ht
            show (if t.1 = path then _ else _) = _
            rw [if_neg (hno t ht)]
          · simp
  cases ef : (T.find? fun t => decide (t.1 = path ++ [j])) with
  | some t =>
    obtain ⟨hm, et⟩ := find_mem ef
    obtain ⟨p', vs, b⟩ := t
    cases et
    obtain ⟨hc1, hc2⟩ := h0.cel _ hm
    have hvs : vs = (kidsV it).reverse := by
      rw [← hv]
      unfold getF
      rw [er_find, ef]
      rfl
    refine ⟨(.ref b, (M ++ [Cell.lst []] : Mem).set B.length (.dct (kvT (Tdrop T (path ++ [j]))))), ?_, ?_⟩
    · simp only [bmtV, h0.dic, rowOf, key_nats, look_T, ef, drop_T]
      rfl
    · refine hgo b _ (h0.drp _) (by rw [set_ne (by simp only at hc2; omega), ← hvs]; exact hc1) ?_ hc2
      intro z
      obtain ⟨t, ht, eb⟩ := List.mem_map.mp z
      obtain ⟨ht1, ht2⟩ := List.mem_filter.mp ht
      have : t = (path ++ [j], vs, b) := by
        have hp := List.pairwise_map.mp h.nd
        rcases List.mem_iff_getElem.mp ht1 with ⟨i, hi, ei⟩
        rcases List.mem_iff_getElem.mp hm with ⟨i2, hi2, ei2⟩
        have hg := List.pairwise_iff_getElem.mp hp
        rcases Nat.lt_trichotomy i i2 with q | q | q
        · exact absurd (by rw [ei, ei2]; exact eb) (hg i i2 hi hi2 q)
        · subst q; rw [← ei, ei2]; rfl
        · exact absurd (by rw [ei, ei2]; exact eb.symm) (hg i2 i hi2 hi q)
      subst this
      simp at ht2
  | none =>
    have hno := find_none ef
    have hdr : Tdrop T (path ++ [j]) = T := List.filter_eq_self.mpr fun t ht => decide_eq_true (hno t ht)
    have hvs : (kidsV it).reverse = [] := by
      rw [← hv]
      unfold getF
      rw [er_find, ef]
      rfl
    refine ⟨(.ref M.length, M ++ [.lst []]), ?_, ?_⟩
    · simp only [bmtV, h0.dic, rowOf, key_nats, look_T, ef]
      rfl
    · refine hgo M.length _ (by rw [hdr]; exact h0) (by rw [hvs]; exact hz) ?_ h.len
      rw [hdr]
      intro z
      obtain ⟨t, ht, eb⟩ := List.mem_map.mp z
      have := (List.getElem?_eq_some_iff.mp (h.cel t ht).1).1
      omega
end
/-! ### all rows -/
def appsF (fs : Fd) (p : List Nat) (vs : List MV) : Fd := vs.foldl (fun fs v => appF fs p v) fs
def LB (fs : Fd) (k : Nat) : Prop := ∀ f ∈ fs, f.2.length + k ≤ 5000
theorem LB.mono {fs : Fd} {j k : Nat} (h : LB fs k) (hj : j ≤ k) : LB fs j := fun f hf => by have := h f hf; omega
theorem LB.app {fs : Fd} {k : Nat} {p : List Nat} {v : MV} (h : LB fs (k + 1)) (hk : k + 1 ≤ 5000) : LB (appF fs p v) k := by
  unfold appF
  split
  · intro f hf
    obtain ⟨g, hg, rfl⟩ := List.mem_map.mp hf
    have := h g hg
    split
    · simp only [List.length_append, List.length_cons, List.length_nil]; omega
    · omega
  · intro f hf
    rcases List.mem_append.mp hf with hf | hf
    · have := h f hf; omega
    · cases List.mem_singleton.mp hf
      simp only [List.length_cons, List.length_nil]; omega
theorem LB.apps {p : List Nat} {k : Nat} : ∀ (vs : List MV) {fs : Fd}, LB fs (k + vs.length) → k + vs.length ≤ 5000 → LB (appsF fs p vs) k
  | [], fs, h, _ => h
  | v :: vs, fs, h, hk => by
    simp only [List.length_cons] at h hk
    exact LB.apps vs (fs := appF fs p v) (LB.app (by rw [show k + vs.length + 1 = k + (vs.length + 1) from by omega]; exact h) (by omega)) (by omega)
def KL (fs : Fd) (p : List Nat) : Prop := ∀ f ∈ fs, f.1.length ≤ p.length
theorem KL.app {fs : Fd} {p : List Nat} {v : MV} (h : KL fs p) : KL (appF fs p v) p := by
  unfold appF
  split
  · intro f hf
    obtain ⟨g, hg, rfl⟩ := List.mem_map.mp hf
    have := h g hg
    split <;> exact this
  · intro f hf
    rcases List.mem_append.mp hf with hf | hf
    · exact h f hf
    · cases List.mem_singleton.mp hf
      exact Nat.le_refl _
theorem KL.apps {p : List Nat} : ∀ (vs : List MV) {fs : Fd}, KL fs p → KL (appsF fs p vs) p
  | [], fs, h => h
  | v :: vs, fs, h => KL.apps vs (fs := appF fs p v) h.app
theorem KL.no {fs : Fd} {p : List Nat} {j : Nat} (h : KL fs p) : ∀ f ∈ fs, f.1 ≠ p ++ [j] := fun f hf e => by
  have := h f hf
  rw [e, List.length_append] at this
  simp only [List.length_cons, List.length_nil] at this
  omega
theorem appF_len {fs : Fd} {p : List Nat} {v : MV} : (appF fs p v).length ≤ fs.length + 1 := by
  unfold appF
  split <;> simp
theorem appsF_new {fs : Fd} {p : List Nat} (h : ∀ f ∈ fs, f.1 ≠ p) : ∀ (vs l : List MV), appsF (fs ++ [(p, l)]) p vs = fs ++ [(p, l ++ vs)]
  | [], l => by simp [appsF]
  | v :: vs, l => by
    have e : appF (fs ++ [(p, l)]) p v = fs ++ [(p, l ++ [v])] := by
      unfold appF
      rw [if_pos (by simp)]
      rw [List.map_append]
      congr 1
      · conv => rhs; rw [← List.map_id fs]
        apply List.map_congr_left
        intro f hf
        rw [if_neg (h f hf)]
        rfl
      · simp
    show appsF (appF (fs ++ [(p, l)]) p v) p vs = _
    rw [e, appsF_new h vs (l ++ [v])]
    simp
theorem appsF_fresh {fs : Fd} {p : List Nat} (h : ∀ f ∈ fs, f.1 ≠ p) (vs : List MV) : appsF fs p vs = if vs = [] then fs else fs ++ [(p, vs)] := by
  cases vs with
  | nil => rfl
  | cons v vs =>
    have e : appF fs p v = fs ++ [(p, [v])] := by
      unfold appF
      rw [if_neg (fun z => by
        obtain ⟨f, hf, e⟩ := List.any_eq_true.mp z
        exact h f hf (of_decide_eq_true e))]
    show appsF (appF fs p v) p vs = _
    rw [e, appsF_new h vs [v], if_neg (by simp)]
    rfl
theorem get_fresh {fs : Fd} {p : List Nat} (h : ∀ f ∈ fs, f.1 ≠ p) (vs : List MV) : getF (appsF fs p vs) p = vs ∧ dropF (appsF fs p vs) p = fs := by
  rw [appsF_fresh h]
  have hf : (fs.find? fun f => decide (f.1 = p)) = none := List.find?_eq_none.mpr fun f hf => by simpa using h f hf
  have hd : dropF fs p = fs := List.filter_eq_self.mpr fun f hf => decide_eq_true (h f hf)
  split
  · next e =>
    subst e
    exact ⟨by unfold getF; rw [hf]; rfl, hd⟩
  · constructor
    · unfold getF
      rw [List.find?_append, hf]
      simp
    · unfold dropF at hd ⊢
      rw [List.filter_append, hd]
      simp
mutual
def hgt : It → Nat
  | .grp _ xs => hgtL xs + 1
  | _ => 0
def hgtL : List It → Nat
  | [] => 0
  | x :: xs => max (hgt x) (hgtL xs)
end
mutual
theorem rowsI_pos : ∀ (it : It) (own : List Nat) (first : Nat), 1 ≤ (rowsI own first it).length
  | .num _, _, _ => Nat.le_refl _
  | .lost, _, _ => Nat.le_refl _
  | .use _, _, _ => Nat.le_refl _
  | .grp _ _, _, _ => by rw [rowsI, List.length_cons]; omega
end
theorem mvs_rows : ∀ (xs : List It) (path : List Nat) (i first : Nat), (mvs xs).length ≤ (rowsL path i first xs).length
  | [], _, _, _ => Nat.zero_le _
  | x :: xs, path, i, first => by
    have h1 := rowsI_pos x (path ++ [i]) first
    have h2 := mvs_rows xs path (i + 1) (first + (wl x).length + 1)
    rw [mvs, rowsL, List.length_cons, List.length_append]
    omega
theorem appF_keys_in {fs : Fd} {p : List Nat} {v : MV} : ((appF fs p v).any fun f => decide (f.1 = p)) = true := by
  unfold appF
  split
  · next h =>
    rw [List.any_eq_true] at h ⊢
    obtain ⟨f, hf, e⟩ := h
    have e := of_decide_eq_true e
    exact ⟨_, List.mem_map.mpr ⟨f, hf, rfl⟩, by rw [if_pos e]; simp [e]⟩
  · simp
theorem appF_len2 {fs : Fd} {p : List Nat} {v : MV} (h : (fs.any fun f => decide (f.1 = p)) = true) : (appF fs p v).length = fs.length := by
  unfold appF
  rw [if_pos h, List.length_map]
theorem apps_len2 {p : List Nat} : ∀ (vs : List MV) {fs : Fd}, (fs.any fun f => decide (f.1 = p)) = true → (appsF fs p vs).length = fs.length
  | [], _, _ => rfl
  | v :: vs, fs, h => (apps_len2 vs (fs := appF fs p v) appF_keys_in).trans (appF_len2 h)
theorem apps_len {p : List Nat} (vs : List MV) {fs : Fd} : (appsF fs p vs).length ≤ fs.length + 1 := by
  cases vs with
  | nil => exact Nat.le_succ _
  | cons v vs =>
    show (appsF (appF fs p v) p vs).length ≤ _
    rw [apps_len2 vs appF_keys_in]
    exact appF_len
section
variable {B : Mem} {n : Nat} {E : Str → MV → Mem → Prop} {Q : Flw → Mem → Prop} {v0 : MV}
noncomputable abbrev nsF (n : Nat) : MV → Rho → Mem → Res Flw := fun x r1 M2 => match bind1 [3] true x r1 with
  | none => .stuck
  | some r2 => evB (env0.cfg (n + 1)) nsB r2 M2
theorem er_len (T : List Tr) : (er T).length = T.length := List.length_map _
theorem er_keys (T : List Tr) : (er T).map (·.1) = T.map (·.1) := by
  unfold er
  rw [List.map_map]
  rfl
theorem lb_T {T : List Tr} {k : Nat} (h : LB (er T) k) : ∀ t ∈ T, t.2.1.length ≤ 5000 := fun t ht => by
  have := h (t.1, t.2.1) (List.mem_map.mpr ⟨t, ht, rfl⟩)
  simp only at this
  omega
theorem one_row {T : List Tr} {M : Mem} {it : It} {path : List Nat} {j first : Nat} {o3 o4 : Option MV} {ys : List MV} (h : DR B T M) (hn : (T.map (·.1)).Nodup) (hT : T.length ≤ 5000) (hv : getF (er T) (path ++ [j]) = (kidsV it).reverse) (hL : ∀ t ∈ T, t.2.1.length ≤ 5000)
    (q : ∀ o3' o4' T' M', DR B T' M' → (T'.map (·.1)).Nodup → er T' = appF (dropF (er T) (path ++ [j])) path (mv it) → Is (forV (nsF n) ys [some v0, some (.glo "plain_item"), some (.ref B.length), o3', o4'] M') Q E) :
    Is (forV (nsF n) ((rowOf (path ++ [j]) first it).obj :: ys) [some v0, some (.glo "plain_item"), some (.ref B.length), o3, o4] M) Q E := by
  refine for_cons ?_
  dsimp only [nsF, bind1]
  exact row_step h hn hT hv hL fun o4' T' M' h1 h2 h3 => q _ _ _ _ h1 h2 h3
mutual
theorem procI : ∀ (it : It) (path : List Nat) (j first : Nat) (T : List Tr) (M : Mem) (o3 o4 : Option MV) (ys : List MV), DR B T M → (T.map (·.1)).Nodup → T.length + hgt it + 1 ≤ 5000 → KL (er T) path → LB (er T) (rowsI (path ++ [j]) first it).length → (rowsI (path ++ [j]) first it).length ≤ 5000 →
    (∀ o3' o4' T' M', DR B T' M' → (T'.map (·.1)).Nodup → er T' = appF (er T) path (mv it) → Is (forV (nsF n) ys [some v0, some (.glo "plain_item"), some (.ref B.length), o3', o4'] M') Q E) →
    Is (forV (nsF n) (((rowsI (path ++ [j]) first it).map Row.obj).reverse ++ ys) [some v0, some (.glo "plain_item"), some (.ref B.length), o3, o4] M) Q E
  | .num k, path, j, first, T, M, o3, o4, ys, h, hn, hT, hk, hb, hr, q => by
    have hg := get_fresh (hk.no (j := j)) []
    exact one_row h hn (by omega) hg.1 (lb_T hb) fun o3' o4' T' M' h1 h2 h3 => q _ _ _ _ h1 h2 (by rw [h3]; congr 1; exact hg.2)
  | .lost, path, j, first, T, M, o3, o4, ys, h, hn, hT, hk, hb, hr, q => by
    have hg := get_fresh (hk.no (j := j)) []
    exact one_row h hn (by omega) hg.1 (lb_T hb) fun o3' o4' T' M' h1 h2 h3 => q _ _ _ _ h1 h2 (by rw [h3]; congr 1; exact hg.2)
  | .use w, path, j, first, T, M, o3, o4, ys, h, hn, hT, hk, hb, hr, q => by
    have hg := get_fresh (hk.no (j := j)) []
    exact one_row h hn (by omega) hg.1 (lb_T hb) fun o3' o4' T' M' h1 h2 h3 => q _ _ _ _ h1 h2 (by rw [h3]; congr 1; exact hg.2)
  | .grp hd xs, path, j, first, T, M, o3, o4, ys, h, hn, hT, hk, hb, hr, q => by
    have hg := get_fresh (hk.no (j := j)) (mvs xs).reverse
    rw [rowsI] at hb hr ⊢
    rw [List.length_cons] at hb hr
    rw [hgt] at hT
    rw [List.map_cons, List.reverse_cons, List.append_assoc]
    have hk2 : KL (er T) (path ++ [j]) := fun f hf => by have := hk f hf; rw [List.length_append]; omega
    refine procL xs (path ++ [j]) 0 (first + opn hd) T M o3 o4 _ h hn (by omega) hk2 (hb.mono (by omega)) (by omega) fun o3' o4' T1 M1 h1 n1 e1 => ?_
    have hl1 : T1.length ≤ 5000 := by
      have hlen : (er T1).length ≤ (er T).length + 1 := by
        rw [e1, appsF_fresh (hk.no (j := j))]
        split
        · omega
        · simp
      rw [er_len, er_len] at hlen
      omega
    have hL1 : ∀ t ∈ T1, t.2.1.length ≤ 5000 := by
      refine lb_T (k := 0) ?_
      rw [e1]
      have hml : (mvs xs).reverse.length ≤ (rowsL (path ++ [j]) 0 (first + opn hd) xs).length := by
        rw [List.length_reverse]
        exact mvs_rows xs _ _ _
      exact LB.apps _ (hb.mono (by omega)) (by omega)
    refine one_row h1 n1 hl1 (by rw [e1]; exact hg.1) hL1 fun o3' o4' T' M' h2 n2 e2 => q _ _ _ _ h2 n2 ?_
    rw [e2, e1, hg.2]
theorem procL : ∀ (xs : List It) (path : List Nat) (i first : Nat) (T : List Tr) (M : Mem) (o3 o4 : Option MV) (ys : List MV), DR B T M → (T.map (·.1)).Nodup → T.length + hgtL xs + 2 ≤ 5000 → KL (er T) path → LB (er T) (rowsL path i first xs).length → (rowsL path i first xs).length ≤ 5000 →
    (∀ o3' o4' T' M', DR B T' M' → (T'.map (·.1)).Nodup → er T' = appsF (er T) path (mvs xs).reverse → Is (forV (nsF n) ys [some v0, some (.glo "plain_item"), some (.ref B.length), o3', o4'] M') Q E) →
    Is (forV (nsF n) (((rowsL path i first xs).map Row.obj).reverse ++ ys) [some v0, some (.glo "plain_item"), some (.ref B.length), o3, o4] M) Q E
  | [], path, i, first, T, M, o3, o4, ys, h, hn, hT, hk, hb, hr, q => q _ _ _ _ h hn rfl
  | x :: xs, path, i, first, T, M, o3, o4, ys, h, hn, hT, hk, hb, hr, q => by
    rw [rowsL] at hb hr ⊢
    rw [List.length_append] at hb hr
    rw [hgtL] at hT
    rw [List.map_append, List.reverse_append, List.append_assoc]
    refine procL xs path (i + 1) (first + (wl x).length + 1) T M o3 o4 _ h hn (by omega) hk (hb.mono (by omega)) (by omega) fun o3' o4' T1 M1 h1 n1 e1 => ?_
    have hml : (mvs xs).reverse.length ≤ (rowsL path (i + 1) (first + (wl x).length + 1) xs).length := by
      rw [List.length_reverse]
      exact mvs_rows xs _ _ _
    have hl1 : T1.length ≤ T.length + 1 := by
      have : (er T1).length ≤ (er T).length + 1 := by
        rw [e1]
        exact apps_len _
      rw [er_len, er_len] at this
      exact this
    refine procI x path i first T1 M1 o3' o4' ys h1 n1 (by omega) (by rw [e1]; exact hk.apps _) (by rw [e1]; exact LB.apps _ (hb.mono (by omega)) (by omega)) (by omega) fun o3'' o4'' T2 M2 h2 n2 e2 => q _ _ _ _ h2 n2 ?_
    rw [e2, e1]
    show appF (appsF (er T) path (mvs xs).reverse) path (mv x) = appsF (er T) path (mv x :: mvs xs).reverse
    rw [List.reverse_cons]
    unfold appsF
    rw [List.foldl_append]
    rfl
end
end
end P
end LawK67

set_option Elab.async false
set_option linter.all false
set_option maxRecDepth 100000
set_option maxHeartbeats 4000000
namespace LawK67
namespace P
open PySem L2 Mini
local macro_rules | `(tactic| walk_at "ev") => `(tactic| first
  | ((with_reducible refine w_var (x := ?_) ?_ ?_); rotate_left 1; exact rfl)
  | with_reducible first | refine w_con ?_ | refine w_bin ?_ | refine w_cmp ?_ | refine w_idx ?_ | refine w_blt ?_ | refine w_nil ?_ | refine w_cons ?_ | refine w_att ?_ | refine w_cal ?_ | refine w_neg ?_ | refine w_not ?_ | refine w_and ?_ | refine w_or ?_ | refine w_chn ?_ | refine w_ife ?_ | refine w_slc ?_ | refine w_isi ?_ | refine w_som ?_ | refine w_non ?_ | refine w_star ?_ | refine w_dsp ?_ | refine w_bmt ?_ | refine w_mth ?_ | refine w_new ?_ | refine w_tup ?_ | refine w_lst ?_ | refine w_nwl ?_ | refine w_ndd ?_ | refine w_seq ?_ | refine w_rng ?_ | refine w_tno ?_ | refine w_tso ?_
  | refine v_cons ?_ | refine v_nil ?_ | refine v_asg ?_ | refine v_asgT ?_ | refine v_asgP ?_ | refine v_ret ?_ | refine v_retN ?_ | refine v_exp ?_ | refine v_ite ?_ | refine v_sat ?_ | refine v_sub ?_ | refine v_augA ?_ | refine v_for ?_ | refine v_rse ?_ | refine v_try ?_ | refine v_pas ?_ | refine v_cnt ?_
  | ((with_reducible refine w_glb (x := ?_) ?_ ?_); rotate_left 1; exact rfl) | ((with_reducible refine v_augV (z := ?_) ?_ ?_); rotate_left 1; exact rfl))
local macro_rules | `(tactic| walk_at "op") => `(tactic| refine ⟨_, rfl, ?_⟩)
local macro_rules | `(tactic| walk_at "sz") => `(tactic| refine ⟨szl (by first | decide | simp), ?_⟩)
local macro_rules | `(tactic| walk_at "go") => `(tactic| repeat first | walk_at "ev" | walk_at "op" | walk_at "sz")
/-! ### plain_of, is_text, told -/
mutual
theorem mv_clean (N : Nat) : ∀ it : It, clean N (mv it) = true
  | .num _ => by simp [mv, clean, cleanL]
  | .lost => by simp [mv, clean, cleanL]
  | .use _ => by simp [mv, clean, cleanL]
  | .grp .block xs => by simp [mv, clean, cleanL, mvs_clean N xs]
  | .grp .sum xs => by simp [mv, clean, cleanL, mvs_clean N xs]
  | .grp .prod xs => by simp [mv, clean, cleanL, mvs_clean N xs]
  | .grp (.lt _) xs => by simp [mv, clean, cleanL, mvs_clean N xs]
theorem mvs_clean (N : Nat) : ∀ xs : List It, cleanL N (mvs xs) = true
  | [] => rfl
  | x :: xs => by
    rw [mvs]
    show (clean N (mv x) && cleanL N (mvs xs)) = true
    rw [mv_clean N x, mvs_clean N xs]
    rfl
end
section
variable {M : Mem} {n : Nat} {Q : MV → Mem → Prop} {E : Str → MV → Mem → Prop} {xs : List It}
theorem nested_ok (hr : (rowsL [] 0 0 xs).length ≤ 4000) (hh : hgtL xs ≤ 4000) (q : Q (.tup (mvs xs)) M) : Is (evF env0 (n + 2) ("nested_rows", none) [.lst ((rowsL [] 0 0 xs).map Row.obj), .glo "plain_item"] M) Q E := by
  refine w_body (d := c15) tb15' rfl ?_
  dsimp only [c15, Mini.start]
  refine v_cons (v_asg (w_dd1 (w_tup (w_nil ⟨szl (by simp), w_nwl (w_nil ⟨szl (by simp), ⟨[], rfl, app_get get_new, ?_⟩⟩)⟩))))
  have h0 : DR M [([], [], (M ++ [Cell.dct []] : Mem).length)] (((M ++ [Cell.dct []] : Mem) ++ [Cell.lst []]).set M.length (.dct [([], .ref (M ++ [Cell.dct []] : Mem).length)])) := by
    refine ⟨?_, get_set (app_get get_new), fun t ht => ?_, by simp⟩
    · rw [List.take_set, List.append_assoc, List.take_append_of_le_length (Nat.le_refl _), List.take_length, List.set_eq_of_length_le (Nat.le_refl _)]
    · cases List.mem_singleton.mp ht
      refine ⟨?_, by simp⟩
      rw [set_ne (by simp)]
      exact get_new
  generalize (M ++ [Cell.dct []] : Mem).length = a0 at h0 ⊢
  generalize ((M ++ [Cell.dct []] : Mem) ++ [Cell.lst []]).set M.length (.dct [([], .ref a0)]) = M1 at h0 ⊢
  refine v_cons (v_for (w_seq (w_rev (w_var rfl ⟨_, rfl, ⟨_, rfl, ?_⟩⟩))))
  rw [← List.append_nil ((rowsL [] 0 0 xs).map Row.obj).reverse]
  refine procL (B := M) (n := n) xs [] 0 0 _ M1 _ _ [] h0 (by simp) (by simp; omega) (fun f hf => by cases List.mem_singleton.mp hf; exact Nat.le_refl _) (fun f hf => by cases List.mem_singleton.mp hf; simp; omega) (by omega) fun o3 o4 T' M' h1 n1 e1 => for_nil ?_
  have e2 : er T' = [([], (mvs xs).reverse)] := by
    rw [e1]
    exact appsF_new (fs := []) (p := []) (fun f hf => nomatch hf) (mvs xs).reverse []
  obtain ⟨t, rfl, et⟩ : ∃ t : Tr, T' = [t] ∧ (t.1, t.2.1) = (([] : List Nat), (mvs xs).reverse) := by
    cases T' with
    | nil => cases e2
    | cons t T' =>
      cases T' with
      | nil => exact ⟨t, rfl, (List.cons.inj e2).1⟩
      | cons u T' => cases (List.cons.inj e2).2
  obtain ⟨p, vs, a⟩ := t
  obtain ⟨rfl, rfl⟩ := Prod.mk.inj et
  obtain ⟨hc1, hc2⟩ := h1.cel _ (List.mem_singleton.mpr rfl)
  refine v_cons (v_ret (w_blt (w_cons (w_rev (w_dix (w_var rfl (w_tup (w_nil ⟨szl (by simp), ?_⟩))))))))
  refine ⟨kvT [([], (mvs xs).reverse, a)], [], .ref a, by simp only [dctV, h1.dic], rfl, rfl, ⟨(mvs xs).reverse, by simp only [asL, hc1], w_nil ⟨_, rfl, ?_⟩⟩⟩
  rw [List.reverse_reverse]
  have hl := h1.len
  exact is_ok (fin_frz (by omega) h1.base (frz_clean (k := 63) (by show cleanL _ _ = true; exact mvs_clean _ _))) q
end
def RowsIs (M : Mem) (tl : List Nat) (xs : List It) : Prop := ∀ (n : Nat) (Q : MV → Mem → Prop) (E : Str → MV → Mem → Prop), Q (.lst ((rowsL [] 0 0 xs).map Row.obj)) M → Is (evF env0 (n + 26) ("rows_of_text", none) [.str (SX.S tl)] M) Q E
def RowsBad (M : Mem) (tv : MV) (i : Int) : Prop := ∀ (n : Nat) (Q : MV → Mem → Prop) (E : Str → MV → Mem → Prop), E "BadText" (.int i) M → Is (evF env0 (n + 26) ("rows_of_text", none) [tv] M) Q E
theorem tb28 : env0.tab ("_law_told", none) = some c28 := by kernel_rfl
theorem h_hit {g : Cfg} {hs : CH} {c d : Str} {i n : Nat} {b : Hx} {x y : MV} {M : Mem} {Q : Flw → Mem → Prop} {E : Str → MV → Mem → Prop} (h : g.sub c d = some true) (hi : i < n) (hy : b.val x = some y) (q : Q (.ret y) M) : Is (evH g (.cons d i b hs) n c x M) Q E := by
  simp only [evH, h, if_pos hi, hy]
  exact is_ok rfl q
theorem h_hit0 {g : Cfg} {hs : CH} {c d : Str} {n : Nat} {b : Hx} {x y : MV} {M : Mem} {Q : Flw → Mem → Prop} {E : Str → MV → Mem → Prop} (h : g.sub c d = some true) (hy : b.val x = some y) (q : Q (.ret y) M) : Is (evH g (.con0 d b hs) n c x M) Q E := by
  simp only [evH, h, hy]
  exact is_ok rfl q
theorem sub_bb : env0.sub "BadText" "BadText" = some true := by kernel_rfl
section
variable {M : Mem} {n : Nat} {Q : MV → Mem → Prop} {E : Str → MV → Mem → Prop} {xs : List It} {tl : List Nat} {tv : MV} {i : Int}
theorem plain_of_ok (hR : RowsIs M tl xs) (hr : (rowsL [] 0 0 xs).length ≤ 4000) (hh : hgtL xs ≤ 4000) (q : Q (.tup (mvs xs)) M) : Is (evF env0 (n + 27) ("plain_of", none) [.str (SX.S tl)] M) Q E := by
  refine w_body (d := c17) tb17' rfl ?_
  dsimp only [c17, Mini.start]
  refine v_cons (v_ret (w_cal (w_cons (w_cal (w_cons (w_var rfl (w_nil ?_)))))))
  refine hR n _ _ (w_cons (w_con (w_nil ?_)))
  exact nested_ok (n := n + 24) hr hh (isf_same q)
theorem plain_of_bad (hR : RowsBad M tv i) (q : E "BadText" (.int i) M) : Is (evF env0 (n + 27) ("plain_of", none) [tv] M) Q E := by
  refine w_body (d := c17) tb17' rfl ?_
  dsimp only [c17, Mini.start]
  refine v_cons (v_ret (w_cal (w_cons (w_cal (w_cons (w_var rfl (w_nil ?_)))))))
  refine hR n _ _ ?_
  rw [fin_lenX rfl]
  exact is_exn rfl q
theorem told_is (hR : RowsIs M tl xs) (hr : (rowsL [] 0 0 xs).length ≤ 4000) (hh : hgtL xs ≤ 4000) (q : Q (.tup (mvs xs)) M) : Is (evF env0 (n + 28) ("_law_told", none) [.str (SX.S tl)] M) Q E := by
  refine w_body (d := c28) tb28 rfl ?_
  dsimp only [c28, Mini.start]
  refine v_cons (v_try (v_cons (v_ret (w_cal (w_cons (w_var rfl (w_nil ?_)))))))
  exact plain_of_ok (n := n) hR hr hh (isf_same q)
theorem told_bad (hR : RowsBad M tv i) (q : Q (.lst [.str "wrong", .int i]) M) : Is (evF env0 (n + 28) ("_law_told", none) [tv] M) Q E := by
  refine w_body (d := c28) tb28 rfl ?_
  dsimp only [c28, Mini.start]
  refine v_cons (v_try (v_cons (v_ret (w_cal (w_cons (w_var rfl (w_nil ?_)))))))
  refine plain_of_bad (n := n) hR ?_
  refine h_hit sub_bb ?_ rfl (isf_same q)
  show 1 < 2
  decide
theorem is_text_ok (hR : RowsIs M tl xs) (q : Q (.bl true) M) : Is (evF env0 (n + 27) ("is_text", none) [.str (SX.S tl)] M) Q E := by
  refine w_body (d := c18) tb18' rfl ?_
  dsimp only [c18, Mini.start]
  refine v_cons (v_try (v_cons (v_exp (w_cal (w_cons (w_var rfl (w_nil ?_)))))))
  exact hR n _ _ (v_nil (v_cons (v_ret (w_con (isf_same q)))))
theorem is_text_bad (hR : RowsBad M tv i) (q : Q (.bl false) M) : Is (evF env0 (n + 27) ("is_text", none) [tv] M) Q E := by
  refine w_body (d := c18) tb18' rfl ?_
  dsimp only [c18, Mini.start]
  refine v_cons (v_try (v_cons (v_exp (w_cal (w_cons (w_var rfl (w_nil ?_)))))))
  refine hR n _ _ ?_
  exact h_hit0 sub_bb rfl (isf_same q)
theorem rows_odd {v : MV} (hv : isiA M v ["str"] = some false) : RowsBad M v 0 := by
  intro n Q E q
  refine w_body (d := c14) tb16 rfl ?_
  dsimp only [c14, Mini.start]
  refine v_cons (v_ite (w_not (w_isi (w_var rfl ⟨_, hv, ⟨_, rfl, ⟨_, rfl, br_t rfl ?_⟩⟩⟩))))
  refine v_cons (v_rse (w_con ?_))
  rw [fin_lenX rfl]
  exact is_exn rfl q
end
end P
end LawK67

set_option Elab.async false
set_option linter.all false
set_option maxRecDepth 100000
set_option maxHeartbeats 4000000
namespace LawK67
namespace P
open PySem L2 Mini
local macro_rules | `(tactic| walk_at "ev") => `(tactic| first
  | ((with_reducible refine w_var (x := ?_) ?_ ?_); rotate_left 1; exact rfl)
  | with_reducible first | refine w_con ?_ | refine w_bin ?_ | refine w_cmp ?_ | refine w_idx ?_ | refine w_blt ?_ | refine w_nil ?_ | refine w_cons ?_ | refine w_att ?_ | refine w_cal ?_ | refine w_neg ?_ | refine w_not ?_ | refine w_and ?_ | refine w_or ?_ | refine w_chn ?_ | refine w_ife ?_ | refine w_slc ?_ | refine w_isi ?_ | refine w_som ?_ | refine w_non ?_ | refine w_star ?_ | refine w_dsp ?_ | refine w_bmt ?_ | refine w_mth ?_ | refine w_new ?_ | refine w_tup ?_ | refine w_lst ?_ | refine w_nwl ?_ | refine w_ndd ?_ | refine w_seq ?_ | refine w_rng ?_ | refine w_tno ?_ | refine w_tso ?_
  | refine v_cons ?_ | refine v_nil ?_ | refine v_asg ?_ | refine v_asgT ?_ | refine v_asgP ?_ | refine v_ret ?_ | refine v_retN ?_ | refine v_exp ?_ | refine v_ite ?_ | refine v_sat ?_ | refine v_sub ?_ | refine v_augA ?_ | refine v_for ?_ | refine v_rse ?_ | refine v_try ?_ | refine v_pas ?_ | refine v_cnt ?_
  | ((with_reducible refine w_glb (x := ?_) ?_ ?_); rotate_left 1; exact rfl) | ((with_reducible refine v_augV (z := ?_) ?_ ?_); rotate_left 1; exact rfl))
local macro_rules | `(tactic| walk_at "op") => `(tactic| refine ⟨_, rfl, ?_⟩)
local macro_rules | `(tactic| walk_at "sz") => `(tactic| refine ⟨szl (by first | decide | simp), ?_⟩)
local macro_rules | `(tactic| walk_at "go") => `(tactic| repeat first | walk_at "ev" | walk_at "op" | walk_at "sz")
/-! ### the signs' walk over words -/
abbrev A0 (n : Nat) (k : Kd) (nd : Bool) : Au := ⟨n, k, [], nd⟩
theorem stepB_wd (a : Au) (w : List Nat) (k : Kd) (c : Nat) : (stepB a k c = none ∧ stepB { a with w := w } k c = none) ∨ (∃ b, stepB a k c = some b ∧ stepB { a with w := w } k c = some b) ∨ ∃ o k' nd, k' ≠ .word ∧ stepB a k c = some ⟨o, k', a.w, nd⟩ ∧ stepB { a with w := w } k c = some ⟨o, k', w, nd⟩ := by
  unfold stepB
  dsimp only
  split
  · exact .inr (.inl ⟨_, rfl, rfl⟩)
  split
  · exact .inr (.inr ⟨_, _, _, by decide, rfl, rfl⟩)
  split
  · exact .inr (.inr ⟨_, _, _, by decide, rfl, rfl⟩)
  split
  · exact .inr (.inr ⟨_, _, _, by decide, rfl, rfl⟩)
  split
  · refine .inr (.inr ⟨_, _, _, ?_, rfl, rfl⟩)
    split <;> decide
  · exact .inl ⟨rfl, rfl⟩
theorem stepA_nw {a : Au} (h : a.k ≠ .word) (c : Nat) : stepA a c = stepB a a.k c := by
  unfold stepA
  rw [if_neg (by simp [h]), if_neg h]
theorem auR_w : ∀ (u : List Nat) (a : Au) (w : List Nat) (p : Nat), a.k ≠ .word → auR { a with w := w } u p = auR a u p
  | [], a, w, p, _ => rfl
  | c :: u, a, w, p, h => by
    unfold auR
    rw [stepA_nw h, stepA_nw (a := { a with w := w }) h]
    rcases stepB_wd a w a.k c with ⟨h1, h2⟩ | ⟨b, h1, h2⟩ | ⟨o, k', nd, hk, h1, h2⟩
    · rw [h1, h2]
    · rw [h1, h2]
    · rw [h1, h2]
      exact auR_w u ⟨o, k', a.w, nd⟩ w (p + 1) hk
theorem auR_0 {n : Nat} {k : Kd} {w : List Nat} {nd : Bool} (u : List Nat) (p : Nat) (h : k ≠ .word) : auR ⟨n, k, w, nd⟩ u p = auR (A0 n k nd) u p := auR_w u (A0 n k nd) w p h
/-- a word is over -/
theorem auR_end {n : Nat} {w : List Nat} {nd : Bool} {rest : List Nat} {p : Nat} (h : ∀ c t, rest = c :: t → goes w c = false) : auR ⟨n, .word, w, nd⟩ rest p = auR (A0 n .after nd) rest p := by
  rw [← auR_0 (w := w) rest p (by decide)]
  cases rest with
  | nil => rfl
  | cons c t =>
    unfold auR
    have e : stepA ⟨n, .word, w, nd⟩ c = stepA ⟨n, .after, w, nd⟩ c := by
      rw [stepA_nw (a := ⟨n, .after, w, nd⟩) (show Kd.after ≠ .word by decide)]
      unfold stepA
      rw [if_neg (by simp [h c t rfl])]
      rfl
    rw [e]
theorem auR_go {n : Nat} {w : List Nat} {nd : Bool} {c : Nat} {u : List Nat} {p : Nat} (h : goes w c = true) : auR ⟨n, .word, w, nd⟩ (c :: u) p = auR ⟨n, .word, w ++ [c], nd⟩ u (p + 1) := by
  rw [auR]
  unfold stepA
  rw [if_pos (by simp [h])]
theorem auR_beg {n : Nat} {k : Kd} {nd : Bool} {c : Nat} {u : List Nat} {p : Nat} (hk : k.bg = true) (hc : inS c beg1 = true) : auR (A0 n k nd) (c :: u) p = auR ⟨n, .word, [c], decide (k = .opn) && inS c lets⟩ u (p + 1) := by
  have hw : k ≠ .word := by rintro rfl; cases hk
  rw [auR, stepA_nw hw]
  unfold stepB
  rw [if_pos (by simp [hk, hc])]
theorem inS_lets {c : Nat} (h : c ∈ lets.cps.toList) : inS c lets = true := decide_eq_true h
theorem lets_all2 : ∀ c ∈ lets.cps.toList, inS c fq = false ∧ inS c beg1 = true ∧ inS c figs = false ∧ inS c figs1 = false ∧ inS c "?" = false ∧ c ≠ 40 := by decide +kernel
theorem figs_all2 : ∀ c ∈ figs.cps.toList, inS c fq = true ∧ inS c beg1 = true ∧ inS c lets = false ∧ (inS c figs1 = true ↔ c ≠ 48) := by decide +kernel
theorem figs1_figs : ∀ c ∈ figs1.cps.toList, c ∈ figs.cps.toList ∧ inS c lets = false := by decide +kernel
theorem filt_lets : ∀ {l : List Nat}, (∀ c ∈ l, c ∈ lets.cps.toList) → (l.filter fun x => inS x lets) = l := fun h => List.filter_eq_self.mpr fun c hc => inS_lets (h c hc)
theorem goes_l {c : Nat} {ls : List Nat} {x : Nat} (h : ∀ y ∈ c :: ls, y ∈ lets.cps.toList) : goes (c :: ls) x = ((decide ((c :: ls).length < 4) && inS x lets) || inS x figs1) := by
  dsimp only [goes]
  rw [if_neg (by rw [(lets_all2 c (h c List.mem_cons_self)).1]; exact Bool.false_ne_true), filt_lets h, if_pos rfl]
theorem goes_f {c f : Nat} {ls : List Nat} {x : Nat} (h : ∀ y ∈ c :: ls, y ∈ lets.cps.toList) (hf : f ∈ figs1.cps.toList) : goes (c :: ls ++ [f]) x = inS x figs := by
  have e : ((c :: (ls ++ [f])).filter fun x => inS x lets) = c :: ls := by
    show ((c :: ls ++ [f]).filter fun x => inS x lets) = c :: ls
    rw [List.filter_append, filt_lets h]
    simp [(figs1_figs f hf).2]
  show goes (c :: (ls ++ [f])) x = _
  dsimp only [goes]
  rw [if_neg (by rw [(lets_all2 c (h c List.mem_cons_self)).1]; exact Bool.false_ne_true), e, if_neg (by simp), decide_eq_true (by simp), Bool.true_and]
theorem goes_fg {c f g : Nat} {ls : List Nat} {x : Nat} (h : ∀ y ∈ c :: ls, y ∈ lets.cps.toList) (hf : f ∈ figs1.cps.toList) (hg : g ∈ figs.cps.toList) : goes (c :: ls ++ [f, g]) x = false := by
  have e : ((c :: (ls ++ [f, g])).filter fun x => inS x lets) = c :: ls := by
    show ((c :: ls ++ [f, g]).filter fun x => inS x lets) = c :: ls
    rw [List.filter_append, filt_lets h]
    simp [(figs1_figs f hf).2, (figs_all2 g hg).2.2.1]
  show goes (c :: (ls ++ [f, g])) x = _
  dsimp only [goes]
  rw [if_neg (by rw [(lets_all2 c (h c List.mem_cons_self)).1]; exact Bool.false_ne_true), e, if_neg (by simp), decide_eq_false (by simp), Bool.false_and]
theorem hdIn_in {c : Nat} {t : List Nat} {sg : Str} : hdIn (c :: t) sg = inS c sg := rfl
theorem ext_l {n : Nat} {nd : Bool} {u : List Nat} : ∀ (v : List Nat) (c : Nat) (ls : List Nat) (p : Nat), (∀ y ∈ c :: ls, y ∈ lets.cps.toList) → (∀ y ∈ v, y ∈ lets.cps.toList) → (c :: ls).length + v.length ≤ 4 → auR ⟨n, .word, c :: ls, nd⟩ (v ++ u) p = auR ⟨n, .word, c :: ls ++ v, nd⟩ u (p + v.length)
  | [], c, ls, p, _, _, _ => by simp
  | x :: v, c, ls, p, h1, h2, h3 => by
    have hx := h2 x List.mem_cons_self
    simp only [List.length_cons] at h3
    rw [List.cons_append, auR_go (by rw [goes_l h1, decide_eq_true (by simp only [List.length_cons]; omega), inS_lets hx]; rfl)]
    have := ext_l (n := n) (nd := nd) (u := u) v c (ls ++ [x]) (p + 1) (fun y hy => by
      rcases List.mem_cons.mp hy with rfl | hy
      · exact h1 _ List.mem_cons_self
      · rcases List.mem_append.mp hy with hy | hy
        · exact h1 y (List.mem_cons_of_mem _ hy)
        · cases List.mem_singleton.mp hy; exact hx) (fun y hy => h2 y (List.mem_cons_of_mem _ hy)) (by simp at h3 ⊢; omega)
    rw [show c :: ls ++ [x] = c :: (ls ++ [x]) from rfl, this]
    simp only [List.cons_append, List.append_assoc, List.length_cons, List.singleton_append]
    congr 1
    omega
/-- over a name -/
theorem aw_name {n : Nat} {k : Kd} {nd : Bool} {c : Nat} {ls fs rest : List Nat} {p : Nat} (hk : k.bg = true) (hn : nmOk (c :: ls) fs rest) : auR (A0 n k nd) ((c :: ls) ++ (fs ++ rest)) p = auR (A0 n .after (decide (k = .opn))) rest (p + ((c :: ls) ++ fs).length) := by
  obtain ⟨n1, n2, n3, n4⟩ := hn
  have hc := n1 c List.mem_cons_self
  have hb := lets_all2 c hc
  rw [List.cons_append, auR_beg hk hb.2.1, inS_lets hc, Bool.and_true]
  rw [ext_l ls c [] (p + 1) (fun y hy => by cases List.mem_singleton.mp hy; exact hc) (fun y hy => n1 y (List.mem_cons_of_mem _ hy)) (by simp at n2 ⊢; omega)]
  simp only [List.singleton_append]
  match fs, n3, n4 with
  | [], n3, n4 =>
    rw [List.nil_append, List.append_nil, auR_end fun x t e => ?_]
    · simp only [List.length_cons]; congr 1; omega
    · subst e
      rw [goes_l n1]
      rw [hdIn_in] at n4
      rw [n4, Bool.or_false]
      rcases n3 with n3 | n3
      · rw [decide_eq_false (by omega), Bool.false_and]
      · rw [List.nil_append, hdIn_in] at n3
        rw [n3, Bool.and_false]
  | [f], n3, n4 =>
    have hf1 : inS f figs1 = true := decide_eq_true n4.1
    rw [List.singleton_append, auR_go (by rw [goes_l n1, hf1, Bool.or_true]), auR_end fun x t e => ?_]
    · simp only [List.length_cons, List.length_append, List.cons_append]; congr 1; simp; omega
    · subst e
      rw [goes_f n1 n4.1]
      exact n4.2
  | [f, g], n3, n4 =>
    have hf1 : inS f figs1 = true := decide_eq_true n4.1
    have hg1 : inS g figs = true := decide_eq_true n4.2
    show auR _ (f :: g :: rest) _ = _
    rw [auR_go (by rw [goes_l n1, hf1, Bool.or_true]), auR_go (by rw [goes_f n1 n4.1]; exact hg1)]
    rw [show c :: ls ++ [f] ++ [g] = c :: ls ++ [f, g] from by simp, auR_end fun x t e => goes_fg n1 n4.1 n4.2]
    simp only [List.length_cons, List.length_append, List.cons_append]; congr 1; simp; omega
theorem q_in : inS 63 beg1 = true ∧ inS 63 lets = false ∧ inS 63 fq = true ∧ inS 63 figs1 = false := by decide +kernel
theorem aw_lost {n : Nat} {k : Kd} {nd : Bool} {rest : List Nat} {p : Nat} (hk : k.bg = true) : auR (A0 n k nd) (63 :: rest) p = auR (A0 n .after false) rest (p + 1) := by
  rw [auR_beg hk q_in.1, q_in.2.1, Bool.and_false, auR_end fun x t e => ?_]
  dsimp only [goes]
  rw [if_pos q_in.2.2.1, q_in.2.2.2]
  simp
theorem aw_num {n k0 : Nat} {k : Kd} {nd : Bool} {rest : List Nat} {p : Nat} (hk : k.bg = true) (h : k0 < 100) (hm : ∀ c, wl (.num k0) = [c] → c ≠ 48 → hdIn rest figs = false) : auR (A0 n k nd) (wl (.num k0) ++ rest) p = auR (A0 n .after false) rest (p + (wl (.num k0)).length) := by
  rcases num_form h with ⟨c, e, f, _⟩ | ⟨c, d, e, f, f2, f3, _⟩
  · have hb := figs_all2 c f
    rw [e]
    show auR _ (c :: rest) p = _
    rw [auR_beg hk hb.2.1, hb.2.2.1, Bool.and_false, auR_end fun x t er => ?_]
    · rfl
    · subst er
      dsimp only [goes]
      rw [if_pos hb.1]
      by_cases h0 : c = 48
      · have : inS c figs1 = false := by
          cases hq : inS c figs1 with
          | false => rfl
          | true => exact absurd h0 (hb.2.2.2.mp hq)
        rw [this]; simp
      · have h1 := hm c e h0
        rw [hdIn_in] at h1
        rw [h1]; simp
  · have hb := figs_all2 c f
    have hd1 : inS d figs = true := decide_eq_true f3
    rw [e]
    show auR _ (c :: d :: rest) p = _
    rw [auR_beg hk hb.2.1, hb.2.2.1, Bool.and_false, auR_go (by
      dsimp only [goes]
      rw [if_pos hb.1, hb.2.2.2.mpr f2, hd1]
      rfl), auR_end fun x t er => ?_]
    · rfl
    · show goes [c, d] x = false
      dsimp only [goes]
      rw [if_pos hb.1]
      rfl
end P
end LawK67

set_option Elab.async false
set_option linter.all false
set_option maxRecDepth 100000
set_option maxHeartbeats 4000000
namespace LawK67
namespace P
open PySem L2 Mini
local macro_rules | `(tactic| walk_at "ev") => `(tactic| first
  | ((with_reducible refine w_var (x := ?_) ?_ ?_); rotate_left 1; exact rfl)
  | with_reducible first | refine w_con ?_ | refine w_bin ?_ | refine w_cmp ?_ | refine w_idx ?_ | refine w_blt ?_ | refine w_nil ?_ | refine w_cons ?_ | refine w_att ?_ | refine w_cal ?_ | refine w_neg ?_ | refine w_not ?_ | refine w_and ?_ | refine w_or ?_ | refine w_chn ?_ | refine w_ife ?_ | refine w_slc ?_ | refine w_isi ?_ | refine w_som ?_ | refine w_non ?_ | refine w_star ?_ | refine w_dsp ?_ | refine w_bmt ?_ | refine w_mth ?_ | refine w_new ?_ | refine w_tup ?_ | refine w_lst ?_ | refine w_nwl ?_ | refine w_ndd ?_ | refine w_seq ?_ | refine w_rng ?_ | refine w_tno ?_ | refine w_tso ?_
  | refine v_cons ?_ | refine v_nil ?_ | refine v_asg ?_ | refine v_asgT ?_ | refine v_asgP ?_ | refine v_ret ?_ | refine v_retN ?_ | refine v_exp ?_ | refine v_ite ?_ | refine v_sat ?_ | refine v_sub ?_ | refine v_augA ?_ | refine v_for ?_ | refine v_rse ?_ | refine v_try ?_ | refine v_pas ?_ | refine v_cnt ?_
  | ((with_reducible refine w_glb (x := ?_) ?_ ?_); rotate_left 1; exact rfl) | ((with_reducible refine v_augV (z := ?_) ?_ ?_); rotate_left 1; exact rfl))
local macro_rules | `(tactic| walk_at "op") => `(tactic| refine ⟨_, rfl, ?_⟩)
local macro_rules | `(tactic| walk_at "sz") => `(tactic| refine ⟨szl (by first | decide | simp), ?_⟩)
local macro_rules | `(tactic| walk_at "go") => `(tactic| repeat first | walk_at "ev" | walk_at "op" | walk_at "sz")
/-! ### walks that end in an error -/
def XE (B : Mem) (i : Nat) (c : Str) (x : MV) (M' : Mem) : Prop := c = "BadText" ∧ x = .int (i : Int) ∧ M'.take B.length = B ∧ B.length < M'.length
def BegX (B : Mem) (tl : List Nat) (n : Nat) (s : St) (i : Nat) : Prop := ∀ (rs ps : List Nat) (M : Mem) (Q : MV → Mem → Prop), R B tl s rs ps M → Is (evF env0 n ("TextWalk", some "begin_item") [.ref B.length] M) Q (XE B i)
def BegFX (B : Mem) (tl : List Nat) (n : Nat) (s : St) (i : Nat) : Prop := ∀ (rs ps : List Nat) (M : Mem) (Q : MV → Mem → Prop), R B tl s rs ps M → Is (evF env0 n ("TextWalk", some "begin_first") [.ref B.length] M) Q (XE B i)
def GoX (B : Mem) (tl : List Nat) (s : St) (i : Nat) : Prop := ∀ (n : Nat) (rs ps : List Nat) (M : Mem) (Q : MV → Mem → Prop), R B tl s rs ps M → Is (evF env0 (n + 24) ("TextWalk", some "go_on") [.ref B.length] M) Q (XE B i)
section
variable {B : Mem} {tl : List Nat} {s : St} {rs ps : List Nat} {M : Mem} {n i : Nat} {Q : MV → Mem → Prop}
theorem R.xe (h : R B tl s rs ps M) : XE B s.pos "BadText" (.int (s.pos : Int)) M := ⟨rfl, rfl, h.base, by have := h.len; omega⟩
theorem isx {M1 : Mem} {c : Str} {x : MV} (hb : M.take B.length = B) (hl : B.length < M.length) (h : XE B i c x M1) : Is (fin false M (.exn c x M1)) Q (XE B i) := by
  obtain ⟨rfl, rfl, h3, h4⟩ := h
  by_cases e1 : M1.length = M.length
  · rw [fin_lenX e1]
    exact is_exn rfl ⟨rfl, rfl, h3, h4⟩
  · by_cases e2 : M1.take M.length = M
    · rw [fin_frzX (u := .int (i : Int)) e1 e2 (frz_clean (by simp [clean]))]
      exact is_exn rfl ⟨rfl, rfl, hb, hl⟩
    · rw [fin_dirtyX e2]
      exact is_exn rfl ⟨rfl, rfl, h3, h4⟩
theorem R.isx {M1 : Mem} {c : Str} {x : MV} (hR : R B tl s rs ps M) (h : XE B i c x M1) : Is (fin false M (.exn c x M1)) Q (XE B i) := P.isx hR.base (by have := hR.len; omega) h
theorem begX_bad (hl : tl.length ≤ 3000) (h1 : hdIn (tl.drop s.pos) figs = false) (h2 : hdIn (tl.drop s.pos) lets = false) (h3 : hdIn (tl.drop s.pos) "?" = false) (h4 : hdIn (tl.drop s.pos) "(" = false) : BegX B tl (n + 4) s s.pos := fun rs ps M Q h => begin_bad h hl h1 h2 h3 h4 h.xe
theorem bfX (hl : tl.length ≤ 3000) (h1 : hdIn (tl.drop s.pos) figs = false) (h2 : hdIn (tl.drop s.pos) lets = false) (h3 : hdIn (tl.drop s.pos) "?" = false) (hb : BegX B tl (n + 3) s i) : BegFX B tl (n + 4) s i := by
  intro rs ps M Q h
  refine w_body (d := c10) tb12 rfl ?_
  dsimp only [c10, Mini.start]
  obtain ⟨p, hp1, hp2, hp3⟩ := top_ix h (kd := env0.kd)
  refine v_cons (v_asg (w_idx (a_pile h rfl (w_neg (w_con ⟨1, rfl, ⟨_, hp3, ?_⟩⟩)))))
  refine v_cons (v_asg (w_mth (w_var rfl ⟨_, mi_next h, by kernel_rfl, w_nil ?_⟩)))
  refine small_none h hl h1 h2 h3 ?_
  refine v_cons (v_ite (w_cmp (w_var rfl (w_con ⟨_, is_non, ⟨_, rfl, br_t rfl ?_⟩⟩))))
  refine v_cons (v_exp (w_mth (w_var rfl ⟨_, mi_next h, by kernel_rfl, w_nil ?_⟩)))
  exact (hb _ _ _ _ h).mono (fun v M1 z => z) fun c x M1 hx => h.isx hx
theorem begX_first {t : List Nat} (hl : tl.length ≤ 3000) (hr : s.rows.length ≤ 3000) (hp : s.top.path.length ≤ 90) (hlow : s.low.length ≤ 90) (hd : tl.drop s.pos = 40 :: t) (hc : hdIn t "+*" = false) (hc2 : hdIn t ")" = false) (hf : BegFX B tl (n + 3) (opened s) i) : BegX B tl (n + 4) s i := by
  intro rs ps M Q h
  refine begin_open h hl hr hp hlow hd fun a b M' h1 => ?_
  have hd2 : tl.drop (opened s).pos = t := by rw [opened_pos, ← List.drop_drop, hd]; rfl
  refine v_cons (v_ite (m_next h1 hl rfl (k := false) (by rw [hd2]; exact hc) ⟨_, rfl, br_f rfl ?_⟩))
  refine v_cons (v_ite (w_not (m_next h1 hl rfl (k := false) (by rw [hd2]; exact hc2) ⟨_, rfl, ⟨_, rfl, br_t rfl ?_⟩⟩)))
  refine v_cons (v_exp (w_mth (w_var rfl ⟨_, mi_next h1, by kernel_rfl, w_nil ?_⟩)))
  exact (hf _ _ _ _ h1).mono (fun v M1 z => z) fun c x M1 hx => h.isx hx
theorem goX_end (hl : tl.length ≤ 3000) (hd : tl.drop s.pos = []) (hp : s.pos ≤ tl.length) (hlow : s.low ≠ []) : GoX B tl s s.pos := by
  intro n rs ps M Q h
  have hpos : s.pos = tl.length := by
    have := List.drop_eq_nil_iff.mp hd
    omega
  have hll : 0 < s.low.length := List.length_pos_iff.mpr hlow
  have e1 : ((s.pos : Int) == (tl.length : Int)) = true := by rw [hpos]; exact beq_self_eq_true _
  have e2 : ((ps.length : Int) == 1) = false := by rw [h.pl]; exact beq_eq_false_iff_ne.mpr (by omega)
  refine w_body (d := c12) tb14 rfl ?_
  dsimp only [c12, Mini.start]
  refine v_cons (v_ite (w_and (w_cmp (a_at h rfl (w_blt (w_cons (a_text h rfl (w_nil (lenT hl ⟨_, eq_int, ⟨_, rfl, br_t e1 ?_⟩⟩)))))))))
  refine w_cmp (w_blt (w_cons (a_pile h rfl (w_nil (len_ref h.pa (w_con ⟨_, eq_int, ⟨_, rfl, br_f e2 (v_nil ?_)⟩⟩))))))
  refine v_cons (v_ite (w_and (m_next h hl rfl (k := false) (by rw [hd]; rfl) ⟨_, rfl, br_f rfl ⟨_, rfl, br_f rfl ?_⟩⟩)))
  refine v_cons (v_ite (m_next h hl rfl (k := false) (by rw [hd]; rfl) ⟨_, rfl, br_f rfl ?_⟩))
  refine v_cons (v_exp (w_mth (w_var rfl ⟨_, mi_next h, by kernel_rfl, w_nil ?_⟩)))
  exact refuse h (h.isx h.xe)
theorem goX_char {c : Nat} {t : List Nat} (hl : tl.length ≤ 3000) (hd : tl.drop s.pos = c :: t) (h32 : inS c " " = false) (h41 : inS c ")" = false ∨ s.low = []) : GoX B tl s s.pos := by
  intro n rs ps M Q h
  have hne := ne_beq (Nat.ne_of_lt (drop_lt hd))
  refine w_body (d := c12) tb14 rfl ?_
  dsimp only [c12, Mini.start]
  refine v_cons (v_ite (w_and (w_cmp (a_at h rfl (w_blt (w_cons (a_text h rfl (w_nil (lenT hl ⟨_, eq_int, ⟨_, rfl, br_f hne ⟨_, rfl, br_f hne (v_nil ?_)⟩⟩⟩)))))))))
  have hend : Is (evB (env0.cfg (n + 23)) (.cons (.ite (.mth "TextWalk" (.var 0) "next_in" (.cons (.con (.str " ")) .nil)) (.cons (.augA (.var 0) "own_at" .Add (.con (.int 1))) (.cons (.exp (.mth "TextWalk" (.var 0) "begin_item" .nil)) .nil)) (.cons (.exp (.mth "TextWalk" (.var 0) "refuse_here" .nil)) .nil)) .nil) [some (.ref B.length)] M) (fun _ _ => False) (fun c x M1 => Is (fin false M (.exn c x M1)) Q (XE B s.pos)) := by
    refine v_cons (v_ite (m_next h hl rfl (k := false) (by rw [hd]; exact h32) ⟨_, rfl, br_f rfl ?_⟩))
    refine v_cons (v_exp (w_mth (w_var rfl ⟨_, mi_next h, by kernel_rfl, w_nil ?_⟩)))
    exact refuse h (h.isx h.xe)
  by_cases h1 : inS c ")" = true
  · have hlow : s.low = [] := h41.resolve_left (by rw [h1]; exact Bool.noConfusion)
    refine v_cons (v_ite (w_and (m_next h hl rfl (k := true) (by rw [hd]; exact h1) ⟨_, rfl, br_t rfl (w_cmp (w_blt (w_cons (a_pile h rfl (w_nil (len_ref h.pa (w_con ⟨_, rfl, ⟨_, rfl, br_f ?_ ?_⟩⟩)))))))⟩)))
    · refine decide_eq_false ?_
      rw [h.pl, hlow]
      decide
    · exact hend.imp fun _ _ z => z.elim
  · have h1' : inS c ")" = false := by simpa using h1
    refine v_cons (v_ite (w_and (m_next h hl rfl (k := false) (by rw [hd]; exact h1') ⟨_, rfl, br_f rfl ⟨_, rfl, br_f rfl ?_⟩⟩)))
    exact hend.imp fun _ _ z => z.elim
theorem goX_item {t : List Nat} (hl : tl.length ≤ 3000) (hd : tl.drop s.pos = 32 :: t) (hb : ∀ n, BegX B tl (n + 23) { s with pos := s.pos + 1 } i) : GoX B tl s i := by
  intro n rs ps M Q h
  have hne := ne_beq (Nat.ne_of_lt (drop_lt hd))
  refine w_body (d := c12) tb14 rfl ?_
  dsimp only [c12, Mini.start]
  refine v_cons (v_ite (w_and (w_cmp (a_at h rfl (w_blt (w_cons (a_text h rfl (w_nil (lenT hl ⟨_, eq_int, ⟨_, rfl, br_f hne ⟨_, rfl, br_f hne (v_nil ?_)⟩⟩⟩)))))))))
  refine v_cons (v_ite (w_and (m_next h hl rfl (k := false) (by rw [hd]; kernel_rfl) ⟨_, rfl, br_f rfl ⟨_, rfl, br_f rfl ?_⟩⟩)))
  refine v_cons (v_ite (m_next h hl rfl (k := true) (by rw [hd]; kernel_rfl) ⟨_, rfl, br_t rfl ?_⟩))
  refine v_cons (v_step (s.pos + 1) h rfl (by omega) ?_)
  have h1 := h.at (s.pos + 1)
  refine v_cons (v_exp (w_mth (w_var rfl ⟨_, mi_next h1, by kernel_rfl, w_nil ?_⟩)))
  exact (hb n _ _ _ _ h1).mono (fun v M1 z => z) fun c x M1 hx => h.isx hx
/-! longest words -/
def Fits : It → List Nat → Prop
  | .num k, rest => k < 100 ∧ ∀ c, wl (.num k) = [c] → c ≠ 48 → hdIn rest figs = false
  | .lost, _ => True
  | .use w, rest => ∃ c ls fs, cl w = (c :: ls) ++ fs ∧ nmOk (c :: ls) fs rest
  | .grp _ _, _ => False
theorem fits_sm {it : It} {rest : List Nat} (h : Fits it rest) : Sm it := by
  cases it with
  | grp _ _ => exact h
  | _ => trivial
theorem fits_pos {it : It} {rest : List Nat} (h : Fits it rest) : 0 < (wl it).length := by
  cases it with
  | num k => rcases num_form h.1 with ⟨c, e, _⟩ | ⟨c, d, e, _⟩ <;> rw [e] <;> simp
  | lost => simp [wl]
  | use w =>
    obtain ⟨c, ls, fs, e, _⟩ := h
    simp only [wl]
    rw [e]
    simp
  | grp _ _ => exact h.elim
theorem smallG {E : Str → MV → Mem → Prop} {it : It} {rest : List Nat} (h : R B tl s rs ps M) (hl : tl.length ≤ 3000) (hr : s.rows.length ≤ 3000) (hp : s.top.path.length ≤ 100) (hf : Fits it rest) (hd : tl.drop s.pos = wl it ++ rest) (q : ∀ a M', R B tl (aft s it) (rs ++ [a]) ps M' → Q (.ref a) M') : Is (evF env0 (n + 3) ("TextWalk", some "small_item") [.ref B.length] M) Q E := by
  cases it with
  | num k => exact small_numG h hl hr hp hf.1 hd hf.2 q
  | lost => exact small_lost h hl hr hp hd q
  | use w => exact small_useG h hl hr hp hf hd q
  | grp _ _ => exact hf.elim
theorem beg_smallG {it : It} {rest : List Nat} (hl : tl.length ≤ 3000) (hr : s.rows.length ≤ 3000) (hp : s.top.path.length ≤ 100) (hf : Fits it rest) (hd : tl.drop s.pos = wl it ++ rest) : Beg B tl (n + 4) s (aft s it) := by
  intro rs ps M Q E h q
  refine w_body (d := c9) tb11 rfl ?_
  dsimp only [c9, Mini.start]
  refine v_cons (v_ite (w_cmp (w_mth (w_var rfl ⟨_, mi_next h, by kernel_rfl, w_nil ?_⟩))))
  refine smallG h hl hr hp hf hd fun a M' h1 => w_con ⟨_, isn_ref, ⟨_, rfl, br_t rfl (v_cons (v_retN ?_))⟩⟩
  refine isf_dirty (h.dirty h1 (.inl ?_)) (q _ _ _ h1)
  have := fits_pos hf
  show s.pos ≠ s.pos + (wl it).length
  omega
theorem bf_smallG {it : It} {rest : List Nat} (hl : tl.length ≤ 3000) (hT : ∀ c ∈ tl, c < 1000) (hr : s.rows.length ≤ 3000) (hp : s.top.path.length ≤ 100) (hf : Fits it rest) (hd : tl.drop s.pos = wl it ++ rest) (hne : (match it with | .use _ => rest.take 2 ≠ [32, 61] | _ => True)) : BegF B tl (n + 4) s (aft s it) := by
  intro rs ps M Q E h q
  have hs := fits_sm hf
  refine w_body (d := c10) tb12 rfl ?_
  dsimp only [c10, Mini.start]
  obtain ⟨p, hp1, hp2, hp3⟩ := top_ix h (kd := env0.kd)
  refine v_cons (v_asg (w_idx (a_pile h rfl (w_neg (w_con ⟨1, rfl, ⟨_, hp3, ?_⟩⟩)))))
  refine v_cons (v_asg (w_mth (w_var rfl ⟨_, mi_next h, by kernel_rfl, w_nil ?_⟩)))
  refine smallG h hl hr hp hf hd fun a M1 h1 => ?_
  have hend : ∀ {b : Bool}, Is (fin b M (.ok .non M1)) Q E := isf_dirty (h.dirty h1 (.inl (by have := fits_pos hf; show s.pos ≠ s.pos + (wl it).length; omega))) (q _ _ _ h1)
  have hrow := h1.rc s.rows.length (rowOf (s.top.path ++ [s.top.many]) s.pos it) a (by
    cases it with
    | grp _ _ => exact (hs : False).elim
    | _ => simp [aft, rowsI]) (by rw [← h.rl]; exact last_get)
  refine v_cons (v_ite (w_cmp (w_var rfl (w_con ⟨_, is_ref, ⟨_, rfl, br_f rfl ?_⟩⟩))))
  refine v_cons (v_ite (w_and (w_cmp (w_att (w_var rfl ⟨_, fr_kind hrow, w_con ⟨_, q_use hs, ⟨_, rfl, ?_⟩⟩⟩)))))
  cases it with
  | num k => exact br_f rfl ⟨_, rfl, br_f rfl (v_nil (v_nil (v_nil hend)))⟩
  | lost => exact br_f rfl ⟨_, rfl, br_f rfl (v_nil (v_nil (v_nil hend)))⟩
  | grp _ _ => exact (hs : False).elim
  | use w =>
    refine br_t rfl ?_
    refine w_cmp (w_slc (a_text h1 rfl (w_som (a_at h1 rfl ⟨_, rfl, w_som (w_bin (a_at h1 rfl (w_con ⟨_, rfl, ⟨_, rfl, ?_⟩⟩)))⟩))))
    rw [show ((aft s (.use w)).pos : Int) + 2 = (((aft s (.use w)).pos + 2 : Nat) : Int) from by omega]
    refine slcT hl (w_con ⟨false, ?_, ⟨_, rfl, br_f rfl (v_nil (v_nil (v_nil hend)))⟩⟩)
    have hd2 : tl.drop (aft s (.use w)).pos = rest := by
      show tl.drop (s.pos + (wl (.use w)).length) = rest
      rw [← List.drop_drop, hd, List.drop_left]
    rw [hd2, Nat.add_sub_cancel_left, e_eq]
    simp only [cmpV]
    rw [eq_str (ok_S fun c hc => hT c ?_) (ok_S (by decide)), SX.S_beq_eq, decide_eq_false hne]
    have h3 : c ∈ rest := List.mem_of_mem_take hc
    rw [← hd2] at h3
    exact List.mem_of_mem_drop h3
end
theorem tk_lets : ∀ (n : Nat) (t : List Nat), ∃ a b, t = a ++ b ∧ a.length ≤ n ∧ (∀ c ∈ a, c ∈ lets.cps.toList) ∧ (a.length = n ∨ hdIn b lets = false)
  | 0, t => ⟨[], t, rfl, Nat.le_refl _, fun _ h => (nomatch h), .inl rfl⟩
  | n + 1, [] => ⟨[], [], rfl, Nat.zero_le _, fun _ h => (nomatch h), .inr rfl⟩
  | n + 1, c :: t => by
    by_cases hc : c ∈ lets.cps.toList
    · obtain ⟨a, b, e, h1, h2, h3⟩ := tk_lets n t
      refine ⟨c :: a, b, by rw [e]; rfl, by simp; omega, fun x hx => ?_, ?_⟩
      · rcases List.mem_cons.mp hx with rfl | hx
        · exact hc
        · exact h2 x hx
      · rcases h3 with h3 | h3
        · exact .inl (by simp [h3])
        · exact .inr h3
    · exact ⟨[], c :: t, rfl, Nat.zero_le _, fun _ h => (nomatch h), .inr (decide_eq_false hc)⟩
theorem munch_name {c : Nat} (hc : c ∈ lets.cps.toList) (t : List Nat) : ∃ w rest, c :: t = wl (.use w) ++ rest ∧ Fits (.use w) rest := by
  obtain ⟨a, b, e, h1, h2, h3⟩ := tk_lets 3 t
  have hall : ∀ y ∈ c :: a, y ∈ lets.cps.toList := fun y hy => by
    rcases List.mem_cons.mp hy with rfl | hy
    · exact hc
    · exact h2 y hy
  have h4 : (c :: a).length = 4 ∨ hdIn b lets = false := by
    rcases h3 with h3 | h3
    · exact .inl (by simp [h3])
    · exact .inr h3
  have mk : ∀ (fs rest : List Nat), b = fs ++ rest → (match fs with
      | [] => hdIn rest figs1 = false
      | [f] => f ∈ figs1.cps.toList ∧ hdIn rest figs = false
      | [f, g] => f ∈ figs1.cps.toList ∧ g ∈ figs.cps.toList
      | _ => False) → ∃ w rest, c :: t = wl (.use w) ++ rest ∧ Fits (.use w) rest := by
    intro fs rest eb hm
    refine ⟨SX.S ((c :: a) ++ fs), rest, ?_, c, a, fs, rfl, hall, by simp; omega, ?_, hm⟩
    · show c :: t = ((c :: a) ++ fs) ++ rest
      rw [e, eb]; simp
    · rw [← eb]; exact h4
  cases b with
  | nil => exact mk [] [] rfl rfl
  | cons f b' =>
    by_cases hf : f ∈ figs1.cps.toList
    · cases b' with
      | nil => exact mk [f] [] rfl ⟨hf, rfl⟩
      | cons g b'' =>
        by_cases hg : g ∈ figs.cps.toList
        · exact mk [f, g] b'' rfl ⟨hf, hg⟩
        · exact mk [f] (g :: b'') rfl ⟨hf, decide_eq_false hg⟩
    · exact mk [] (f :: b') rfl (decide_eq_false hf)
theorem num1 : ∀ c ∈ figs.cps.toList, c - 48 < 100 ∧ wl (.num (c - 48)) = [c] := by decide +kernel
theorem num2 : ∀ c ∈ figs.cps.toList, c ≠ 48 → ∀ d ∈ figs.cps.toList, (c - 48) * 10 + (d - 48) < 100 ∧ wl (.num ((c - 48) * 10 + (d - 48))) = [c, d] := by decide +kernel
theorem munch_num {c : Nat} (hc : c ∈ figs.cps.toList) (t : List Nat) : ∃ k rest, c :: t = wl (.num k) ++ rest ∧ Fits (.num k) rest := by
  obtain ⟨h1, h2⟩ := num1 c hc
  by_cases h0 : c = 48
  · refine ⟨c - 48, t, by rw [h2]; rfl, h1, fun x hx hx2 => ?_⟩
    rw [h2] at hx
    cases hx
    exact absurd h0 hx2
  · cases t with
    | nil => exact ⟨c - 48, [], by rw [h2]; rfl, h1, fun _ _ _ => rfl⟩
    | cons d t =>
      by_cases hd : d ∈ figs.cps.toList
      · obtain ⟨g1, g2⟩ := num2 c hc h0 d hd
        refine ⟨_, t, by rw [g2]; rfl, g1, fun x hx _ => ?_⟩
        rw [g2] at hx
        cases hx
      · exact ⟨c - 48, d :: t, by rw [h2]; rfl, h1, fun _ _ _ => decide_eq_false hd⟩
def isUse : It → Bool
  | .use _ => true
  | _ => false
theorem aw_small {n : Nat} {k : Kd} {nd : Bool} {it : It} {rest : List Nat} {p : Nat} (hk : k.bg = true) (hf : Fits it rest) : auR (A0 n k nd) (wl it ++ rest) p = auR (A0 n .after (decide (k = .opn) && isUse it)) rest (p + (wl it).length) := by
  cases it with
  | num k0 => rw [aw_num hk hf.1 hf.2, show isUse (.num k0) = false from rfl, Bool.and_false]
  | lost => rw [show wl .lost ++ rest = 63 :: rest from rfl, aw_lost hk, show isUse .lost = false from rfl, Bool.and_false]; rfl
  | use w =>
    obtain ⟨c, ls, fs, e, hn⟩ := hf
    show auR _ (cl w ++ rest) p = auR _ rest (p + (cl w).length)
    rw [show isUse (.use w) = true from rfl, e, List.append_assoc, aw_name hk hn, Bool.and_true]
  | grp _ _ => exact hf.elim
end P
end LawK67

set_option Elab.async false
set_option linter.all false
set_option maxRecDepth 100000
set_option maxHeartbeats 4000000
namespace LawK67
namespace P
open PySem L2 Mini
local macro_rules | `(tactic| walk_at "ev") => `(tactic| first
  | ((with_reducible refine w_var (x := ?_) ?_ ?_); rotate_left 1; exact rfl)
  | with_reducible first | refine w_con ?_ | refine w_bin ?_ | refine w_cmp ?_ | refine w_idx ?_ | refine w_blt ?_ | refine w_nil ?_ | refine w_cons ?_ | refine w_att ?_ | refine w_cal ?_ | refine w_neg ?_ | refine w_not ?_ | refine w_and ?_ | refine w_or ?_ | refine w_chn ?_ | refine w_ife ?_ | refine w_slc ?_ | refine w_isi ?_ | refine w_som ?_ | refine w_non ?_ | refine w_star ?_ | refine w_dsp ?_ | refine w_bmt ?_ | refine w_mth ?_ | refine w_new ?_ | refine w_tup ?_ | refine w_lst ?_ | refine w_nwl ?_ | refine w_ndd ?_ | refine w_seq ?_ | refine w_rng ?_ | refine w_tno ?_ | refine w_tso ?_
  | refine v_cons ?_ | refine v_nil ?_ | refine v_asg ?_ | refine v_asgT ?_ | refine v_asgP ?_ | refine v_ret ?_ | refine v_retN ?_ | refine v_exp ?_ | refine v_ite ?_ | refine v_sat ?_ | refine v_sub ?_ | refine v_augA ?_ | refine v_for ?_ | refine v_rse ?_ | refine v_try ?_ | refine v_pas ?_ | refine v_cnt ?_
  | ((with_reducible refine w_glb (x := ?_) ?_ ?_); rotate_left 1; exact rfl) | ((with_reducible refine v_augV (z := ?_) ?_ ?_); rotate_left 1; exact rfl))
local macro_rules | `(tactic| walk_at "op") => `(tactic| refine ⟨_, rfl, ?_⟩)
local macro_rules | `(tactic| walk_at "sz") => `(tactic| refine ⟨szl (by first | decide | simp), ?_⟩)
local macro_rules | `(tactic| walk_at "go") => `(tactic| repeat first | walk_at "ev" | walk_at "op" | walk_at "sz")
/-! ### any text: an item, or the place where it is wrong -/
def mx : List Nat → Nat
  | [] => 0
  | c :: u => if c = 40 then mx u + 1 else if c = 41 then mx u - 1 else mx u
theorem mx_o (u : List Nat) : mx (40 :: u) = mx u + 1 := rfl
theorem mx_c (u : List Nat) : mx u ≤ mx (41 :: u) + 1 := by
  show mx u ≤ mx u - 1 + 1
  omega
theorem mx_n {c : Nat} (u : List Nat) (h1 : c ≠ 40) (h2 : c ≠ 41) : mx (c :: u) = mx u := by
  rw [mx, if_neg h1, if_neg h2]
theorem mx_app (u : List Nat) : ∀ v : List Nat, (∀ c ∈ v, c ≠ 40 ∧ c ≠ 41) → mx (v ++ u) = mx u
  | [], _ => rfl
  | c :: v, h => by
    obtain ⟨h1, h2⟩ := h c List.mem_cons_self
    rw [List.cons_append, mx_n _ h1 h2, mx_app u v fun x hx => h x (List.mem_cons_of_mem _ hx)]
def NmG (s : Str) : Prop := (cl s).length ≤ 6 ∧ 0 < (cl s).length ∧ ∀ c ∈ cl s, c ∈ lets.cps.toList ∨ c ∈ figs.cps.toList
def HdG : Hd → Prop
  | .lt s => NmG s
  | _ => True
inductive GW : Nat → It → Prop
  | num {d k : Nat} : k < 100 → GW d (.num k)
  | lost {d : Nat} : GW d .lost
  | use {d : Nat} {s : Str} : NmG s → GW d (.use s)
  | grp {d : Nat} {h : Hd} {xs : List It} : HdG h → (∀ x ∈ xs, GW d x) → GW (d + 1) (.grp h xs)
theorem lf_no : ∀ c : Nat, (c ∈ lets.cps.toList ∨ c ∈ figs.cps.toList) → c ≠ 40 ∧ c ≠ 41 := by
  intro c h
  have h1 : ∀ c ∈ lets.cps.toList, c ≠ 40 ∧ c ≠ 41 := by decide +kernel
  have h2 : ∀ c ∈ figs.cps.toList, c ≠ 40 ∧ c ≠ 41 := by decide +kernel
  rcases h with h | h
  · exact h1 c h
  · exact h2 c h
theorem nm_G {w : Str} {c : Nat} {ls fs rest : List Nat} (e : cl w = (c :: ls) ++ fs) (hn : nmOk (c :: ls) fs rest) : NmG w := by
  obtain ⟨n1, n2, n3, n4⟩ := hn
  unfold NmG
  rw [e]
  refine ⟨?_, by simp, fun x hx => ?_⟩
  · match fs, n4 with
    | [], _ => simp at n2 ⊢; omega
    | [f], _ => simp at n2 ⊢; omega
    | [f, g], _ => simp at n2 ⊢; omega
  · rcases List.mem_append.mp hx with hx | hx
    · exact .inl (n1 x hx)
    · match fs, n4, hx with
      | [f], n4, hx => cases List.mem_singleton.mp hx; exact .inr (figs1_figs _ n4.1).1
      | [f, g], n4, hx =>
        simp only [List.mem_cons, List.not_mem_nil, or_false] at hx
        rcases hx with rfl | rfl
        · exact .inr (figs1_figs _ n4.1).1
        · exact .inr n4.2
theorem fits_GW {d : Nat} {it : It} {rest : List Nat} (h : Fits it rest) : GW d it := by
  cases it with
  | num k => exact .num h.1
  | lost => exact .lost
  | use w =>
    obtain ⟨c, ls, fs, e, hn⟩ := h
    exact .use (nm_G e hn)
  | grp _ _ => exact h.elim
theorem fits_no {it : It} {rest : List Nat} (h : Fits it rest) : ∀ c ∈ wl it, c ≠ 40 ∧ c ≠ 41 := by
  cases it with
  | num k =>
    intro c hc
    rcases num_form h.1 with ⟨a, e, f, _⟩ | ⟨a, b, e, f, _, g, _⟩
    · rw [e] at hc; cases List.mem_singleton.mp hc; exact lf_no _ (.inr f)
    · rw [e] at hc
      simp only [List.mem_cons, List.not_mem_nil, or_false] at hc
      rcases hc with rfl | rfl
      · exact lf_no _ (.inr f)
      · exact lf_no _ (.inr g)
  | lost => intro c hc; cases List.mem_singleton.mp hc; decide
  | use w =>
    obtain ⟨c, ls, fs, e, hn⟩ := h
    exact fun x hx => lf_no x ((nm_G e hn).2.2 x hx)
  | grp _ _ => exact h.elim
theorem gw_pos {d : Nat} {it : It} (h : GW d it) : 0 < (wl it).length := by
  cases h with
  | num hk => rcases num_form hk with ⟨c, e, _⟩ | ⟨c, d, e, _⟩ <;> rw [e] <;> simp
  | lost => simp [wl]
  | use hn => exact hn.2.1
  | @grp _ h xs _ _ =>
    cases h with
    | block => rw [wl]; simp
    | sum => rw [wl_head xs (by simp)]; simp [hdT]
    | prod => rw [wl_head xs (by simp)]; simp [hdT]
    | lt s => rw [wl_head xs (by simp)]; simp [hdT]
theorem rowsL_sep {d : Nat} : ∀ (xs : List It), (∀ x ∈ xs, GW d x ∧ ∀ own first, (rowsI own first x).length ≤ (wl x).length) → ∀ (path : List Nat) (i first : Nat), (rowsL path i first xs).length ≤ (sepL xs).length
  | [], _, _, _, _ => Nat.le_refl _
  | x :: xs, h, path, i, first => by
    have h1 := (h x List.mem_cons_self).2 (path ++ [i]) first
    have h2 := rowsL_sep xs (fun y hy => h y (List.mem_cons_of_mem _ hy)) path (i + 1) (first + (wl x).length + 1)
    rw [rowsL, sepL, List.length_append, List.length_cons, List.length_append]
    omega
theorem sep_le {h : Hd} {xs : List It} : (sepL xs).length + 1 ≤ (wl (.grp h xs)).length := by
  cases h with
  | block =>
    cases xs with
    | nil => rw [wl_block0]; simp [sepL]
    | cons x xs => rw [wl_block]; simp only [sepL, List.length_cons, List.length_append, List.length_nil]; omega
  | sum => rw [wl_head xs (by simp)]; simp only [hdT, List.length_cons, List.length_append, List.length_nil]; omega
  | prod => rw [wl_head xs (by simp)]; simp only [hdT, List.length_cons, List.length_append, List.length_nil]; omega
  | lt s => rw [wl_head xs (by simp)]; simp only [hdT, List.length_cons, List.length_append, List.length_nil]; omega
theorem rowsI_wl : ∀ (d : Nat) (it : It), GW d it → ∀ (own : List Nat) (first : Nat), (rowsI own first it).length ≤ (wl it).length := by
  intro d
  induction d with
  | zero =>
    intro it h own first
    have := gw_pos h
    cases h <;> (rw [rowsI]; simp only [List.length_cons, List.length_nil]; omega)
  | succ d ih =>
    intro it h own first
    have hp := gw_pos h
    cases h with
    | num _ => rw [rowsI]; simp only [List.length_cons, List.length_nil]; omega
    | lost => rw [rowsI]; simp only [List.length_cons, List.length_nil]; omega
    | use _ => rw [rowsI]; simp only [List.length_cons, List.length_nil]; omega
    | @grp _ h xs ho hx =>
      have h1 := rowsL_sep xs (fun x hm => ⟨hx x hm, ih x (hx x hm)⟩) own 0 (first + opn h)
      have h2 := sep_le (h := h) (xs := xs)
      rw [rowsI, List.length_cons]
      omega
section
variable {B : Mem} {tl : List Nat} {s : St}
/-- a group whose head is passed, its items gone over -/
theorem head_fin {h : Hd} {xs : List It} {rest : List Nat} {s2 : St} {k : Nat} (hh : h ≠ .block) (hl : tl.length ≤ 3000) (hd : tl.drop s.pos = wl (.grp h xs) ++ rest) (ho : opn h = (hdT h).length + 1)
    (e2 : s2 = { pos := s.pos + (hdT h).length, rows := s.rows ++ [⟨s.top.path ++ [s.top.many], s.pos, s.pos, kndH h, vluH h⟩], low := s.low ++ [{ s.top with many := s.top.many + 1 }], top := ⟨s.top.path ++ [s.top.many], some s.rows.length, 0⟩ }) (hg : Gos B tl k s2 (aftL s2 xs)) : ∃ k', Gos B tl k' s2 (aft s (.grp h xs)) := by
  have hw := wl_head xs hh
  have hd2 : tl.drop (s.pos + (hdT h).length) = sepL xs ++ (41 :: rest) := by
    rw [← List.drop_drop, hd, hw, List.append_assoc, List.drop_left, List.append_assoc]
    rfl
  have e3 : aftL s2 xs = kids s h xs (s.pos + (hdT h).length + (sepL xs).length) := by
    rw [e2]
    simp only [aftL, kids, ho, List.append_assoc, Nat.zero_add, Nat.add_assoc]
    rfl
  have hwl : (wl (.grp h xs)).length = (hdT h).length + (sepL xs).length + 1 := by
    rw [hw]
    simp only [List.length_append, List.length_cons, List.length_nil]
    omega
  have hc := kids_close (B := B) (s := s) (h := h) (xs := xs) (p := s.pos + (hdT h).length + (sepL xs).length) (rest := rest) hl (by rw [← List.drop_drop, hd2, List.drop_left]) (by omega)
  rw [e3] at hg
  exact ⟨_, hg.trans (.cons (by show s.pos + (hdT h).length + (sepL xs).length < s.pos + (wl (.grp h xs)).length; omega) hc .nil)⟩
theorem block_fin {x : It} {xs : List It} {rest : List Nat} {s1 : St} {k k2 : Nat} (hl : tl.length ≤ 3000) (hd : tl.drop s.pos = wl (.grp .block (x :: xs)) ++ rest) (hg : Gos B tl k s1 (aft (opened s) x)) (hg2 : Gos B tl k2 (aft (opened s) x) (aftL (aft (opened s) x) xs)) : ∃ k', Gos B tl k' s1 (aft s (.grp .block (x :: xs))) := by
  have hwb := wl_block x xs
  have hd1 : tl.drop (s.pos + 1) = wl x ++ (sepL xs ++ (41 :: rest)) := by
    rw [← List.drop_drop, hd, hwb]
    simp
  have hd2 : tl.drop (s.pos + 1 + (wl x).length) = sepL xs ++ (41 :: rest) := by
    rw [← List.drop_drop, hd1, List.drop_left]
  have e3 : aftL (aft (opened s) x) xs = kids s .block (x :: xs) (s.pos + 1 + (wl x).length + (sepL xs).length) := by
    simp only [aftL, aft, opened, kids, opn, rowsL, List.append_assoc, Nat.zero_add, List.length_cons, St.mk.injEq, Ope.mk.injEq, true_and]
    refine ⟨rfl, by omega⟩
  have hwl : (wl (.grp .block (x :: xs))).length = 1 + (wl x).length + (sepL xs).length + 1 := by
    rw [hwb]
    simp only [List.length_append, List.length_cons, List.length_nil]
    omega
  have hc := kids_close (B := B) (s := s) (h := .block) (xs := x :: xs) (p := s.pos + 1 + (wl x).length + (sepL xs).length) (rest := rest) hl (by rw [← List.drop_drop, hd2, List.drop_left]) (by omega)
  rw [e3] at hg2
  exact ⟨_, hg.trans (hg2.trans (.cons (by show s.pos + 1 + (wl x).length + (sepL xs).length < s.pos + (wl (.grp .block (x :: xs))).length; omega) hc .nil))⟩
end
def OKc (B : Mem) (tl : List Nat) (d : Nat) (s : St) (it : It) : Prop := ∃ k s1, s.pos < s1.pos ∧ (∀ n, Beg B tl (n + 2 * d + 4) s s1) ∧ Gos B tl k s1 (aft s it)
def FailG (B : Mem) (tl : List Nat) (s : St) (i : Nat) : Prop := ∃ k s2, Gos B tl k s s2 ∧ s2.pos ≤ tl.length ∧ GoX B tl s2 i
def Failc (B : Mem) (tl : List Nat) (d : Nat) (s : St) (i : Nat) : Prop := (∀ n, BegX B tl (n + 2 * d + 4) s i) ∨ ∃ s1, s.pos < s1.pos ∧ (∀ n, Beg B tl (n + 2 * d + 4) s s1) ∧ FailG B tl s1 i
theorem FailG.of {B : Mem} {tl : List Nat} {s s1 : St} {k i : Nat} (h : Gos B tl k s s1) (g : FailG B tl s1 i) : FailG B tl s i := by
  obtain ⟨k2, s2, h1, h2, h3⟩ := g
  exact ⟨_, s2, h.trans h1, h2, h3⟩
/-! single signs -/
theorem au_c {n : Nat} {k : Kd} {nd : Bool} {c : Nat} {u : List Nat} {p : Nat} {a' : Au} (hk : k ≠ .word) (h : stepB (A0 n k nd) k c = some a') : auR (A0 n k nd) (c :: u) p = auR a' u (p + 1) := by
  rw [auR, stepA_nw hk, h]
theorem au_x {n : Nat} {k : Kd} {nd : Bool} {c : Nat} {u : List Nat} {p : Nat} (hk : k ≠ .word) (h : stepB (A0 n k nd) k c = none) : auR (A0 n k nd) (c :: u) p = some p := by
  rw [auR, stepA_nw hk, h]
end P
end LawK67

set_option Elab.async false
set_option linter.all false
set_option maxRecDepth 100000
set_option maxHeartbeats 4000000
namespace LawK67
namespace P
open PySem L2 Mini
local macro_rules | `(tactic| walk_at "ev") => `(tactic| first
  | ((with_reducible refine w_var (x := ?_) ?_ ?_); rotate_left 1; exact rfl)
  | with_reducible first | refine w_con ?_ | refine w_bin ?_ | refine w_cmp ?_ | refine w_idx ?_ | refine w_blt ?_ | refine w_nil ?_ | refine w_cons ?_ | refine w_att ?_ | refine w_cal ?_ | refine w_neg ?_ | refine w_not ?_ | refine w_and ?_ | refine w_or ?_ | refine w_chn ?_ | refine w_ife ?_ | refine w_slc ?_ | refine w_isi ?_ | refine w_som ?_ | refine w_non ?_ | refine w_star ?_ | refine w_dsp ?_ | refine w_bmt ?_ | refine w_mth ?_ | refine w_new ?_ | refine w_tup ?_ | refine w_lst ?_ | refine w_nwl ?_ | refine w_ndd ?_ | refine w_seq ?_ | refine w_rng ?_ | refine w_tno ?_ | refine w_tso ?_
  | refine v_cons ?_ | refine v_nil ?_ | refine v_asg ?_ | refine v_asgT ?_ | refine v_asgP ?_ | refine v_ret ?_ | refine v_retN ?_ | refine v_exp ?_ | refine v_ite ?_ | refine v_sat ?_ | refine v_sub ?_ | refine v_augA ?_ | refine v_for ?_ | refine v_rse ?_ | refine v_try ?_ | refine v_pas ?_ | refine v_cnt ?_
  | ((with_reducible refine w_glb (x := ?_) ?_ ?_); rotate_left 1; exact rfl) | ((with_reducible refine v_augV (z := ?_) ?_ ?_); rotate_left 1; exact rfl))
local macro_rules | `(tactic| walk_at "op") => `(tactic| refine ⟨_, rfl, ?_⟩)
local macro_rules | `(tactic| walk_at "sz") => `(tactic| refine ⟨szl (by first | decide | simp), ?_⟩)
local macro_rules | `(tactic| walk_at "go") => `(tactic| repeat first | walk_at "ev" | walk_at "op" | walk_at "sz")
theorem in_facts : inS 40 beg1 = false ∧ inS 41 beg1 = false ∧ inS 43 beg1 = false ∧ inS 42 beg1 = false ∧ inS 32 beg1 = false ∧ inS 61 beg1 = false ∧ inS 43 pm = true ∧ inS 42 pm = true ∧ inS 40 pm = false ∧ inS 41 pm = false := by decide +kernel
theorem st_open {n : Nat} {k : Kd} {nd : Bool} (hk : k.bg = true) : stepB (A0 n k nd) k 40 = some (A0 (n + 1) .opn false) := by
  unfold stepB
  rw [if_neg (by rw [in_facts.1]; simp), if_pos (by simp [hk])]
theorem st_sum {n : Nat} {nd : Bool} : stepB (A0 n .opn nd) .opn 43 = some (A0 n .sign nd) := by
  unfold stepB
  rw [if_neg (by rw [in_facts.2.2.1]; simp), if_neg (by simp), if_pos (by rw [in_facts.2.2.2.2.2.2.1]; rfl)]
theorem st_prod {n : Nat} {nd : Bool} : stepB (A0 n .opn nd) .opn 42 = some (A0 n .sign nd) := by
  unfold stepB
  rw [if_neg (by rw [in_facts.2.2.2.1]; simp), if_neg (by simp), if_pos (by rw [in_facts.2.2.2.2.2.2.2.1]; rfl)]
theorem st_close {n : Nat} {k : Kd} {nd : Bool} (hk : k = .opn ∨ k = .after ∨ k = .sign) : stepB (A0 (n + 1) k nd) k 41 = some (A0 n .after false) := by
  have h1 := in_facts.2.1
  have h2 := in_facts.2.2.2.2.2.2.2.2.2
  unfold stepB
  rcases hk with rfl | rfl | rfl
  · rw [if_neg (by rw [h1]; simp), if_neg (by simp), if_neg (by rw [h2]; simp), if_pos (by simp)]
    rfl
  · rw [if_neg (by rw [h1]; simp), if_neg (by simp), if_neg (by simp), if_pos (by simp)]
    rfl
  · rw [if_neg (by rw [h1]; simp), if_neg (by simp), if_neg (by simp), if_pos (by simp)]
    rfl
theorem st_space {n : Nat} {k : Kd} {nd : Bool} (hk : k = .after ∨ k = .sign) : stepB (A0 n k nd) k 32 = some (A0 n (if (nd && decide (k = .after)) = true then .gap else .item) false) := by
  have h1 := in_facts.2.2.2.2.1
  unfold stepB
  rcases hk with rfl | rfl
  · rw [if_neg (by rw [h1]; simp), if_neg (by simp), if_neg (by simp), if_neg (by simp), if_pos (by simp)]
  · rw [if_neg (by rw [h1]; simp), if_neg (by simp), if_neg (by simp), if_neg (by simp), if_pos (by simp)]
theorem st_eq {n : Nat} {nd : Bool} : stepB (A0 n .gap nd) .gap 61 = some (A0 n .sign nd) := by
  unfold stepB
  rw [if_neg (by rw [in_facts.2.2.2.2.2.1]; simp), if_neg (by simp), if_pos (by simp)]
theorem st_bad1 {n : Nat} {k : Kd} {nd : Bool} {c : Nat} (hk : k.bg = true) (h1 : inS c beg1 = false) (h2 : c ≠ 40) (h3 : k = .opn → inS c pm = false ∧ c ≠ 41) (h4 : k = .gap → c ≠ 61) : stepB (A0 n k nd) k c = none := by
  unfold stepB
  rw [if_neg (by rw [h1]; simp), if_neg (by simp [h2])]
  cases k with
  | opn =>
    obtain ⟨g1, g2⟩ := h3 rfl
    rw [if_neg (by rw [g1]; simp), if_neg (by simp [g2]), if_neg (by simp)]
  | gap => rw [if_neg (by simp [h4 rfl]), if_neg (by simp), if_neg (by simp)]
  | start => rw [if_neg (by simp), if_neg (by simp), if_neg (by simp)]
  | item => rw [if_neg (by simp), if_neg (by simp), if_neg (by simp)]
  | word => cases hk
  | after => cases hk
  | sign => cases hk
theorem st_bad2 {n : Nat} {k : Kd} {nd : Bool} {c : Nat} (hk : k = .after ∨ k = .sign) (h1 : c ≠ 41) (h2 : c ≠ 32) : stepB (A0 n k nd) k c = none := by
  unfold stepB
  rcases hk with rfl | rfl
  · rw [if_neg (by simp [Kd.bg]), if_neg (by simp [Kd.bg]), if_neg (by simp), if_neg (by simp [h1]), if_neg (by simp [h2])]
  · rw [if_neg (by simp [Kd.bg]), if_neg (by simp [Kd.bg]), if_neg (by simp), if_neg (by simp [h1]), if_neg (by simp [h2])]
theorem beg_cases : ∀ c ∈ beg1.cps.toList, c ∈ figs.cps.toList ∨ c ∈ lets.cps.toList ∨ c = 63 := by decide +kernel
theorem bg_nw {k : Kd} (h : k.bg = true) : k ≠ .word := by rintro rfl; cases h
theorem as_nw {k : Kd} (h : k = .after ∨ k = .sign) : k ≠ .word := by rcases h with rfl | rfl <;> decide
theorem s40 : hdIn (40 :: []) figs = false ∧ hdIn (40 :: []) lets = false ∧ hdIn (40 :: []) "?" = false := by decide +kernel
theorem c63 {c : Nat} : inS c "?" = decide (c = 63) := by
  have e : ("?" : Str).cps.toList = [63] := by kernel_rfl
  unfold inS
  rw [e]
  simp
theorem c40 {c : Nat} : inS c "(" = decide (c = 40) := by
  have e : ("(" : Str).cps.toList = [40] := by kernel_rfl
  unfold inS
  rw [e]
  simp
theorem c41 {c : Nat} : inS c ")" = decide (c = 41) := by
  have e : (")" : Str).cps.toList = [41] := by kernel_rfl
  unfold inS
  rw [e]
  simp
theorem c32 {c : Nat} : inS c " " = decide (c = 32) := by
  have e : (" " : Str).cps.toList = [32] := by kernel_rfl
  unfold inS
  rw [e]
  simp
theorem c61 {c : Nat} : inS c "=" = decide (c = 61) := by
  have e : ("=" : Str).cps.toList = [61] := by kernel_rfl
  unfold inS
  rw [e]
  simp
theorem cpm {c : Nat} : inS c pm = (decide (c = 43) || decide (c = 42)) := by
  have e : (pm : Str).cps.toList = [43, 42] := by kernel_rfl
  unfold inS
  rw [e]
  simp
def ItemC (B : Mem) (tl : List Nat) (N : Nat) : Prop := ∀ (d : Nat) (u : List Nat) (s : St) (n : Nat) (k : Kd) (nd : Bool), u.length ≤ N → tl.drop s.pos = u → s.pos ≤ tl.length → mx u ≤ d → d ≤ 7 → s.rows.length ≤ s.pos → s.top.path.length + d ≤ 50 → s.low.length + d ≤ 50 → k.bg = true → (k = .start → u ≠ []) → (k = .opn → 0 < n ∧ hdIn u pm = false ∧ hdIn u ")" = false) → (k = .gap → hdIn u "=" = false) →
  (∃ it rest, u = wl it ++ rest ∧ GW d it ∧ mx rest ≤ d ∧ OKc B tl d s it ∧ auR (A0 n k nd) u s.pos = auR (A0 n .after (decide (k = .opn) && isUse it)) rest (s.pos + (wl it).length)) ∨ ∃ i, Failc B tl d s i ∧ auR (A0 n k nd) u s.pos = some i
def TailC (B : Mem) (tl : List Nat) (N : Nat) : Prop := ∀ (d : Nat) (u : List Nat) (s : St) (m : Nat) (k : Kd) (nd : Bool), u.length ≤ N → tl.drop s.pos = u → s.pos ≤ tl.length → mx u ≤ d → d ≤ 6 → s.rows.length ≤ s.pos → s.top.path.length + d ≤ 50 → s.low.length + d ≤ 50 → s.low ≠ [] → (k = .after ∨ k = .sign) → (k = .after → nd = true → u.take 2 ≠ [32, 61]) →
  (∃ xs rest, u = sepL xs ++ 41 :: rest ∧ (∀ x ∈ xs, GW d x) ∧ mx rest ≤ d + 1 ∧ (∃ k', Gos B tl k' s (aftL s xs)) ∧ auR (A0 (m + 1) k nd) u s.pos = auR (A0 m .after false) rest (s.pos + (sepL xs).length + 1)) ∨ ∃ i, FailG B tl s i ∧ auR (A0 (m + 1) k nd) u s.pos = some i
theorem aftL_nil (s : St) : aftL s [] = s := by simp [aftL, sepL, rowsL]
theorem aftL_cons (s : St) (x : It) (xs : List It) : aftL s (x :: xs) = aftL (aft { s with pos := s.pos + 1 } x) xs := by
  simp only [aftL, aft, sepL, rowsL, List.length_cons, List.length_append, List.append_assoc, St.mk.injEq, Ope.mk.injEq, true_and, and_true]
  refine ⟨by omega, by omega⟩
section
variable {B : Mem} {tl : List Nat}
theorem tail_nil (hl : tl.length ≤ 3000) (s : St) (m : Nat) (k : Kd) (nd : Bool) (hd : tl.drop s.pos = []) (hp : s.pos ≤ tl.length) (hlow : s.low ≠ []) : ∃ i, FailG B tl s i ∧ auR (A0 (m + 1) k nd) [] s.pos = some i :=
  ⟨s.pos, ⟨0, s, .nil, hp, goX_end hl hd hp hlow⟩, by rw [auR, if_pos (by simp)]⟩
theorem item_nil (hl : tl.length ≤ 3000) (d : Nat) (s : St) (n : Nat) (k : Kd) (nd : Bool) (hd : tl.drop s.pos = []) (hk : k.bg = true) (h1 : k = .start → ([] : List Nat) ≠ []) (h2 : k = .opn → 0 < n) : ∃ i, Failc B tl d s i ∧ auR (A0 n k nd) [] s.pos = some i := by
  refine ⟨s.pos, .inl fun n => begX_bad (n := n + 2 * d) hl (by rw [hd]; rfl) (by rw [hd]; rfl) (by rw [hd]; rfl) (by rw [hd]; rfl), ?_⟩
  rw [auR]
  refine if_pos ?_
  cases k with
  | start => exact absurd rfl (h1 rfl)
  | item => simp
  | gap => simp
  | opn => simp [h2 rfl]
  | word => cases hk
  | after => cases hk
  | sign => cases hk
theorem tail_step' (hl : tl.length ≤ 3000) {N : Nat} (hI : ItemC B tl N) (hT : TailC B tl N) : TailC B tl (N + 1) := by
  intro d u s m k nd hu hd hp hm hd6 hr hpath hlw hlow hk hne
  cases u with
  | nil => exact .inr (tail_nil hl s m k nd hd hp hlow)
  | cons c t =>
    simp only [List.length_cons] at hu
    have hlt := drop_lt hd
    have hd1 : tl.drop (s.pos + 1) = t := by rw [← List.drop_drop, hd]; rfl
    by_cases h41 : c = 41
    · subst h41
      refine .inl ⟨[], t, rfl, fun x hx => (nomatch hx), Nat.le_trans (mx_c t) (by omega), ⟨0, by rw [aftL_nil]; exact .nil⟩, ?_⟩
      rw [au_c (as_nw hk) (st_close (by rcases hk with h | h <;> simp [h]))]
      rfl
    · by_cases h32 : c = 32
      · subst h32
        have hmt : mx t ≤ d := by rw [← mx_n t (c := 32) (by decide) (by decide)]; exact hm
        have hau : auR (A0 (m + 1) k nd) (32 :: t) s.pos = auR (A0 (m + 1) (if (nd && decide (k = .after)) = true then .gap else .item) false) t (s.pos + 1) := au_c (as_nw hk) (st_space hk)
        have hkb : (if (nd && decide (k = .after)) = true then Kd.gap else .item).bg = true := by split <;> rfl
        have hks : (if (nd && decide (k = .after)) = true then Kd.gap else .item) ≠ .start := by split <;> decide
        have hko : (if (nd && decide (k = .after)) = true then Kd.gap else .item) ≠ .opn := by split <;> decide
        have hkg : (if (nd && decide (k = .after)) = true then Kd.gap else .item) = .gap → hdIn t "=" = false := by
          intro hg
          have hb : (nd && decide (k = .after)) = true := by
            by_cases hb : (nd && decide (k = .after)) = true
            · exact hb
            · rw [if_neg hb] at hg; cases hg
          simp only [Bool.and_eq_true, decide_eq_true_eq] at hb
          have := hne hb.2 hb.1
          cases t with
          | nil => rfl
          | cons x t =>
            rw [hdIn_in, c61]
            refine decide_eq_false fun hx => ?_
            subst hx
            exact this rfl
        generalize (if (nd && decide (k = .after)) = true then Kd.gap else .item) = k' at hau hkb hks hko hkg
        rcases hI d t { s with pos := s.pos + 1 } (m + 1) k' false (by omega) hd1 hlt hmt (by omega) (by show s.rows.length ≤ s.pos + 1; omega) hpath hlw hkb (fun z => absurd z hks) (fun z => absurd z hko) hkg with ⟨it, rest, e1, e2, e3, ⟨k1, s1, e4, e5, e6⟩, e7⟩ | ⟨i, e1, e2⟩
        · have hgo : Go B tl s s1 := go_item hl hd (Nat.lt_of_succ_lt e4) fun n => by
            have := e5 (n + 19 - 2 * d)
            rw [show n + 19 - 2 * d + 2 * d + 4 = n + 23 from by omega] at this
            exact this
          have hg1 : Gos B tl (k1 + 1) s (aft { s with pos := s.pos + 1 } it) := .cons (Nat.lt_of_succ_lt e4) hgo e6
          have hwp := gw_pos e2
          have hrw := rowsI_wl d it e2 (s.top.path ++ [s.top.many]) (s.pos + 1)
          have hlen : t.length = (wl it).length + rest.length := by rw [e1, List.length_append]
          have hd2 : tl.drop (s.pos + 1 + (wl it).length) = rest := by rw [← List.drop_drop, hd1, e1, List.drop_left]
          have hp2 : s.pos + 1 + (wl it).length ≤ tl.length := by
            have h0 : tl.length - (s.pos + 1) = t.length := by rw [← List.length_drop, hd1]
            omega
          rw [decide_eq_false hko, Bool.false_and] at e7
          rcases hT d rest (aft { s with pos := s.pos + 1 } it) m .after false (by omega) hd2 hp2 e3 hd6 (by show (s.rows ++ rowsI (s.top.path ++ [s.top.many]) (s.pos + 1) it).length ≤ s.pos + 1 + (wl it).length; rw [List.length_append]; omega) hpath hlw hlow (.inl rfl) (fun _ z => by cases z) with ⟨xs, rest', g1, g2, g3, ⟨k2, g4⟩, g5⟩ | ⟨i, g1, g2⟩
          · refine .inl ⟨it :: xs, rest', by rw [e1, g1]; simp [sepL], fun x hx => ?_, g3, ⟨_, by rw [aftL_cons]; exact hg1.trans g4⟩, ?_⟩
            · rcases List.mem_cons.mp hx with rfl | hx
              · exact e2
              · exact g2 x hx
            · rw [hau]
              show auR _ t ({ s with pos := s.pos + 1 } : St).pos = _
              rw [e7]
              show auR _ rest (aft { s with pos := s.pos + 1 } it).pos = _
              rw [g5]
              congr 1
              show s.pos + 1 + (wl it).length + (sepL xs).length + 1 = s.pos + (sepL (it :: xs)).length + 1
              simp only [sepL, List.length_cons, List.length_append]
              omega
          · refine .inr ⟨i, FailG.of hg1 g1, ?_⟩
            rw [hau]
            show auR _ t ({ s with pos := s.pos + 1 } : St).pos = _
            rw [e7]
            exact g2
        · refine .inr ⟨i, ?_, by rw [hau]; exact e2⟩
          rcases e1 with e1 | ⟨s1, f1, f2, f3⟩
          · exact ⟨0, s, .nil, hp, goX_item hl hd fun n => by
              have := e1 (n + 19 - 2 * d)
              rw [show n + 19 - 2 * d + 2 * d + 4 = n + 23 from by omega] at this
              exact this⟩
          · have hgo : Go B tl s s1 := go_item hl hd (Nat.lt_of_succ_lt f1) fun n => by
              have := f2 (n + 19 - 2 * d)
              rw [show n + 19 - 2 * d + 2 * d + 4 = n + 23 from by omega] at this
              exact this
            exact FailG.of (.cons (Nat.lt_of_succ_lt f1) hgo .nil) f3
      · exact .inr ⟨s.pos, ⟨0, s, .nil, hp, goX_char hl hd (by rw [c32]; exact decide_eq_false h32) (.inl (by rw [c41]; exact decide_eq_false h41))⟩, au_x (as_nw hk) (st_bad2 hk h41 h32)⟩
end
end P
end LawK67

set_option Elab.async false
set_option linter.all false
set_option maxRecDepth 100000
set_option maxHeartbeats 4000000
namespace LawK67
namespace P
open PySem L2 Mini
local macro_rules | `(tactic| walk_at "ev") => `(tactic| first
  | ((with_reducible refine w_var (x := ?_) ?_ ?_); rotate_left 1; exact rfl)
  | with_reducible first | refine w_con ?_ | refine w_bin ?_ | refine w_cmp ?_ | refine w_idx ?_ | refine w_blt ?_ | refine w_nil ?_ | refine w_cons ?_ | refine w_att ?_ | refine w_cal ?_ | refine w_neg ?_ | refine w_not ?_ | refine w_and ?_ | refine w_or ?_ | refine w_chn ?_ | refine w_ife ?_ | refine w_slc ?_ | refine w_isi ?_ | refine w_som ?_ | refine w_non ?_ | refine w_star ?_ | refine w_dsp ?_ | refine w_bmt ?_ | refine w_mth ?_ | refine w_new ?_ | refine w_tup ?_ | refine w_lst ?_ | refine w_nwl ?_ | refine w_ndd ?_ | refine w_seq ?_ | refine w_rng ?_ | refine w_tno ?_ | refine w_tso ?_
  | refine v_cons ?_ | refine v_nil ?_ | refine v_asg ?_ | refine v_asgT ?_ | refine v_asgP ?_ | refine v_ret ?_ | refine v_retN ?_ | refine v_exp ?_ | refine v_ite ?_ | refine v_sat ?_ | refine v_sub ?_ | refine v_augA ?_ | refine v_for ?_ | refine v_rse ?_ | refine v_try ?_ | refine v_pas ?_ | refine v_cnt ?_
  | ((with_reducible refine w_glb (x := ?_) ?_ ?_); rotate_left 1; exact rfl) | ((with_reducible refine v_augV (z := ?_) ?_ ?_); rotate_left 1; exact rfl))
local macro_rules | `(tactic| walk_at "op") => `(tactic| refine ⟨_, rfl, ?_⟩)
local macro_rules | `(tactic| walk_at "sz") => `(tactic| refine ⟨szl (by first | decide | simp), ?_⟩)
local macro_rules | `(tactic| walk_at "go") => `(tactic| repeat first | walk_at "ev" | walk_at "op" | walk_at "sz")
section
variable {B : Mem} {tl : List Nat}
theorem item_small (hl : tl.length ≤ 3000) {d : Nat} {u : List Nat} {s : St} {n : Nat} {k : Kd} {nd : Bool} {it : It} {rest : List Nat} (hd : tl.drop s.pos = u) (hm : mx u ≤ d) (hp : s.pos ≤ tl.length) (hr : s.rows.length ≤ s.pos) (hpath : s.top.path.length + d ≤ 50) (hk : k.bg = true) (e : u = wl it ++ rest) (hf : Fits it rest) : ∃ it rest, u = wl it ++ rest ∧ GW d it ∧ mx rest ≤ d ∧ OKc B tl d s it ∧ auR (A0 n k nd) u s.pos = auR (A0 n .after (decide (k = .opn) && isUse it)) rest (s.pos + (wl it).length) := by
  have hpos := fits_pos hf
  refine ⟨it, rest, e, fits_GW hf, ?_, ⟨0, aft s it, by show s.pos < s.pos + (wl it).length; omega, fun n => beg_smallG (n := n + 2 * d) hl (by omega) (by omega) hf (by rw [hd]; exact e), .nil⟩, ?_⟩
  · rw [e, mx_app rest (wl it) (fits_no hf)] at hm
    exact hm
  · rw [e]
    exact aw_small hk hf
theorem nouse {d : Nat} {it : It} {rest t : List Nat} (h : GW d it) (e : 40 :: t = wl it ++ rest) : isUse it = false := by
  cases h with
  | @use _ s hn =>
    obtain ⟨h1, h2, h3⟩ := hn
    have e : 40 :: t = cl s ++ rest := e
    generalize cl s = l at e h2 h3
    cases l with
    | nil => simp at h2
    | cons c l =>
      cases (List.cons.inj e).1
      exact absurd rfl (lf_no _ (h3 _ List.mem_cons_self)).1
  | _ => rfl
/-- a group whose head is passed: its items -/
theorem item_head (hl : tl.length ≤ 3000) {N d : Nat} {h : Hd} {r2 : List Nat} {s s2 : St} {n : Nat} {k : Kd} {nd : Bool} {u : List Nat} (hT : TailC B tl N) (hh : h ≠ .block) (hG : HdG h) (ho : opn h = (hdT h).length + 1) (hu : u = hdT h ++ r2) (hN : r2.length ≤ N) (hd : tl.drop s.pos = u) (hp : s.pos ≤ tl.length) (hm : mx r2 ≤ d) (hd6 : d ≤ 6) (hr : s.rows.length ≤ s.pos) (hpath : s.top.path.length + (d + 1) ≤ 50) (hlw : s.low.length + (d + 1) ≤ 50)
    (e2 : s2 = { pos := s.pos + (hdT h).length, rows := s.rows ++ [⟨s.top.path ++ [s.top.many], s.pos, s.pos, kndH h, vluH h⟩], low := s.low ++ [{ s.top with many := s.top.many + 1 }], top := ⟨s.top.path ++ [s.top.many], some s.rows.length, 0⟩ })
    (hb : ∀ n, Beg B tl (n + 2 * (d + 1) + 4) s s2) (hau : auR (A0 n k nd) u s.pos = auR (A0 (n + 1) .sign false) r2 (s.pos + (hdT h).length)) (h0 : 0 < (hdT h).length) :
    (∃ it rest, u = wl it ++ rest ∧ GW (d + 1) it ∧ mx rest ≤ d + 1 ∧ OKc B tl (d + 1) s it ∧ auR (A0 n k nd) u s.pos = auR (A0 n .after (decide (k = .opn) && isUse it)) rest (s.pos + (wl it).length)) ∨ ∃ i, Failc B tl (d + 1) s i ∧ auR (A0 n k nd) u s.pos = some i := by
  have hd2 : tl.drop (s.pos + (hdT h).length) = r2 := by rw [← List.drop_drop, hd, hu, List.drop_left]
  have hlen : tl.length - s.pos = u.length := by rw [← List.length_drop, hd]
  have hul : u.length = (hdT h).length + r2.length := by rw [hu, List.length_append]
  have p2 : s2.pos = s.pos + (hdT h).length := by rw [e2]
  have hpos : s.pos < s2.pos := by omega
  rcases hT d r2 s2 n .sign false hN (by rw [p2]; exact hd2) (by omega) hm hd6 (by rw [e2]; simp only [List.length_append, List.length_cons, List.length_nil]; omega) (by rw [e2]; simp only [List.length_append, List.length_cons, List.length_nil]; omega) (by rw [e2]; simp only [List.length_append, List.length_cons, List.length_nil]; omega) (by rw [e2]; simp) (.inr rfl) (fun z => by cases z) with ⟨xs, rest, g1, g2, g3, ⟨k2, g4⟩, g5⟩ | ⟨i, g1, g2⟩
  · have hwl := wl_head xs hh
    have eu : u = wl (.grp h xs) ++ rest := by rw [hu, g1, hwl]; simp
    obtain ⟨k3, g6⟩ := head_fin hh hl (by rw [hd]; exact eu) ho e2 g4
    refine .inl ⟨.grp h xs, rest, eu, .grp hG g2, g3, ⟨k3, s2, hpos, hb, g6⟩, ?_⟩
    rw [hau, ← p2, g5, show isUse (.grp h xs) = false from rfl, Bool.and_false]
    congr 1
    rw [p2, hwl]
    simp only [List.length_append, List.length_cons, List.length_nil]
    omega
  · exact .inr ⟨i, .inr ⟨s2, hpos, hb, g1⟩, by rw [hau, ← p2]; exact g2⟩
/-- a block whose first item is passed -/
theorem item_block (hl : tl.length ≤ 3000) {N d kx : Nat} {x : It} {r1 : List Nat} {s s1 : St} {n : Nat} {k : Kd} {nd : Bool} {u : List Nat} (hT : TailC B tl N) (hu : u = 40 :: (wl x ++ r1)) (hx : GW d x) (hN : r1.length ≤ N) (hd : tl.drop s.pos = u) (hp : s.pos ≤ tl.length) (hm : mx r1 ≤ d) (hd6 : d ≤ 6) (hr : s.rows.length ≤ s.pos) (hpath : s.top.path.length + (d + 1) ≤ 50) (hlw : s.low.length + (d + 1) ≤ 50)
    (hpos : s.pos < s1.pos) (hb : ∀ n, Beg B tl (n + 2 * (d + 1) + 4) s s1) (hg : Gos B tl kx s1 (aft (opened s) x)) (hne : isUse x = true → r1.take 2 ≠ [32, 61])
    (hau : auR (A0 n k nd) u s.pos = auR (A0 (n + 1) .after (isUse x)) r1 (s.pos + 1 + (wl x).length)) :
    (∃ it rest, u = wl it ++ rest ∧ GW (d + 1) it ∧ mx rest ≤ d + 1 ∧ OKc B tl (d + 1) s it ∧ auR (A0 n k nd) u s.pos = auR (A0 n .after (decide (k = .opn) && isUse it)) rest (s.pos + (wl it).length)) ∨ ∃ i, Failc B tl (d + 1) s i ∧ auR (A0 n k nd) u s.pos = some i := by
  have hd2 : tl.drop (s.pos + 1 + (wl x).length) = r1 := by rw [← List.drop_drop, ← List.drop_drop, hd, hu]; simp
  have hlen : tl.length - s.pos = u.length := by rw [← List.length_drop, hd]
  have hul : u.length = 1 + (wl x).length + r1.length := by rw [hu, List.length_cons, List.length_append]; omega
  have hrw := rowsI_wl d x hx (s.top.path ++ [s.top.many] ++ [0]) (s.pos + 1)
  rcases hT d r1 (aft (opened s) x) n .after (isUse x) hN hd2 (by show s.pos + 1 + (wl x).length ≤ tl.length; omega) hm hd6 (by show (s.rows ++ [_] ++ rowsI (s.top.path ++ [s.top.many] ++ [0]) (s.pos + 1) x).length ≤ s.pos + 1 + (wl x).length; rw [List.length_append, List.length_append]; simp only [List.length_cons, List.length_nil]; omega) (by show (s.top.path ++ [s.top.many]).length + d ≤ 50; rw [List.length_append]; simp only [List.length_cons, List.length_nil]; omega) (by show (s.low ++ [_]).length + d ≤ 50; rw [List.length_append]; simp only [List.length_cons, List.length_nil]; omega) (by show s.low ++ [_] ≠ []; simp) (.inl rfl) (fun _ z => hne z) with ⟨xs, rest, g1, g2, g3, ⟨k2, g4⟩, g5⟩ | ⟨i, g1, g2⟩
  · have hwl := wl_block x xs
    have eu : u = wl (.grp .block (x :: xs)) ++ rest := by rw [hu, g1, hwl]; simp
    obtain ⟨k3, g6⟩ := block_fin hl (by rw [hd]; exact eu) hg g4
    refine .inl ⟨.grp .block (x :: xs), rest, eu, .grp trivial (fun y hy => ?_), g3, ⟨k3, s1, hpos, hb, g6⟩, ?_⟩
    · rcases List.mem_cons.mp hy with rfl | hy
      · exact hx
      · exact g2 y hy
    · rw [hau]
      show auR _ r1 (aft (opened s) x).pos = _
      rw [g5, show isUse (.grp .block (x :: xs)) = false from rfl, Bool.and_false]
      congr 1
      rw [hwl]
      show s.pos + 1 + (wl x).length + (sepL xs).length + 1 = _
      simp only [List.length_append, List.length_cons, List.length_nil]
      omega
  · refine .inr ⟨i, .inr ⟨s1, hpos, hb, FailG.of hg g1⟩, ?_⟩
    rw [hau]
    exact g2
theorem item_step' (hl : tl.length ≤ 3000) (hTl : ∀ c ∈ tl, c < 1000) {N : Nat} (hI : ItemC B tl N) (hT : TailC B tl N) : ItemC B tl (N + 1) := by
  intro d u s n k nd hu hd hp hm hd7 hr hpath hlw hk h1 h2 h3
  cases u with
  | nil => exact .inr (item_nil hl d s n k nd hd hk h1 fun z => (h2 z).1)
  | cons c t =>
    simp only [List.length_cons] at hu
    by_cases cf : c ∈ figs.cps.toList
    · obtain ⟨k0, rest, e, hf⟩ := munch_num cf t
      exact .inl (item_small hl hd hm hp hr hpath hk e hf)
    by_cases cl' : c ∈ lets.cps.toList
    · obtain ⟨w, rest, e, hf⟩ := munch_name cl' t
      exact .inl (item_small hl hd hm hp hr hpath hk e hf)
    by_cases c63' : c = 63
    · subst c63'
      exact .inl (item_small (it := .lost) (rest := t) hl hd hm hp hr hpath hk rfl trivial)
    have hnf : hdIn (c :: t) figs = false := decide_eq_false cf
    have hnl : hdIn (c :: t) lets = false := decide_eq_false cl'
    have hnq : hdIn (c :: t) "?" = false := by rw [hdIn_in, c63]; exact decide_eq_false c63'
    by_cases c40' : c = 40
    · subst c40'
      rw [mx_o] at hm
      obtain ⟨d, rfl⟩ : ∃ e, d = e + 1 := ⟨d - 1, by omega⟩
      have hmt : mx t ≤ d := by omega
      have hlen : tl.length - s.pos = t.length + 1 := by rw [← List.length_drop, hd]; rfl
      have hd1 : tl.drop (opened s).pos = t := by rw [opened_pos, ← List.drop_drop, hd]; rfl
      have hau : auR (A0 n k nd) (40 :: t) s.pos = auR (A0 (n + 1) .opn false) t (s.pos + 1) := au_c (bg_nw hk) (st_open hk)
      have hro : (opened s).rows.length ≤ (opened s).pos := by show (s.rows ++ [_]).length ≤ s.pos + 1; rw [List.length_append]; simp only [List.length_cons, List.length_nil]; omega
      have hpo : (opened s).top.path.length + d ≤ 50 := by show (s.top.path ++ [s.top.many]).length + d ≤ 50; rw [List.length_append]; simp only [List.length_cons, List.length_nil]; omega
      have hlo : (opened s).low.length + d ≤ 50 := by show (s.low ++ [_]).length + d ≤ 50; rw [List.length_append]; simp only [List.length_cons, List.length_nil]; omega
      have hpp : (opened s).pos ≤ tl.length := by rw [opened_pos]; omega
      have hn : ∀ n, n + 2 * (d + 1) + 3 = n + 2 * d + 1 + 4 := fun n => by omega
      have failF : ∀ i, hdIn t pm = false → hdIn t ")" = false → (∀ n, BegFX B tl (n + 2 * d + 1 + 4) (opened s) i) → ∀ n, BegX B tl (n + 2 * (d + 1) + 4) s i := fun i a1 a2 hf n => begX_first (n := n + 2 * (d + 1)) hl (by omega) (by omega) (by omega) hd a1 a2 (by rw [hn]; exact hf n)
      have begF : ∀ (s1 : St) (c2 : Nat) (t2 : List Nat), t = c2 :: t2 → inS c2 pm = false → inS c2 ")" = false → s.pos < s1.pos → (∀ n, BegF B tl (n + 2 * d + 1 + 4) (opened s) s1) → ∀ n, Beg B tl (n + 2 * (d + 1) + 4) s s1 := fun s1 c2 t2 et a1 a2 a3 hf n => beg_first (n := n + 2 * (d + 1)) (c := c2) (t := t2) a1 a2 hl (by omega) (by omega) (by omega) (by rw [hd, et]) a3 (by rw [hn]; exact hf n)
      cases t with
      | nil =>
        refine .inr ⟨(opened s).pos, .inl (failF _ rfl rfl fun n => bfX hl (by rw [hd1]; rfl) (by rw [hd1]; rfl) (by rw [hd1]; rfl) (begX_bad (n := n + 2 * d) hl (by rw [hd1]; rfl) (by rw [hd1]; rfl) (by rw [hd1]; rfl) (by rw [hd1]; rfl))), ?_⟩
        rw [hau, auR, if_pos (by simp)]
        rfl
      | cons c2 t2 =>
        simp only [List.length_cons] at hu hlen
        by_cases c43 : c2 = 43
        · subst c43
          refine item_head hl (h := .sum) (r2 := t2) hT (by simp) trivial rfl rfl (by omega) hd hp (by rw [← mx_n t2 (c := 43) (by decide) (by decide)]; exact hmt) (by omega) hr hpath hlw rfl (fun n => beg_sign (n := n + 2 * (d + 1)) (c := 43) (kd := "sum") (by kernel_rfl) (fun M => sk_sum) hl (by omega) (by omega) (by omega) hd) ?_ (by decide)
          rw [hau, au_c (by decide) st_sum]
          rfl
        by_cases c42 : c2 = 42
        · subst c42
          refine item_head hl (h := .prod) (r2 := t2) hT (by simp) trivial rfl rfl (by omega) hd hp (by rw [← mx_n t2 (c := 42) (by decide) (by decide)]; exact hmt) (by omega) hr hpath hlw rfl (fun n => beg_sign (n := n + 2 * (d + 1)) (c := 42) (kd := "product") (by kernel_rfl) (fun M => sk_prd) hl (by omega) (by omega) (by omega) hd) ?_ (by decide)
          rw [hau, au_c (by decide) st_prod]
          rfl
        by_cases c41' : c2 = 41
        · subst c41'
          have hc := kids_close (B := B) (s := s) (h := .block) (xs := []) (p := s.pos + 1) (rest := t2) hl hd1 (by rw [wl_block0]; rfl)
          refine .inl ⟨.grp .block [], t2, rfl, .grp trivial (fun x hx => (nomatch hx)), Nat.le_trans (mx_c t2) (by omega), ⟨1, opened s, by rw [opened_pos]; omega, fun n => beg_empty (n := n + 2 * (d + 1)) hl (by omega) (by omega) (by omega) hd, .cons (by show s.pos + 1 < s.pos + (wl (.grp .block [])).length; rw [wl_block0]; simp) hc .nil⟩, ?_⟩
          rw [hau, au_c (by decide) (st_close (.inl rfl)), show isUse (.grp .block []) = false from rfl, Bool.and_false]
          rfl
        have hpm : inS c2 pm = false := by rw [cpm]; simp [c43, c42]
        have hcl : inS c2 ")" = false := by rw [c41]; exact decide_eq_false c41'
        have smallx : ∀ (x : It) (r1 : List Nat), c2 :: t2 = wl x ++ r1 → Fits x r1 → (∃ it rest, 40 :: c2 :: t2 = wl it ++ rest ∧ GW (d + 1) it ∧ mx rest ≤ d + 1 ∧ OKc B tl (d + 1) s it ∧ auR (A0 n k nd) (40 :: c2 :: t2) s.pos = auR (A0 n .after (decide (k = .opn) && isUse it)) rest (s.pos + (wl it).length)) ∨ ∃ i, Failc B tl (d + 1) s i ∧ auR (A0 n k nd) (40 :: c2 :: t2) s.pos = some i := by
          intro x r1 e hf
          have hwp := fits_pos hf
          have hle : t2.length + 1 = (wl x).length + r1.length := by
            have := congrArg List.length e
            rw [List.length_append, List.length_cons] at this
            exact this
          have hmr : mx r1 ≤ d := by
            rw [e, mx_app r1 (wl x) (fits_no hf)] at hmt
            exact hmt
          have haw : auR (A0 (n + 1) .opn false) (c2 :: t2) (s.pos + 1) = auR (A0 (n + 1) .after (isUse x)) r1 (s.pos + 1 + (wl x).length) := by
            rw [e]
            have := aw_small (n := n + 1) (k := .opn) (nd := false) (p := s.pos + 1) rfl hf
            rw [show (decide (Kd.opn = Kd.opn)) = true from rfl, Bool.true_and] at this
            exact this
          by_cases hlet : isUse x = true ∧ r1.take 2 = [32, 61]
          · obtain ⟨hux, hr1⟩ := hlet
            cases x with
            | use w =>
              obtain ⟨r2, rfl⟩ : ∃ r2, r1 = 32 :: 61 :: r2 := by
                match r1, hr1 with
                | a :: b :: r2, hr1 =>
                  simp only [List.take_succ_cons, List.take_zero, List.cons.injEq, and_true] at hr1
                  exact ⟨r2, by rw [hr1.1, hr1.2]⟩
                | [a], hr1 => simp at hr1
                | [], hr1 => simp at hr1
              obtain ⟨cc, ls, fs, ew, hn2⟩ := id hf
              have hbl : ∀ n, BegF B tl (n + 2 * d + 1 + 4) (opened s) { pos := s.pos + (hdT (.lt w)).length, rows := s.rows ++ [⟨s.top.path ++ [s.top.many], s.pos, s.pos, kndH (.lt w), vluH (.lt w)⟩], low := s.low ++ [{ s.top with many := s.top.many + 1 }], top := ⟨s.top.path ++ [s.top.many], some s.rows.length, 0⟩ } := by
                intro n
                have := bf_let (B := B) (n := n + 2 * d + 1) (s := opened s) (i := s.rows.length) (ro := ⟨s.top.path ++ [s.top.many], s.pos, s.pos, "block", .non⟩) (rest := r2) hl (by rw [opened_pos] at hro; omega) (by omega) hf (by rw [hd1]; exact e) rfl (by simp [opened])
                have e5 : ({ opened s with pos := (opened s).pos + (cl w).length + 2, rows := (opened s).rows.set s.rows.length { path := s.top.path ++ [s.top.many], first := s.pos, behind := s.pos, kind := "let", val := .str w }, top := { (opened s).top with many := 0 } } : St) = { pos := s.pos + (hdT (.lt w)).length, rows := s.rows ++ [⟨s.top.path ++ [s.top.many], s.pos, s.pos, kndH (.lt w), vluH (.lt w)⟩], low := s.low ++ [{ s.top with many := s.top.many + 1 }], top := ⟨s.top.path ++ [s.top.many], some s.rows.length, 0⟩ } := by
                  simp only [opened, hdT, List.set_append_right _ _ (Nat.le_refl _), Nat.sub_self, List.set_cons_zero, List.length_cons, List.length_append, List.length_nil, St.mk.injEq, and_true]
                  exact ⟨by omega, rfl⟩
                rw [e5] at this
                exact this
              have eu : 40 :: c2 :: t2 = hdT (.lt w) ++ r2 := by rw [e]; simp [hdT, wl]
              refine item_head hl (h := .lt w) (r2 := r2) hT (by simp) (nm_G ew hn2) (by simp [opn, hdT]) eu (by simp only [List.length_cons] at hle; omega) hd hp (by rw [← mx_n r2 (c := 61) (by decide) (by decide), ← mx_n (61 :: r2) (c := 32) (by decide) (by decide)]; exact hmr) (by omega) hr hpath hlw rfl (begF _ c2 t2 rfl hpm hcl (by show s.pos < s.pos + (hdT (.lt w)).length; simp [hdT]) hbl) ?_ (by simp [hdT])
              rw [hau, haw, hux, au_c (by decide) (st_space (.inl rfl))]
              rw [show (if (true && decide (Kd.after = Kd.after)) = true then Kd.gap else .item) = .gap from rfl, au_c (by decide) st_eq]
              congr 1
              simp only [hdT, wl, List.length_cons, List.length_append, List.length_nil]
              omega
            | _ => cases hux
          · have hne : isUse x = true → r1.take 2 ≠ [32, 61] := fun a b => hlet ⟨a, b⟩
            refine item_block hl (x := x) (r1 := r1) (kx := 0) (s1 := aft (opened s) x) hT (by rw [e]) (fits_GW hf) (by omega) hd hp hmr (by omega) hr hpath hlw (by show s.pos < s.pos + 1 + _; omega) (begF _ c2 t2 rfl hpm hcl (by show s.pos < s.pos + 1 + _; omega) fun n => bf_smallG hl hTl (by omega) (by omega) hf (by rw [hd1]; exact e) (by
              cases x with
              | use w => exact hne rfl
              | _ => trivial)) .nil hne ?_
            rw [hau]
            exact haw
        by_cases cf2 : c2 ∈ figs.cps.toList
        · obtain ⟨k0, r1, e, hf⟩ := munch_num cf2 t2
          exact smallx _ r1 e hf
        by_cases cl2 : c2 ∈ lets.cps.toList
        · obtain ⟨w, r1, e, hf⟩ := munch_name cl2 t2
          exact smallx _ r1 e hf
        by_cases c632 : c2 = 63
        · subst c632
          exact smallx .lost t2 rfl trivial
        have hnf2 : hdIn (tl.drop (opened s).pos) figs = false := by rw [hd1]; exact decide_eq_false cf2
        have hnl2 : hdIn (tl.drop (opened s).pos) lets = false := by rw [hd1]; exact decide_eq_false cl2
        have hnq2 : hdIn (tl.drop (opened s).pos) "?" = false := by rw [hd1, hdIn_in, c63]; exact decide_eq_false c632
        by_cases c402 : c2 = 40
        · subst c402
          rcases hI d (40 :: t2) (opened s) (n + 1) .opn false (by simp only [List.length_cons]; omega) hd1 hpp hmt (by omega) hro hpo hlo rfl (fun z => by cases z) (fun _ => ⟨by omega, hpm, hcl⟩) (fun z => by cases z) with ⟨it, r1, e1, e2, e3, ⟨k1, s1, e4, e5, e6⟩, e7⟩ | ⟨i, e1, e2⟩
          · have hnu := nouse e2 e1
            have hwp := gw_pos e2
            have hle : t2.length + 1 = (wl it).length + r1.length := by
              have := congrArg List.length e1
              rw [List.length_append, List.length_cons] at this
              exact this
            rw [opened_pos] at e4
            refine item_block hl (x := it) (r1 := r1) (kx := k1) (s1 := s1) hT (by rw [e1]) e2 (by omega) hd hp e3 (by omega) hr hpath hlw (by omega) (begF s1 40 t2 rfl hpm hcl (by omega) fun n => bf_grp hl hd1 (by rw [opened_pos]; omega) (by rw [show n + 2 * d + 1 + 3 = n + 2 * d + 4 from by omega]; exact e5 n)) e6 (fun z => by rw [hnu] at z; cases z) ?_
            rw [hau]
            rw [hnu, Bool.and_false] at e7
            rw [hnu]
            exact e7
          · refine .inr ⟨i, ?_, by rw [hau]; exact e2⟩
            rcases e1 with e1 | ⟨s1, f1, f2, f3⟩
            · exact .inl (failF i hpm hcl fun n => bfX hl hnf2 hnl2 hnq2 (by rw [show n + 2 * d + 1 + 3 = n + 2 * d + 4 from by omega]; exact e1 n))
            · rw [opened_pos] at f1
              exact .inr ⟨s1, by omega, begF s1 40 t2 rfl hpm hcl (by omega) fun n => bf_grp hl hd1 (by rw [opened_pos]; omega) (by rw [show n + 2 * d + 1 + 3 = n + 2 * d + 4 from by omega]; exact f2 n), f3⟩
        · have hb2 : inS c2 beg1 = false := by
            cases hq : inS c2 beg1 with
            | false => rfl
            | true =>
              rcases beg_cases c2 (of_decide_eq_true hq) with z | z | z
              · exact absurd z cf2
              · exact absurd z cl2
              · exact absurd z c632
          refine .inr ⟨(opened s).pos, .inl (failF _ hpm hcl fun n => bfX hl hnf2 hnl2 hnq2 (begX_bad (n := n + 2 * d) hl hnf2 hnl2 hnq2 (by rw [hd1, hdIn_in, c40]; exact decide_eq_false c402))), ?_⟩
          rw [hau, au_x (by decide) (st_bad1 rfl hb2 c402 (fun _ => ⟨hpm, c41'⟩) (fun z => by cases z))]
          rfl
    · have hb1 : inS c beg1 = false := by
        cases hq : inS c beg1 with
        | false => rfl
        | true =>
          rcases beg_cases c (of_decide_eq_true hq) with z | z | z
          · exact absurd z cf
          · exact absurd z cl'
          · exact absurd z c63'
      refine .inr ⟨s.pos, .inl fun n => begX_bad (n := n + 2 * d) hl (by rw [hd]; exact hnf) (by rw [hd]; exact hnl) (by rw [hd]; exact hnq) (by rw [hd, hdIn_in, c40]; exact decide_eq_false c40'), au_x (bg_nw hk) (st_bad1 hk hb1 c40' (fun z => ?_) fun z => ?_)⟩
      · obtain ⟨_, z1, z2⟩ := h2 z
        rw [hdIn_in] at z1 z2
        rw [c41] at z2
        exact ⟨z1, of_decide_eq_false z2⟩
      · have := h3 z
        rw [hdIn_in, c61] at this
        exact of_decide_eq_false this
theorem claims (hl : tl.length ≤ 3000) (hTl : ∀ c ∈ tl, c < 1000) : ∀ N : Nat, ItemC B tl N ∧ TailC B tl N
  | 0 => by
    refine ⟨fun d u s n k nd hu hd hp hm hd7 hr hpath hlw hk h1 h2 h3 => ?_, fun d u s m k nd hu hd hp hm hd6 hr hpath hlw hlow hk hne => ?_⟩
    · obtain rfl : u = [] := List.length_eq_zero_iff.mp (by omega)
      exact .inr (item_nil hl d s n k nd hd hk h1 fun z => (h2 z).1)
    · obtain rfl : u = [] := List.length_eq_zero_iff.mp (by omega)
      exact .inr (tail_nil hl s m k nd hd hp hlow)
  | N + 1 => by
    obtain ⟨hI, hT⟩ := claims hl hTl N
    exact ⟨item_step' hl hTl hI hT, tail_step' hl hI hT⟩
end
end P
end LawK67

set_option Elab.async false
set_option linter.all false
set_option maxRecDepth 100000
set_option maxHeartbeats 4000000
namespace LawK67
namespace P
open PySem L2 Mini
local macro_rules | `(tactic| walk_at "ev") => `(tactic| first
  | ((with_reducible refine w_var (x := ?_) ?_ ?_); rotate_left 1; exact rfl)
  | with_reducible first | refine w_con ?_ | refine w_bin ?_ | refine w_cmp ?_ | refine w_idx ?_ | refine w_blt ?_ | refine w_nil ?_ | refine w_cons ?_ | refine w_att ?_ | refine w_cal ?_ | refine w_neg ?_ | refine w_not ?_ | refine w_and ?_ | refine w_or ?_ | refine w_chn ?_ | refine w_ife ?_ | refine w_slc ?_ | refine w_isi ?_ | refine w_som ?_ | refine w_non ?_ | refine w_star ?_ | refine w_dsp ?_ | refine w_bmt ?_ | refine w_mth ?_ | refine w_new ?_ | refine w_tup ?_ | refine w_lst ?_ | refine w_nwl ?_ | refine w_ndd ?_ | refine w_seq ?_ | refine w_rng ?_ | refine w_tno ?_ | refine w_tso ?_
  | refine v_cons ?_ | refine v_nil ?_ | refine v_asg ?_ | refine v_asgT ?_ | refine v_asgP ?_ | refine v_ret ?_ | refine v_retN ?_ | refine v_exp ?_ | refine v_ite ?_ | refine v_sat ?_ | refine v_sub ?_ | refine v_augA ?_ | refine v_for ?_ | refine v_rse ?_ | refine v_try ?_ | refine v_pas ?_ | refine v_cnt ?_
  | ((with_reducible refine w_glb (x := ?_) ?_ ?_); rotate_left 1; exact rfl) | ((with_reducible refine v_augV (z := ?_) ?_ ?_); rotate_left 1; exact rfl))
local macro_rules | `(tactic| walk_at "op") => `(tactic| refine ⟨_, rfl, ?_⟩)
local macro_rules | `(tactic| walk_at "sz") => `(tactic| refine ⟨szl (by first | decide | simp), ?_⟩)
local macro_rules | `(tactic| walk_at "go") => `(tactic| repeat first | walk_at "ev" | walk_at "op" | walk_at "sz")
/-! ### whole texts -/
theorem st_bad3 {nd : Bool} {c : Nat} (h2 : c ≠ 32) : stepB (A0 0 .after nd) .after c = none := by
  unfold stepB
  rw [if_neg (by simp [Kd.bg]), if_neg (by simp [Kd.bg]), if_neg (by simp), if_neg (by simp), if_neg (by simp [h2])]
section
variable {B : Mem} {tl : List Nat}
theorem top_cl (hl : tl.length ≤ 3000) (hTl : ∀ c ∈ tl, c < 1000) : ∀ (N : Nat) (u : List Nat) (s : St), u.length ≤ N → tl.drop s.pos = u → s.pos ≤ tl.length → mx u ≤ 7 → s.rows.length ≤ s.pos → s.top.path = [] → s.low = [] →
    (∃ xs, u = sepL xs ∧ (∀ x ∈ xs, GW 7 x) ∧ (∃ k', Gos B tl k' s (aftL s xs)) ∧ auR (A0 0 .after false) u s.pos = none) ∨ ∃ i, FailG B tl s i ∧ auR (A0 0 .after false) u s.pos = some i := by
  intro N
  induction N with
  | zero =>
    intro u s hu hd hp hm hr hpath hlow
    obtain rfl : u = [] := List.length_eq_zero_iff.mp (by omega)
    exact .inl ⟨[], rfl, fun x hx => (nomatch hx), ⟨0, by rw [aftL_nil]; exact .nil⟩, rfl⟩
  | succ N ih =>
    intro u s hu hd hp hm hr hpath hlow
    cases u with
    | nil => exact .inl ⟨[], rfl, fun x hx => (nomatch hx), ⟨0, by rw [aftL_nil]; exact .nil⟩, rfl⟩
    | cons c t =>
      simp only [List.length_cons] at hu
      have hlt := drop_lt hd
      have hd1 : tl.drop (s.pos + 1) = t := by rw [← List.drop_drop, hd]; rfl
      by_cases h32 : c = 32
      · subst h32
        have hmt : mx t ≤ 7 := by rw [← mx_n t (c := 32) (by decide) (by decide)]; exact hm
        have hau : auR (A0 0 .after false) (32 :: t) s.pos = auR (A0 0 .item false) t (s.pos + 1) := au_c (by decide) (st_space (.inl rfl))
        rcases (claims (B := B) hl hTl t.length).1 7 t { s with pos := s.pos + 1 } 0 .item false (Nat.le_refl _) hd1 hlt hmt (Nat.le_refl _) (by show s.rows.length ≤ s.pos + 1; omega) (by show s.top.path.length + 7 ≤ 50; rw [hpath]; decide) (by show s.low.length + 7 ≤ 50; rw [hlow]; decide) rfl (fun z => by cases z) (fun z => by cases z) (fun z => by cases z) with ⟨it, rest, e1, e2, e3, ⟨k1, s1, e4, e5, e6⟩, e7⟩ | ⟨i, e1, e2⟩
        · have hgo : Go B tl s s1 := go_item hl hd (Nat.lt_of_succ_lt e4) fun n => by
            have := e5 (n + 5)
            rw [show n + 5 + 2 * 7 + 4 = n + 23 from by omega] at this
            exact this
          have hg1 : Gos B tl (k1 + 1) s (aft { s with pos := s.pos + 1 } it) := .cons (Nat.lt_of_succ_lt e4) hgo e6
          have hwp := gw_pos e2
          have hrw := rowsI_wl 7 it e2 (s.top.path ++ [s.top.many]) (s.pos + 1)
          have hlen : t.length = (wl it).length + rest.length := by rw [e1, List.length_append]
          have hd2 : tl.drop (s.pos + 1 + (wl it).length) = rest := by rw [← List.drop_drop, hd1, e1, List.drop_left]
          have hp2 : s.pos + 1 + (wl it).length ≤ tl.length := by
            have h0 : tl.length - (s.pos + 1) = t.length := by rw [← List.length_drop, hd1]
            omega
          rw [show (decide (Kd.item = Kd.opn) && isUse it) = false from rfl] at e7
          rcases ih rest (aft { s with pos := s.pos + 1 } it) (by omega) hd2 hp2 e3 (by show (s.rows ++ rowsI (s.top.path ++ [s.top.many]) (s.pos + 1) it).length ≤ s.pos + 1 + (wl it).length; rw [List.length_append]; omega) hpath hlow with ⟨xs, g1, g2, ⟨k2, g4⟩, g5⟩ | ⟨i, g1, g2⟩
          · refine .inl ⟨it :: xs, by rw [e1, g1]; simp [sepL], fun x hx => ?_, ⟨_, by rw [aftL_cons]; exact hg1.trans g4⟩, ?_⟩
            · rcases List.mem_cons.mp hx with rfl | hx
              · exact e2
              · exact g2 x hx
            · rw [hau]
              show auR _ t ({ s with pos := s.pos + 1 } : St).pos = _
              rw [e7]
              exact g5
          · refine .inr ⟨i, FailG.of hg1 g1, ?_⟩
            rw [hau]
            show auR _ t ({ s with pos := s.pos + 1 } : St).pos = _
            rw [e7]
            exact g2
        · refine .inr ⟨i, ?_, by rw [hau]; exact e2⟩
          rcases e1 with e1 | ⟨s1, f1, f2, f3⟩
          · exact ⟨0, s, .nil, hp, goX_item hl hd fun n => by
              have := e1 (n + 5)
              rw [show n + 5 + 2 * 7 + 4 = n + 23 from by omega] at this
              exact this⟩
          · have hgo : Go B tl s s1 := go_item hl hd (Nat.lt_of_succ_lt f1) fun n => by
              have := f2 (n + 5)
              rw [show n + 5 + 2 * 7 + 4 = n + 23 from by omega] at this
              exact this
            exact FailG.of (.cons (Nat.lt_of_succ_lt f1) hgo .nil) f3
      · exact .inr ⟨s.pos, ⟨0, s, .nil, hp, goX_char hl hd (by rw [c32]; exact decide_eq_false h32) (.inr hlow)⟩, au_x (by decide) (st_bad3 h32)⟩
theorem walkX_beg {rs ps : List Nat} {M : Mem} {n i : Nat} {Q : MV → Mem → Prop} (h : R B tl sta rs ps M) (hT : ∀ c ∈ tl, c < 1000) (hne : tl ≠ []) (hb : BegX B tl (n + 24) sta i) : Is (evF env0 (n + 25) ("TextWalk", some "walked_rows") [.ref B.length] M) Q (XE B i) := by
  refine w_body (d := c13) tb15 rfl ?_
  dsimp only [c13, Mini.start]
  refine v_cons (v_ite (w_cmp (a_text h rfl (w_con ⟨_, nil_ne hT, ⟨_, rfl, br_t (by rw [decide_eq_false hne]; rfl) ?_⟩⟩))))
  refine v_cons (v_exp (w_mth (w_var rfl ⟨_, mi_next h, by kernel_rfl, w_nil ?_⟩)))
  exact (hb _ _ _ _ h).mono (fun v M1 z => z) fun c x M1 hx => h.isx hx
theorem walkX_go {rs ps : List Nat} {M : Mem} {n i : Nat} {s1 : St} {Q : MV → Mem → Prop} (h : R B tl sta rs ps M) (hl : tl.length ≤ 3000) (hT : ∀ c ∈ tl, c < 1000) (hne : tl ≠ []) (hb : Beg B tl (n + 24) sta s1) (hf : FailG B tl s1 i) : Is (evF env0 (n + 25) ("TextWalk", some "walked_rows") [.ref B.length] M) Q (XE B i) := by
  obtain ⟨k, s2, hg, hp2, hX⟩ := hf
  have hk := hg.pos
  refine w_body (d := c13) tb15 rfl ?_
  dsimp only [c13, Mini.start]
  refine v_cons (v_ite (w_cmp (a_text h rfl (w_con ⟨_, nil_ne hT, ⟨_, rfl, br_t (by rw [decide_eq_false hne]; rfl) ?_⟩⟩))))
  refine v_cons (v_exp (w_mth (w_var rfl ⟨_, mi_next h, by kernel_rfl, w_nil ?_⟩)))
  refine hb _ _ _ _ _ h fun rs1 ps1 M1 h1 => ?_
  refine v_cons (v_asg (w_con (v_cons (v_whl ?_))))
  show Is (whlV _ _ 5000 _ _) _ _
  rw [show (5000 : Nat) = k + (4998 - k + 1 + 1) from by omega]
  refine loop_gos hg h1 fun rs2 ps2 M2 h2 => ?_
  refine whl_step (is_bit (w_var rfl ⟨_, rfl, br_t rfl ?_⟩))
  refine v_cons (v_asg (w_mth (w_var rfl ⟨_, mi_next h2, by kernel_rfl, w_nil ?_⟩)))
  exact (hX n _ _ _ _ h2).mono (fun v M3 z => z) fun c x M3 hx => h.isx hx
end
theorem bad_of {tl : List Nat} {i : Nat} {M : Mem} (h : ∀ (n : Nat) (Q : MV → Mem → Prop), Is (evF env0 (n + 25) ("TextWalk", some "walked_rows") [.ref M.length] (M0 M tl)) Q (XE M i)) : RowsBad M (.str (SX.S tl)) (i : Int) := by
  intro n Q E q
  refine rows_body ((h n _).mono (fun v M1 z => z) fun c x M1 hx => ?_)
  obtain ⟨rfl, rfl, h3, h4⟩ := hx
  rw [fin_frzX (u := .int (i : Int)) (by omega) h3 (frz_clean (by simp [clean]))]
  exact is_exn rfl q
/-- of any text: its items, or where it is wrong -/
theorem rows_any {tl : List Nat} (M : Mem) (hl : tl.length ≤ 3000) (hT : ∀ c ∈ tl, c < 1000) (hm : mx tl ≤ 7) : (∃ xs, tx xs = tl ∧ (∀ x ∈ xs, GW 7 x) ∧ (rowsL [] 0 0 xs).length ≤ 3000 ∧ RowsIs M tl xs ∧ auR au0 tl 0 = none) ∨ ∃ i : Nat, RowsBad M (.str (SX.S tl)) (i : Int) ∧ auR au0 tl 0 = some i := by
  by_cases hne : tl = []
  · subst hne
    exact .inl ⟨[], rfl, fun x hx => (nomatch hx), by simp [rowsL], fun n Q E q => rows_body (walked_nil R0 rfl (isf_rows R0 (fun r h => nomatch h) q)), rfl⟩
  · have h24 : ∀ n, n + 6 + 2 * 7 + 4 = n + 24 := fun n => by omega
    rcases (claims (B := M) hl hT tl.length).1 7 tl sta 0 .start false (Nat.le_refl _) rfl (Nat.zero_le _) hm (Nat.le_refl _) (Nat.le_refl _) (by decide) (by decide) rfl (fun _ => hne) (fun z => by cases z) (fun z => by cases z) with ⟨it, rest, e1, e2, e3, ⟨k1, s1, e4, e5, e6⟩, e7⟩ | ⟨i, e1, e2⟩
    · rw [show (decide (Kd.start = Kd.opn) && isUse it) = false from rfl] at e7
      have hwp := gw_pos e2
      have hrw := rowsI_wl 7 it e2 [0] 0
      have hlen : tl.length = (wl it).length + rest.length := by rw [e1, List.length_append]
      have hb : ∀ n, Beg M tl (n + 24) sta s1 := fun n => by
        have := e5 (n + 6)
        rw [h24] at this
        exact this
      have hd2 : tl.drop (aft sta it).pos = rest := by
        show tl.drop (0 + (wl it).length) = rest
        rw [Nat.zero_add, e1, List.drop_left]
      have hap : (aft sta it).pos = (wl it).length := by show 0 + (wl it).length = _; omega
      rcases top_cl (B := M) hl hT rest.length rest (aft sta it) (Nat.le_refl _) hd2 (by rw [hap]; omega) e3 (by rw [hap]; show ([] ++ rowsI [0] 0 it).length ≤ _; rw [List.nil_append]; exact hrw) rfl rfl with ⟨xs, g1, g2, ⟨k2, g4⟩, g5⟩ | ⟨i, g1, g2⟩
      · have hall : ∀ x ∈ it :: xs, GW 7 x := fun x hx => by
          rcases List.mem_cons.mp hx with rfl | hx
          · exact e2
          · exact g2 x hx
        have etx : tx (it :: xs) = tl := by rw [tx_cons, ← g1, ← e1]
        have hrl : (rowsL [] 0 0 (it :: xs)).length ≤ 3000 := by
          have := rowsL_sep xs (fun x hx => ⟨g2 x hx, rowsI_wl 7 x (g2 x hx)⟩) [] (0 + 1) (0 + (wl it).length + 1)
          have hsl : rest.length = (sepL xs).length := by rw [g1]
          rw [rowsL, List.length_append]
          have h9 : (rowsI ([] ++ [0]) 0 it).length ≤ (wl it).length := hrw
          omega
        refine .inl ⟨it :: xs, etx, hall, hrl, fun n Q E q => ?_, ?_⟩
        · have hgg := e6.trans g4
          have hk := hgg.pos
          have hpe : (aftL (aft sta it) xs).pos = tl.length := by
            show 0 + (wl it).length + (sepL xs).length = _
            rw [hlen, g1]
            omega
          refine rows_body (walked_ok R0 hl hT hne (k := k1 + k2) (by omega) (hb n) hgg hpe rfl fun rs' ps' M' h' => ?_)
          have hrows : (aftL (aft sta it) xs).rows = rowsL [] 0 0 (it :: xs) := by
            show [] ++ rowsI [0] 0 it ++ rowsL [] (0 + 1) (0 + (wl it).length + 1) xs = _
            rw [rowsL, List.nil_append]
            rfl
          refine isf_rows h' (fun r hr => ?_) ?_
          · rw [hrows] at hr
            exact rowsL_val _ _ _ _ _ r hr
          · rw [hrows]
            exact q
        · show auR (A0 0 .start false) tl sta.pos = none
          rw [e7]
          show auR _ rest (aft sta it).pos = none
          exact g5
      · refine .inr ⟨i, bad_of fun n Q => walkX_go R0 hl hT hne (hb n) (FailG.of e6 g1), ?_⟩
        show auR (A0 0 .start false) tl sta.pos = some i
        rw [e7]
        exact g2
    · refine .inr ⟨i, bad_of fun n Q => ?_, e2⟩
      rcases e1 with e1 | ⟨s1, f1, f2, f3⟩
      · exact walkX_beg R0 hT hne (by
          have := e1 (n + 6)
          rw [h24] at this
          exact this)
      · exact walkX_go R0 hl hT hne (by
          have := f2 (n + 6)
          rw [h24] at this
          exact this) f3
end P
end LawK67

set_option Elab.async false
set_option linter.all false
set_option maxRecDepth 100000
set_option maxHeartbeats 4000000
namespace LawK67
namespace P
open PySem L2 Mini
local macro_rules | `(tactic| walk_at "ev") => `(tactic| first
  | ((with_reducible refine w_var (x := ?_) ?_ ?_); rotate_left 1; exact rfl)
  | with_reducible first | refine w_con ?_ | refine w_bin ?_ | refine w_cmp ?_ | refine w_idx ?_ | refine w_blt ?_ | refine w_nil ?_ | refine w_cons ?_ | refine w_att ?_ | refine w_cal ?_ | refine w_neg ?_ | refine w_not ?_ | refine w_and ?_ | refine w_or ?_ | refine w_chn ?_ | refine w_ife ?_ | refine w_slc ?_ | refine w_isi ?_ | refine w_som ?_ | refine w_non ?_ | refine w_star ?_ | refine w_dsp ?_ | refine w_bmt ?_ | refine w_mth ?_ | refine w_new ?_ | refine w_tup ?_ | refine w_lst ?_ | refine w_nwl ?_ | refine w_ndd ?_ | refine w_seq ?_ | refine w_rng ?_ | refine w_tno ?_ | refine w_tso ?_
  | refine v_cons ?_ | refine v_nil ?_ | refine v_asg ?_ | refine v_asgT ?_ | refine v_asgP ?_ | refine v_ret ?_ | refine v_retN ?_ | refine v_exp ?_ | refine v_ite ?_ | refine v_sat ?_ | refine v_sub ?_ | refine v_augA ?_ | refine v_for ?_ | refine v_rse ?_ | refine v_try ?_ | refine v_pas ?_ | refine v_cnt ?_
  | ((with_reducible refine w_glb (x := ?_) ?_ ?_); rotate_left 1; exact rfl) | ((with_reducible refine v_augV (z := ?_) ?_ ?_); rotate_left 1; exact rfl))
local macro_rules | `(tactic| walk_at "op") => `(tactic| refine ⟨_, rfl, ?_⟩)
local macro_rules | `(tactic| walk_at "sz") => `(tactic| refine ⟨szl (by first | decide | simp), ?_⟩)
local macro_rules | `(tactic| walk_at "go") => `(tactic| repeat first | walk_at "ev" | walk_at "op" | walk_at "sz")
/-! ### words of any items -/
theorem rep_G {s : Str} (h : NmG s) : (reprText s).length ≤ 62 := by
  have h0 : ∀ c ∈ s.cps.toList, c < 16 ^ 8 := by
    intro c hc
    have : c < 1000 := by
      rcases h.2.2 c hc with z | z
      · exact (show ∀ c ∈ lets.cps.toList, c < 1000 by decide +kernel) c z
      · exact figs_lt c z
    exact Nat.lt_trans this (by decide)
  have h1 := StrLaws.reprText_len s h0
  have h2 : s.length = (cl s).length := by simp [Str.length]
  have := h.1
  omega
theorem mapO_someG {f : MV → Option Nat} : ∀ {xs : List It}, (∀ x ∈ xs, ∃ L, f (mv x) = some L ∧ L + 2 ≤ 100 * (wl x).length) → ∃ Ls, mapO f (mvs xs) = some Ls ∧ pileL Ls ≤ 100 * (sepL xs).length
  | [], _ => ⟨[], rfl, by simp [pileL]⟩
  | x :: xs, h => by
    obtain ⟨L, e, hb⟩ := h x List.mem_cons_self
    obtain ⟨Ls, e2, hb2⟩ := mapO_someG fun y hy => h y (List.mem_cons_of_mem _ hy)
    refine ⟨L :: Ls, by simp only [mvs, mapO, e, e2], ?_⟩
    simp only [pileL, List.map_cons, List.sum_cons, sepL, List.length_cons, List.length_append] at hb2 ⊢
    omega
theorem shw_G : ∀ (d m : Nat) (it : It), GW d it → 2 * d + 2 ≤ m → ∃ L, shw m (mv it) = some L ∧ L + 2 ≤ 100 * (wl it).length := by
  intro d
  obtain ⟨t1, t2, t3, t4, t5, t6, t7⟩ := tags_rep
  have small : ∀ (d m : Nat) (it : It), 2 ≤ m → (∀ h xs, it ≠ .grp h xs) → GW d it → ∃ L, shw m (mv it) = some L ∧ L + 2 ≤ 100 * (wl it).length := by
    intro d m it hm hn h
    have hp := gw_pos h
    obtain ⟨k, rfl⟩ : ∃ k, m = k + 2 := ⟨m - 2, by omega⟩
    cases h with
    | @num _ n h =>
      have hl := num_len h
      refine ⟨_, by
        simp only [mv, shw, mapO]
        rw [if_pos (Nat.lt_trans (lg (k := 7) (by omega) (by omega) (by decide)) (by decide))]
        rfl, ?_⟩
      have e : (Str.ofString (toString (n : Int))).length = (cl (Str.ofString (toString (n : Int)))).length := by simp [Str.length]
      simp only [pileL, List.map_cons, List.map_nil, List.sum_cons, List.sum_nil]
      omega
    | lost => exact ⟨_, rfl, by simp only [pileL, List.map_cons, List.map_nil, List.sum_cons, List.sum_nil]; omega⟩
    | use h =>
      have := rep_G h
      exact ⟨_, rfl, by simp only [pileL, List.map_cons, List.map_nil, List.sum_cons, List.sum_nil]; omega⟩
    | grp _ _ => exact absurd rfl (hn _ _)
  induction d with
  | zero =>
    intro m it h hm
    exact small 0 m it (by omega) (fun h2 xs z => by subst z; cases h) h
  | succ d ih =>
    intro m it h hm
    cases it with
    | num n => exact small (d + 1) m (.num n) (by omega) (fun _ _ z => by cases z) h
    | lost => exact small (d + 1) m .lost (by omega) (fun _ _ z => by cases z) h
    | use s => exact small (d + 1) m (.use s) (by omega) (fun _ _ z => by cases z) h
    | grp hd xs =>
      have hs := sep_le (h := hd) (xs := xs)
      cases h with
      | grp ho hw =>
        obtain ⟨k, rfl⟩ : ∃ k, m = k + 2 := ⟨m - 2, by omega⟩
        obtain ⟨Ls, e1, hb2⟩ := mapO_someG (f := shw k) (xs := xs) fun x hx => ih k x (hw x hx) (by omega)
        cases hd with
        | block =>
          refine ⟨_, by simp only [mv, shw, mapO, e1]; rfl, ?_⟩
          simp only [pileL, List.map_cons, List.map_nil, List.sum_cons, List.sum_nil] at hb2 ⊢
          omega
        | sum =>
          refine ⟨_, by simp only [mv, shw, mapO, e1]; rfl, ?_⟩
          simp only [pileL, List.map_cons, List.map_nil, List.sum_cons, List.sum_nil] at hb2 ⊢
          omega
        | prod =>
          refine ⟨_, by simp only [mv, shw, mapO, e1]; rfl, ?_⟩
          simp only [pileL, List.map_cons, List.map_nil, List.sum_cons, List.sum_nil] at hb2 ⊢
          omega
        | lt s =>
          have := rep_G (show NmG s from ho)
          refine ⟨_, by simp only [mv, shw, mapO, e1]; rfl, ?_⟩
          simp only [pileL, List.map_cons, List.map_nil, List.sum_cons, List.sum_nil] at hb2 ⊢
          omega
theorem sum_sep : ∀ xs : List It, ((wls xs).map fun p => p.length + 1).sum = (sepL xs).length
  | [] => rfl
  | x :: xs => by
    rw [wls, List.map_cons, List.sum_cons, sum_sep xs, sepL, List.length_cons, List.length_append]
    omega
theorem sep_mem : ∀ {xs : List It} {x : It}, x ∈ xs → (wl x).length ≤ (sepL xs).length
  | y :: xs, x, h => by
    rw [sepL, List.length_cons, List.length_append]
    rcases List.mem_cons.mp h with rfl | h
    · omega
    · have := sep_mem h; omega
theorem sep_cnt : ∀ xs : List It, xs.length ≤ (sepL xs).length
  | [] => Nat.le_refl _
  | x :: xs => by
    have := sep_cnt xs
    rw [sepL, List.length_cons, List.length_cons, List.length_append]
    omega
theorem wordG : ∀ (d n : Nat) (it : It), GW d it → d ≤ 7 → (wl it).length ≤ 3000 → Word (n + d + 1) it := by
  intro d
  induction d with
  | zero =>
    intro n it h hd hw
    cases h with
    | num h => exact word_num _ _ h
    | lost => exact word_lost _
    | use h => exact word_use _ _
  | succ d ih =>
    intro n it h hd hwl
    cases h with
    | num h => exact word_num _ _ h
    | lost => exact word_lost _
    | use h => exact word_use _ _
    | @grp _ h xs ho hw =>
      have hs0 := sep_le (h := h) (xs := xs)
      have hc : ∀ x ∈ xs, Word (n + d + 1) x := fun x hx => ih n x (hw x hx) (by omega) (by have := sep_mem hx; omega)
      have hcnt := sep_cnt xs
      have hs : ((wls xs).map fun p => p.length + 1).sum ≤ 10000 := by rw [sum_sep]; omega
      have hz : ∃ Ls, mapO (shw 16) (mvs xs) = some Ls ∧ pileL Ls ≤ 400000 := by
        obtain ⟨Ls, e1, hb⟩ := mapO_someG (f := shw 16) (xs := xs) fun x hx => shw_G d 16 x (hw x hx) (by omega)
        exact ⟨Ls, e1, by omega⟩
      cases h with
      | block => exact word_block _ xs hc (by omega) hs
      | sum => exact word_sum _ xs hc (by omega) hs hz
      | prod => exact word_prod _ xs hc (by omega) hs hz
      | lt s => exact word_let _ s ho.1 xs hc (by omega) hs
theorem textG (n : Nat) {xs : List It} {M : Mem} {E : Str → MV → Mem → Prop} (hw : ∀ x ∈ xs, GW 7 x) (hl : (sepL xs).length ≤ 3000) : Is (evF env0 (n + 9) ("_law_text", none) [.tup (mvs xs)] M) (fun v M' => v = .str (SX.S (tx xs)) ∧ M' = M) E := by
  have hcnt := sep_cnt xs
  have hw4 : (((wls xs).map SX.S).map MV.str).length ≤ 3000 := by rw [List.length_map, List.length_map, wls_map, List.length_map]; omega
  refine w_body (d := c25) rfl rfl ?_
  dsimp only [c25, Mini.start]
  refine v_cons (v_ret (w_bmt (w_con ⟨rfl, w_cons (w_lcp ?_)⟩)))
  walk_at "go"
  refine (words_ok xs fun x hx => lc_one (w_cal (w_cons (w_var rfl (w_nil ((wordG 7 n x (hw x hx) (by decide) (by have := sep_mem hx; omega) M _).imp fun v M' ⟨e, e1⟩ => ⟨by rw [e], e1⟩)))))).imp fun ys M1 ⟨e, e1⟩ => ?_
  subst e e1
  refine ⟨szl (Nat.le_trans hw4 (by decide)), w_nil (join_ok (by rw [sum_sep]; omega) ?_)⟩
  exact isf_same ⟨rfl, rfl⟩
/-! ### bent texts -/
theorem mx_lip {u v : List Nat} {e : Nat} (h : mx v ≤ mx u + e) : ∀ a : List Nat, mx (a ++ v) ≤ mx (a ++ u) + e
  | [] => h
  | c :: a => by
    have := mx_lip h a
    simp only [List.cons_append, mx]
    split
    · omega
    · split <;> omega
theorem mx_tail (c : Nat) (u : List Nat) : mx u ≤ mx (c :: u) + 1 := by
  simp only [mx]
  split
  · omega
  · split <;> omega
def sgs : List (List Nat) := [[40], [41], [32], [43], [42], [61], [97], [48], [55], [63], [122, 122, 122, 122], [65], [10], [32, 61], [120, 49, 48]]
theorem sgs_ok : ∀ g ∈ sgs, g.length ≤ 4 ∧ (∀ c ∈ g, c < 1000) := by decide
theorem sgs_mx {g : List Nat} (h : g ∈ sgs) (v : List Nat) : mx (g ++ v) ≤ mx v + 1 := by
  simp only [sgs, List.mem_cons, List.not_mem_nil, or_false] at h
  rcases h with rfl | rfl | rfl | rfl | rfl | rfl | rfl | rfl | rfl | rfl | rfl | rfl | rfl | rfl | rfl <;> simp [mx]
  omega
theorem bent_mx {tl g : List Nat} {a j : Nat} (hg : g = [] ∨ g ∈ sgs) (hj : j ≤ 1) : mx (tl.take a ++ g ++ tl.drop (a + j)) ≤ mx tl + 2 := by
  have h1 : mx (tl.drop (a + j)) ≤ mx (tl.drop a) + 1 := by
    rcases Nat.lt_or_ge 0 j with h | h
    · obtain rfl : j = 1 := by omega
      rw [← List.drop_drop]
      cases e : tl.drop a with
      | nil => simp [mx]
      | cons c u => exact mx_tail c u
    · obtain rfl : j = 0 := by omega
      rw [Nat.add_zero]
      omega
  have h2 : mx (g ++ tl.drop (a + j)) ≤ mx (tl.drop a) + 2 := by
    rcases hg with rfl | hg
    · rw [List.nil_append]; omega
    · have := sgs_mx hg (tl.drop (a + j)); omega
  have h3 := mx_lip h2 (tl.take a)
  rw [List.take_append_drop, ← List.append_assoc] at h3
  exact h3
theorem sg_mem {v : MV} (h : v ∈ ([.str "(", .str ")", .str " ", .str "+", .str "*", .str "=", .str "a", .str "0", .str "7", .str "?", .str "zzzz", .str "A", .str "\n", .str " =", .str "x10"] : List MV)) : ∃ g ∈ sgs, v = .str (SX.S g) := by
  have e : ([.str "(", .str ")", .str " ", .str "+", .str "*", .str "=", .str "a", .str "0", .str "7", .str "?", .str "zzzz", .str "A", .str "\n", .str " =", .str "x10"] : List MV) = sgs.map fun g => .str (SX.S g) := by kernel_rfl
  rw [e] at h
  obtain ⟨g, hg, rfl⟩ := List.mem_map.mp h
  exact ⟨g, hg, rfl⟩
theorem cut_pre (tl : List Nat) (b : Nat) : cutS (SX.S tl) none (some (b : Int)) = SX.S (tl.take b) := by
  have h := cut_S tl 0 b
  have e : cutS (SX.S tl) none (some (b : Int)) = cutS (SX.S tl) (some ((0 : Nat) : Int)) (some (b : Int)) := by
    unfold cutS
    rw [HT.sIx_none, HT.sIx_nat, HT.sIx_nat, Nat.zero_min]
  rw [e, h]
  simp
theorem cut_suf (tl : List Nat) (a : Nat) : cutS (SX.S tl) (some (a : Int)) none = SX.S (tl.drop a) := by
  have hl : (SX.S tl).length = tl.length := SX.S_len tl
  unfold cutS
  rw [HT.sIx_none, HT.sIx_nat, hl]
  show SX.S ((tl.drop (min a tl.length)).take (tl.length - min a tl.length)) = _
  congr 1
  rw [List.take_of_length_le (by rw [List.length_drop]; exact Nat.le_refl _)]
  by_cases h : a ≤ tl.length
  · rw [Nat.min_eq_left h]
  · rw [List.drop_eq_nil_of_le (by omega : tl.length ≤ min a tl.length), List.drop_eq_nil_of_le (by omega : tl.length ≤ a)]
end P
end LawK67

set_option Elab.async false
set_option linter.all false
set_option maxRecDepth 100000
set_option maxHeartbeats 4000000
namespace LawK67
namespace P
open PySem L2 Mini
local macro_rules | `(tactic| walk_at "ev") => `(tactic| first
  | ((with_reducible refine w_var (x := ?_) ?_ ?_); rotate_left 1; exact rfl)
  | with_reducible first | refine w_con ?_ | refine w_bin ?_ | refine w_cmp ?_ | refine w_idx ?_ | refine w_blt ?_ | refine w_nil ?_ | refine w_cons ?_ | refine w_att ?_ | refine w_cal ?_ | refine w_neg ?_ | refine w_not ?_ | refine w_and ?_ | refine w_or ?_ | refine w_chn ?_ | refine w_ife ?_ | refine w_slc ?_ | refine w_isi ?_ | refine w_som ?_ | refine w_non ?_ | refine w_star ?_ | refine w_dsp ?_ | refine w_bmt ?_ | refine w_mth ?_ | refine w_new ?_ | refine w_tup ?_ | refine w_lst ?_ | refine w_nwl ?_ | refine w_ndd ?_ | refine w_seq ?_ | refine w_rng ?_ | refine w_tno ?_ | refine w_tso ?_
  | refine v_cons ?_ | refine v_nil ?_ | refine v_asg ?_ | refine v_asgT ?_ | refine v_asgP ?_ | refine v_ret ?_ | refine v_retN ?_ | refine v_exp ?_ | refine v_ite ?_ | refine v_sat ?_ | refine v_sub ?_ | refine v_augA ?_ | refine v_for ?_ | refine v_rse ?_ | refine v_try ?_ | refine v_pas ?_ | refine v_cnt ?_
  | ((with_reducible refine w_glb (x := ?_) ?_ ?_); rotate_left 1; exact rfl) | ((with_reducible refine v_augV (z := ?_) ?_ ?_); rotate_left 1; exact rfl))
local macro_rules | `(tactic| walk_at "op") => `(tactic| refine ⟨_, rfl, ?_⟩)
local macro_rules | `(tactic| walk_at "sz") => `(tactic| refine ⟨szl (by first | decide | simp), ?_⟩)
local macro_rules | `(tactic| walk_at "go") => `(tactic| repeat first | walk_at "ev" | walk_at "op" | walk_at "sz")
theorem tb29 : env0.tab ("_law_bent", none) = some c29 := by kernel_rfl
theorem tb30 : env0.tab ("law", none) = some c30 := by kernel_rfl
theorem ne_int {M : Mem} {i j : Int} : cmpV .NotEq M (.int i) (.int j) = some (!(i == j)) := rfl
theorem slcP {M : Mem} {tl : List Nat} {b : Nat} {Q : MV → Prop} (h : tl.length ≤ 3000) (q : Q (.str (SX.S (tl.take b)))) : Op (slcV M (.str (SX.S tl)) none (some (b : Int))) Q := by
  refine ⟨_, ?_, q⟩
  have e : (SX.S tl).length = tl.length := SX.S_len tl
  simp only [slcV]
  rw [if_pos (by rw [e]; exact sz3 (by omega)), cut_pre]
theorem slcU {M : Mem} {tl : List Nat} {a : Nat} {Q : MV → Prop} (h : tl.length ≤ 3000) (q : Q (.str (SX.S (tl.drop a)))) : Op (slcV M (.str (SX.S tl)) (some (a : Int)) none) Q := by
  refine ⟨_, ?_, q⟩
  have e : (SX.S tl).length = tl.length := SX.S_len tl
  simp only [slcV]
  rw [if_pos (by rw [e]; exact sz3 (by omega)), cut_suf]
theorem bent_ok (n : Nat) {M : Mem} {p : Nat} {tl : List Nat} {E : Str → MV → Mem → Prop} (h : Good M p) (hl : tl.length ≤ 2900) (hT : ∀ c ∈ tl, c < 1000) : Is (evF env0 (n + 3) ("_law_bent", none) [.ref p, .str (SX.S tl)] M) (fun v M' => (∃ t', v = .str (SX.S t') ∧ t'.length ≤ tl.length + 4 ∧ (∀ c ∈ t', c < 1000) ∧ mx t' ≤ mx tl + 2) ∧ Good M' p ∧ M'.length = M.length) E := by
  refine w_body (d := c29) tb29 rfl ?_
  dsimp only [c29, Mini.start]
  refine v_cons (v_asgP (w_cons (w_cal (w_cons (w_var rfl (w_cons (w_bin (w_blt (w_cons (w_var rfl (w_nil (lenT (by omega) (w_con ⟨_, rfl, w_nil ?_⟩)))))))))))))
  refine (take_ok (n + 1) h (by omega) (by omega)).imp fun v M1 ⟨⟨r1, e1, a1, b1⟩, u1⟩ => ?_
  subst e1
  refine w_cons (w_cal (w_cons (w_var rfl (w_cons (w_con (w_nil ?_))))))
  refine (take_ok (n + 1) u1.1 (by decide) (by decide)).imp fun v M2 ⟨⟨w, e2, a2, b2⟩, u2⟩ => ?_
  subst e2
  refine w_nil ⟨_, rfl, ?_⟩
  refine v_cons (v_asg (w_cal (w_cons (w_var rfl (w_cons (w_lst (w_cons (w_con (w_cons (w_con (w_cons (w_con (w_cons (w_con (w_cons (w_con (w_cons (w_con (w_cons (w_con (w_cons (w_con (w_cons (w_con (w_cons (w_con (w_cons (w_con (w_cons (w_con (w_cons (w_con (w_cons (w_con (w_cons (w_con (w_nil ⟨szl (by simp), w_nil ?_⟩)))))))))))))))))))))))))))))))))))))
  refine (one_ok n u2.1 (by simp) (by simp)).imp fun v M3 ⟨hv, u3⟩ => ?_
  obtain ⟨g, hg, rfl⟩ := sg_mem hv
  obtain ⟨g1, g2⟩ := sgs_ok g hg
  obtain ⟨a, rfl⟩ := Int.eq_ofNat_of_zero_le a1
  have hlen : M3.length = M.length := by rw [u3.len, u2.len, u1.len]
  have fin1 : ∀ (g' : List Nat) (j : Nat), (g' = [] ∨ g' ∈ sgs) → j ≤ 1 → Is (fin false M (.ok (.str (SX.S (tl.take a ++ g' ++ tl.drop (a + j)))) M3)) (fun v M' => (∃ t', v = .str (SX.S t') ∧ t'.length ≤ tl.length + 4 ∧ (∀ c ∈ t', c < 1000) ∧ mx t' ≤ mx tl + 2) ∧ Good M' p ∧ M'.length = M.length) E := by
    intro g' j hg' hj
    have hgl : g'.length ≤ 4 ∧ ∀ c ∈ g', c < 1000 := by
      rcases hg' with rfl | hg'
      · exact ⟨by simp, fun c hc => (nomatch hc)⟩
      · exact sgs_ok g' hg'
    refine isf_len hlen ⟨⟨_, rfl, ?_, fun c hc => ?_, bent_mx hg' hj⟩, u3.1, hlen⟩
    · rw [List.length_append, List.length_append, List.length_take, List.length_drop]
      have := hgl.1
      omega
    · rcases List.mem_append.mp hc with hc | hc
      · rcases List.mem_append.mp hc with hc | hc
        · exact hT c (List.mem_of_mem_take hc)
        · exact hgl.2 c hc
      · exact hT c (List.mem_of_mem_drop hc)
  have hlt : (tl.take a).length ≤ 2900 := by rw [List.length_take]; omega
  have hld : ∀ j, (tl.drop j).length ≤ 2900 := fun j => by rw [List.length_drop]; omega
  refine v_cons (v_ret (w_bin (w_bin (w_slc (w_var rfl (w_non (w_som (w_var rfl ⟨_, rfl, slcP (by omega) ?_⟩))))))))
  have hw : w = 0 ∨ w = 1 ∨ w = 2 := by omega
  rcases hw with rfl | rfl | rfl
  · refine w_ife (w_cmp (w_var rfl (w_con ⟨true, ne_int, ⟨_, rfl, br_t rfl (w_var rfl (add_ok (by rw [SX.S_len, SX.S_len]; omega) ?_))⟩⟩)))
    rw [SX.S_cat]
    refine w_slc (w_var rfl (w_som (w_bin (w_var rfl (w_blt (w_cons (w_cmp (w_var rfl (w_con ⟨_, rfl, w_nil ⟨_, rfl, ⟨_, rfl, ⟨_, rfl, w_non ?_⟩⟩⟩⟩)))))))))
    refine slcU (a := a + 0) (by omega) (add_ok (by rw [SX.S_len, SX.S_len, List.length_append]; have := hld (a + 0); omega) ?_)
    rw [SX.S_cat]
    exact fin1 g 0 (.inr hg) (by decide)
  · refine w_ife (w_cmp (w_var rfl (w_con ⟨false, ne_int, ⟨_, rfl, br_f rfl (w_con ?_)⟩⟩)))
    rw [show ("" : Str) = SX.S [] from by kernel_rfl]
    refine add_ok (by rw [SX.S_len, SX.S_len]; simp only [List.length_nil]; omega) ?_
    rw [SX.S_cat]
    refine w_slc (w_var rfl (w_som (w_bin (w_var rfl (w_blt (w_cons (w_cmp (w_var rfl (w_con ⟨_, rfl, w_nil ⟨_, rfl, ⟨_, rfl, ⟨_, rfl, w_non ?_⟩⟩⟩⟩)))))))))
    refine slcU (a := a + 1) (by omega) (add_ok (by rw [SX.S_len, SX.S_len, List.length_append]; have := hld (a + 1); simp only [List.length_nil]; omega) ?_)
    rw [SX.S_cat]
    exact fin1 [] 1 (.inl rfl) (by decide)
  · refine w_ife (w_cmp (w_var rfl (w_con ⟨true, ne_int, ⟨_, rfl, br_t rfl (w_var rfl (add_ok (by rw [SX.S_len, SX.S_len]; omega) ?_))⟩⟩)))
    rw [SX.S_cat]
    refine w_slc (w_var rfl (w_som (w_bin (w_var rfl (w_blt (w_cons (w_cmp (w_var rfl (w_con ⟨_, rfl, w_nil ⟨_, rfl, ⟨_, rfl, ⟨_, rfl, w_non ?_⟩⟩⟩⟩)))))))))
    refine slcU (a := a + 1) (by omega) (add_ok (by rw [SX.S_len, SX.S_len, List.length_append]; have := hld (a + 1); omega) ?_)
    rw [SX.S_cat]
    exact fin1 g 1 (.inr hg) (by decide)
end P
end LawK67

set_option Elab.async false
set_option linter.all false
set_option maxRecDepth 100000
set_option maxHeartbeats 4000000
namespace LawK67
namespace P
open PySem L2 Mini
local macro_rules | `(tactic| walk_at "ev") => `(tactic| first
  | ((with_reducible refine w_var (x := ?_) ?_ ?_); rotate_left 1; exact rfl)
  | with_reducible first | refine w_con ?_ | refine w_bin ?_ | refine w_cmp ?_ | refine w_idx ?_ | refine w_blt ?_ | refine w_nil ?_ | refine w_cons ?_ | refine w_att ?_ | refine w_cal ?_ | refine w_neg ?_ | refine w_not ?_ | refine w_and ?_ | refine w_or ?_ | refine w_chn ?_ | refine w_ife ?_ | refine w_slc ?_ | refine w_isi ?_ | refine w_som ?_ | refine w_non ?_ | refine w_star ?_ | refine w_dsp ?_ | refine w_bmt ?_ | refine w_mth ?_ | refine w_new ?_ | refine w_tup ?_ | refine w_lst ?_ | refine w_nwl ?_ | refine w_ndd ?_ | refine w_seq ?_ | refine w_rng ?_ | refine w_tno ?_ | refine w_tso ?_
  | refine v_cons ?_ | refine v_nil ?_ | refine v_asg ?_ | refine v_asgT ?_ | refine v_asgP ?_ | refine v_ret ?_ | refine v_retN ?_ | refine v_exp ?_ | refine v_ite ?_ | refine v_sat ?_ | refine v_sub ?_ | refine v_augA ?_ | refine v_for ?_ | refine v_rse ?_ | refine v_try ?_ | refine v_pas ?_ | refine v_cnt ?_
  | ((with_reducible refine w_glb (x := ?_) ?_ ?_); rotate_left 1; exact rfl) | ((with_reducible refine v_augV (z := ?_) ?_ ?_); rotate_left 1; exact rfl))
local macro_rules | `(tactic| walk_at "op") => `(tactic| refine ⟨_, rfl, ?_⟩)
local macro_rules | `(tactic| walk_at "sz") => `(tactic| refine ⟨szl (by first | decide | simp), ?_⟩)
local macro_rules | `(tactic| walk_at "go") => `(tactic| repeat first | walk_at "ev" | walk_at "op" | walk_at "sz")
/-! ### the law -/
theorem nm_NmG : ∀ s ∈ nm, NmG s := by
  have : ∀ s ∈ nm, (cl s).length ≤ 6 ∧ 0 < (cl s).length ∧ ∀ c ∈ cl s, c ∈ lets.cps.toList ∨ c ∈ figs.cps.toList := by decide +kernel
  exact this
theorem wf_gw : ∀ (d : Nat) (it : It), Wf d it → GW d it := by
  intro d
  induction d with
  | zero =>
    intro it h
    cases h with
    | num h => exact .num h
    | lost => exact .lost
    | use h => exact .use (nm_NmG _ h)
  | succ d ih =>
    intro it h
    cases h with
    | num h => exact .num h
    | lost => exact .lost
    | use h => exact .use (nm_NmG _ h)
    | @grp _ h xs ho hl hw =>
      refine .grp ?_ fun x hx => ih x (hw x hx)
      cases h with
      | lt s => exact nm_NmG s ho
      | _ => trivial
theorem gw_up : ∀ (d : Nat) (it : It), GW d it → ∀ e, d ≤ e → GW e it := by
  intro d
  induction d with
  | zero =>
    intro it h e _
    cases h with
    | num h => exact .num h
    | lost => exact .lost
    | use h => exact .use h
  | succ d ih =>
    intro it h e he
    cases h with
    | num h => exact .num h
    | lost => exact .lost
    | use h => exact .use h
    | grp ho hw =>
      obtain ⟨e', rfl⟩ : ∃ e', e = e' + 1 := ⟨e - 1, by omega⟩
      exact .grp ho fun x hx => ih x (hw x hx) e' (by omega)
theorem hgtL_le {d : Nat} : ∀ xs : List It, (∀ x ∈ xs, hgt x ≤ d) → hgtL xs ≤ d
  | [], _ => Nat.zero_le _
  | x :: xs, h => by
    have h1 := h x List.mem_cons_self
    have h2 := hgtL_le xs fun y hy => h y (List.mem_cons_of_mem _ hy)
    rw [hgtL]
    omega
theorem hgt_le : ∀ (d : Nat) (it : It), GW d it → hgt it ≤ d := by
  intro d
  induction d with
  | zero =>
    intro it h
    cases h <;> exact Nat.le_refl _
  | succ d ih =>
    intro it h
    cases h with
    | num _ => exact Nat.zero_le _
    | lost => exact Nat.zero_le _
    | use _ => exact Nat.zero_le _
    | grp ho hw =>
      have := hgtL_le _ fun x hx => ih x (hw x hx)
      rw [hgt]
      omega
theorem mx_sep {d : Nat} : ∀ (xs : List It) (u : List Nat), (∀ x ∈ xs, ∀ v, mx (wl x ++ v) ≤ max d (mx v)) → mx (sepL xs ++ u) ≤ max d (mx u)
  | [], u, _ => Nat.le_max_right _ _
  | x :: xs, u, h => by
    have h1 := h x List.mem_cons_self (sepL xs ++ u)
    have h2 := mx_sep xs u fun y hy => h y (List.mem_cons_of_mem _ hy)
    rw [sepL, List.cons_append, mx_n _ (by decide) (by decide), List.append_assoc]
    omega
theorem mx_gw : ∀ (d : Nat) (it : It), GW d it → ∀ u, mx (wl it ++ u) ≤ max d (mx u) := by
  have small : ∀ (it : It) (d : Nat), (∀ c ∈ wl it, c ≠ 40 ∧ c ≠ 41) → ∀ u, mx (wl it ++ u) ≤ max d (mx u) := fun it d h u => by
    rw [mx_app u (wl it) h]
    exact Nat.le_max_right _ _
  have hnum : ∀ k, k < 100 → ∀ c ∈ wl (.num k), c ≠ 40 ∧ c ≠ 41 := fun k hk => fits_no (it := .num k) (rest := []) ⟨hk, fun _ _ _ => rfl⟩
  have huse : ∀ s, NmG s → ∀ c ∈ wl (.use s), c ≠ 40 ∧ c ≠ 41 := fun s hs c hc => lf_no c (hs.2.2 c hc)
  intro d
  induction d with
  | zero =>
    intro it h
    cases h with
    | num h => exact small _ _ (hnum _ h)
    | lost => exact small _ _ (by decide)
    | use h => exact small _ _ (huse _ h)
  | succ d ih =>
    intro it h u
    cases h with
    | num h => exact small _ _ (hnum _ h) u
    | lost => exact small _ _ (by decide) u
    | use h => exact small _ _ (huse _ h) u
    | @grp _ h xs ho hw =>
      have hc : mx (41 :: u) = mx u - 1 := rfl
      have hs := mx_sep (d := d) xs (41 :: u) fun x hx => ih x (hw x hx)
      rw [hc] at hs
      cases h with
      | block =>
        cases xs with
        | nil =>
          rw [wl_block0]
          show mx (40 :: 41 :: u) ≤ _
          rw [mx_o, hc]
          omega
        | cons x xs =>
          have hs2 : mx (wl x ++ (sepL xs ++ 41 :: u)) ≤ max d (mx u - 1) := by
            rw [sepL, List.cons_append, mx_n _ (by decide) (by decide), List.append_assoc] at hs
            exact hs
          rw [wl_block, show (40 :: (wl x ++ (sepL xs ++ [41]))) ++ u = 40 :: (wl x ++ (sepL xs ++ 41 :: u)) from by simp, mx_o]
          omega
      | sum =>
        rw [wl_head xs (by simp), show hdT .sum ++ (sepL xs ++ [41]) ++ u = 40 :: 43 :: (sepL xs ++ 41 :: u) from by simp [hdT], mx_o, mx_n _ (by decide) (by decide)]
        omega
      | prod =>
        rw [wl_head xs (by simp), show hdT .prod ++ (sepL xs ++ [41]) ++ u = 40 :: 42 :: (sepL xs ++ 41 :: u) from by simp [hdT], mx_o, mx_n _ (by decide) (by decide)]
        omega
      | lt s =>
        rw [wl_head xs (by simp), show hdT (.lt s) ++ (sepL xs ++ [41]) ++ u = 40 :: (cl s ++ (32 :: 61 :: (sepL xs ++ 41 :: u))) from by simp [hdT], mx_o, mx_app _ (cl s) (huse s ho), mx_n _ (by decide) (by decide), mx_n _ (by decide) (by decide)]
        omega
theorem mx_tx {xs : List It} (hw : ∀ x ∈ xs, Wf 3 x) : mx (tx xs) ≤ 3 := by
  cases xs with
  | nil => exact Nat.zero_le _
  | cons x xs =>
    have h1 := mx_gw 3 x (wf_gw 3 x (hw x List.mem_cons_self)) (sepL xs ++ [])
    have h2 := mx_sep (d := 3) xs [] fun y hy => mx_gw 3 y (wf_gw 3 y (hw y (List.mem_cons_of_mem _ hy)))
    rw [List.append_nil] at h1 h2
    rw [tx_cons]
    have h3 : mx ([] : List Nat) = 0 := rfl
    omega
theorem tag_ok : PyData.strOk "number" = true ∧ PyData.strOk "lost" = true ∧ PyData.strOk "use" = true ∧ PyData.strOk "block" = true ∧ PyData.strOk "sum" = true ∧ PyData.strOk "product" = true ∧ PyData.strOk "let" = true ∧ PyData.strOk "wrong" = true := by decide +kernel
theorem nm_sok : ∀ s ∈ nm, PyData.strOk s = true := by decide +kernel
theorem fit_two {M : Mem} {j : Nat} {t : Str} {v : MV} (ht : PyData.strOk t = true) (hv : Fit M j v) : Fit M (j + 1) (.tup [.str t, v]) := fit_tup fun x hx => by
  simp only [List.mem_cons, List.not_mem_nil, or_false] at hx
  rcases hx with rfl | rfl
  · exact fit_str ht
  · exact hv
theorem fit_mv {M : Mem} : ∀ (d : Nat) (it : It), Wf d it → Fit M (2 * d + 1) (mv it) := by
  obtain ⟨o1, o2, o3, o4, o5, o6, o7, _⟩ := tag_ok
  intro d
  induction d with
  | zero =>
    intro it h
    cases h with
    | num h => exact fit_two o1 fit_int
    | lost => exact fit_tup fun x hx => by cases List.mem_singleton.mp hx; exact fit_str o2
    | use h => exact fit_two o3 (fit_str (nm_sok _ h))
  | succ d ih =>
    intro it h
    cases h with
    | num h => exact fit_two o1 fit_int
    | lost => exact fit_tup fun x hx => by cases List.mem_singleton.mp hx; exact fit_str o2
    | use h => exact fit_two o3 (fit_str (nm_sok _ h))
    | @grp _ h xs ho hl hw =>
      have hk : Fit M (2 * d + 1 + 1) (.tup (mvs xs)) := fit_tup fun x hx => by
        rw [mvs_map] at hx
        obtain ⟨y, hy, rfl⟩ := List.mem_map.mp hx
        exact ih y (hw y hy)
      show Fit M (2 * d + 2 + 1) _
      cases h with
      | block => exact fit_two o4 hk
      | sum => exact fit_two o5 hk
      | prod => exact fit_two o6 hk
      | lt s =>
        refine fit_tup fun x hx => ?_
        simp only [List.mem_cons, List.not_mem_nil, or_false] at hx
        rcases hx with rfl | rfl | rfl
        · exact fit_str o7
        · exact fit_str (nm_sok s ho)
        · exact hk
theorem fit_prog {M : Mem} {xs : List It} (hw : ∀ x ∈ xs, Wf 3 x) : Fit M 8 (.tup (mvs xs)) := fit_tup fun x hx => by
  rw [mvs_map] at hx
  obtain ⟨y, hy, rfl⟩ := List.mem_map.mp hx
  exact fit_mv 3 y (hw y hy)
theorem is_conf {α : Type} {R : Res α} (h1 : Is R (fun _ _ => False) (fun _ _ _ => True)) (h2 : Is R (fun _ _ => True) (fun _ _ _ => False)) : False := by
  cases R with
  | ok a M => exact ok_is h1
  | exn c x M => exact exn_is h2
  | stuck => exact stuck_is h1
theorem rows_prog {xs : List It} (M : Mem) (hlen : xs.length ≤ 4) (hw : ∀ y ∈ xs, Wf 3 y) : RowsIs M (tx xs) xs := fun n Q E q => rows_ok hlen hw q
theorem au_prog {xs : List It} (hlen : xs.length ≤ 4) (hw : ∀ y ∈ xs, Wf 3 y) : auR au0 (tx xs) 0 = none := by
  have hl := tx_len hlen hw
  rcases rows_any (tl := tx xs) [] (by omega) (tx_lt hw) (Nat.le_trans (mx_tx hw) (by decide)) with ⟨_, _, _, _, _, h⟩ | ⟨i, h, _⟩
  · exact h
  · exact (is_conf (h 0 (fun _ _ => False) (fun _ _ _ => True) trivial) (rows_prog [] hlen hw 0 (fun _ _ => True) (fun _ _ _ => False) trivial)).elim
theorem rl_prog {xs : List It} (hlen : xs.length ≤ 4) (hw : ∀ y ∈ xs, Wf 3 y) : (rowsL [] 0 0 xs).length ≤ 4000 := by
  have h1 := spL_len (d := 3) (b := 4 ^ 3) (spI_len 3) xs [] 0 0 hw
  have h2 := Nat.mul_le_mul_right (4 ^ 3) hlen
  rw [← rowsL_sp, List.length_map] at h1
  omega
theorem eq_bl {M : Mem} {a b : Bool} : cmpV .NotEq M (.bl a) (.bl b) = some (!(a == b)) := by cases a <;> cases b <;> kernel_rfl
theorem is_bl {M : Mem} {a b : Bool} : cmpV .IsNot M (.bl a) (.bl b) = some (!decide (a = b)) := rfl
section
variable {E : Str → MV → Mem → Prop} {ns : List Int} {p : Nat} {xs : List It} {M : Mem} {Q : Flw → Mem → Prop}
abbrev rho7 (ns : List Int) (o1 : Option MV) (p : Nat) (o3 : Option MV) (xs : List It) (o5 o6 o7 o8 o9 : Option MV) : Rho := [some (.scr ns), o1, some (.ref p), o3, some (.str (SX.S (tx xs))), o5, o6, o7, o8, o9]
abbrev chkB : CB := .cons (.asgP [7, 8] (.cons (.cal "_law_told" (.cons (.var 6) .nil)) (.cons (.cal "_law_wrong" (.cons (.var 6) .nil)) .nil))) (.cons (.ite (.cmp .NotEq (.cal "is_text" (.cons (.var 6) .nil)) (.cmp .Is (.var 8) (.con .non))) (.cons (.ret (.con (.bl false))) .nil) .nil) (.cons (.ite (.and (.cmp .IsNot (.var 8) (.con .non)) (.cmp .NotEq (.var 7) (.lst (.cons (.con (.str "wrong")) (.cons (.var 8) .nil))))) (.cons (.ret (.con (.bl false))) .nil) .nil) (.cons (.ite (.and (.cmp .Is (.var 8) (.con .non)) (.or (.not (.isi (.var 7) ["tuple"])) (.cmp .NotEq (.cal "_law_text" (.cons (.var 7) .nil)) (.var 6)))) (.cons (.ret (.con (.bl false))) .nil) .nil) .nil)))
theorem chk_ok {t' : List Nat} {o1 o3 o5 o7 o8 o9 : Option MV} (hl : t'.length ≤ 2990) (hT : ∀ c ∈ t', c < 1000) (hm : mx t' ≤ 7) (q : ∀ o7 o8, Q (.next (rho7 ns o1 p o3 xs o5 (some (.str (SX.S t'))) o7 o8 o9)) M) : Is (evB (env0.cfg 59) chkB (rho7 ns o1 p o3 xs o5 (some (.str (SX.S t'))) o7 o8 o9) M) Q E := by
  rcases rows_any M (by omega) hT hm with ⟨ys, e, hg, hrl, hR, hau⟩ | ⟨i, hR, hau⟩
  · have hh : hgtL ys ≤ 4000 := Nat.le_trans (hgtL_le ys fun x hx => hgt_le 7 x (hg x hx)) (by decide)
    refine v_cons (v_asgP (w_cons (w_cal (w_cons (w_var rfl (w_nil ?_))))))
    refine told_is (n := 31) hR (by omega) hh ?_
    refine w_cons (w_cal (w_cons (w_var rfl (w_nil ?_))))
    refine wrong_ok (n := 57) (by omega) hT ?_
    rw [hau]
    refine w_nil ⟨_, rfl, ?_⟩
    refine v_cons (v_ite (w_cmp (w_cal (w_cons (w_var rfl (w_nil ?_))))))
    refine is_text_ok (n := 32) hR ?_
    refine w_cmp (w_var rfl (w_con ⟨_, rfl, ⟨_, eq_bl, ⟨_, rfl, br_f rfl (v_nil ?_)⟩⟩⟩))
    refine v_cons (v_ite (w_and (w_cmp (w_var rfl (w_con ⟨_, rfl, ⟨_, rfl, br_f rfl ⟨_, rfl, br_f rfl (v_nil ?_)⟩⟩⟩)))))
    refine v_cons (v_ite (w_and (w_cmp (w_var rfl (w_con ⟨_, rfl, ⟨_, rfl, br_t rfl ?_⟩⟩)))))
    refine w_or (w_not (w_isi (w_var rfl ⟨true, by kernel_rfl, ⟨_, rfl, ⟨_, rfl, br_f rfl ?_⟩⟩⟩)))
    refine w_cmp (w_cal (w_cons (w_var rfl (w_nil ?_))))
    have hsl : (sepL ys).length ≤ 3000 := by
      cases ys with
      | nil => exact Nat.zero_le _
      | cons y ys =>
        rw [tx_cons] at e
        have := congrArg List.length e
        rw [List.length_append] at this
        simp only [sepL, List.length_cons, List.length_append]
        omega
    refine (textG 50 hg hsl).imp fun v M' ⟨e1, e2⟩ => ?_
    subst e1 e2
    rw [e]
    exact w_var rfl ⟨false, eq_same (fit_str (j := 0) (ok_S hT)) (by decide), ⟨_, rfl, br_f rfl (v_nil (v_nil (q _ _)))⟩⟩
  · refine v_cons (v_asgP (w_cons (w_cal (w_cons (w_var rfl (w_nil ?_))))))
    refine told_bad (n := 31) hR ?_
    refine w_cons (w_cal (w_cons (w_var rfl (w_nil ?_))))
    refine wrong_ok (n := 57) (by omega) hT ?_
    rw [hau]
    refine w_nil ⟨_, rfl, ?_⟩
    refine v_cons (v_ite (w_cmp (w_cal (w_cons (w_var rfl (w_nil ?_))))))
    refine is_text_bad (n := 32) hR ?_
    refine w_cmp (w_var rfl (w_con ⟨_, rfl, ⟨_, eq_bl, ⟨_, rfl, br_f rfl (v_nil ?_)⟩⟩⟩))
    refine v_cons (v_ite (w_and (w_cmp (w_var rfl (w_con ⟨_, rfl, ⟨_, rfl, br_t rfl ?_⟩⟩)))))
    have hfit : Fit M 1 (.lst [.str "wrong", .int (i : Int)]) := fit_lst fun x hx => by
      simp only [List.mem_cons, List.not_mem_nil, or_false] at hx
      rcases hx with rfl | rfl
      · exact fit_str tag_ok.2.2.2.2.2.2.2
      · exact fit_int
    refine w_cmp (w_var rfl (w_lst (w_cons (w_con (w_cons (w_var rfl (w_nil ⟨szl (by simp), ⟨false, eq_same hfit (by decide), ⟨_, rfl, br_f rfl (v_nil ?_)⟩⟩⟩)))))))
    refine v_cons (v_ite (w_and (w_cmp (w_var rfl (w_con ⟨_, rfl, ⟨_, rfl, br_f rfl ⟨_, rfl, br_f rfl (v_nil (v_nil ?_))⟩⟩⟩)))))
    exact q _ _
end
end P
end LawK67

set_option Elab.async false
set_option linter.all false
set_option maxRecDepth 100000
set_option maxHeartbeats 4000000
namespace LawK67
namespace P
open PySem L2 Mini
local macro_rules | `(tactic| walk_at "ev") => `(tactic| first
  | ((with_reducible refine w_var (x := ?_) ?_ ?_); rotate_left 1; exact rfl)
  | with_reducible first | refine w_con ?_ | refine w_bin ?_ | refine w_cmp ?_ | refine w_idx ?_ | refine w_blt ?_ | refine w_nil ?_ | refine w_cons ?_ | refine w_att ?_ | refine w_cal ?_ | refine w_neg ?_ | refine w_not ?_ | refine w_and ?_ | refine w_or ?_ | refine w_chn ?_ | refine w_ife ?_ | refine w_slc ?_ | refine w_isi ?_ | refine w_som ?_ | refine w_non ?_ | refine w_star ?_ | refine w_dsp ?_ | refine w_bmt ?_ | refine w_mth ?_ | refine w_new ?_ | refine w_tup ?_ | refine w_lst ?_ | refine w_nwl ?_ | refine w_ndd ?_ | refine w_seq ?_ | refine w_rng ?_ | refine w_tno ?_ | refine w_tso ?_
  | refine v_cons ?_ | refine v_nil ?_ | refine v_asg ?_ | refine v_asgT ?_ | refine v_asgP ?_ | refine v_ret ?_ | refine v_retN ?_ | refine v_exp ?_ | refine v_ite ?_ | refine v_sat ?_ | refine v_sub ?_ | refine v_augA ?_ | refine v_for ?_ | refine v_rse ?_ | refine v_try ?_ | refine v_pas ?_ | refine v_cnt ?_
  | ((with_reducible refine w_glb (x := ?_) ?_ ?_); rotate_left 1; exact rfl) | ((with_reducible refine v_augV (z := ?_) ?_ ?_); rotate_left 1; exact rfl))
local macro_rules | `(tactic| walk_at "op") => `(tactic| refine ⟨_, rfl, ?_⟩)
local macro_rules | `(tactic| walk_at "sz") => `(tactic| refine ⟨szl (by first | decide | simp), ?_⟩)
local macro_rules | `(tactic| walk_at "go") => `(tactic| repeat first | walk_at "ev" | walk_at "op" | walk_at "sz")
section
variable {E : Str → MV → Mem → Prop} {ns : List Int} {p : Nat} {xs : List It} {M : Mem} {Q : Flw → Mem → Prop}
theorem turn_ok {o1 o3 o5 o6 o7 o8 o9 : Option MV} (hlen : xs.length ≤ 4) (hw : ∀ y ∈ xs, Wf 3 y) (hG : Good M p) (q : ∀ o6 o7 o8 M', Good M' p → Q (.next (rho7 ns o1 p o3 xs o5 o6 o7 o8 o9)) M') :
    Is (evB (env0.cfg 59) (.cons (.asg 6 (.cal "_law_bent" (.cons (.var 2) (.cons (.var 4) .nil)))) (.cons (.ite (.cmp .Eq (.cal "_law_take" (.cons (.var 2) (.cons (.con (.int 2)) .nil))) (.con (.int 0))) (.cons (.asg 6 (.cal "_law_bent" (.cons (.var 2) (.cons (.var 6) .nil)))) .nil) .nil) chkB)) (rho7 ns o1 p o3 xs o5 o6 o7 o8 o9) M) Q E := by
  have hl := tx_len hlen hw
  have hm := mx_tx hw
  refine v_cons (v_asg (w_cal (w_cons (w_var rfl (w_cons (w_var rfl (w_nil ?_)))))))
  refine (bent_ok 56 hG (by omega) (tx_lt hw)).imp fun v M1 ⟨⟨t1, e1, a1, a2, a3⟩, g1, _⟩ => ?_
  subst e1
  refine v_cons (v_ite (w_cmp (w_cal (w_cons (w_var rfl (w_cons (w_con (w_nil ?_))))))))
  refine (take_ok 58 g1 (by decide) (by decide)).imp fun v M2 ⟨⟨r, e2, b1, b2⟩, u2⟩ => ?_
  subst e2
  refine w_con ⟨_, eq_int, ⟨_, rfl, ?_⟩⟩
  by_cases c : r = 0
  · refine br_t (beq_iff_eq.mpr c) ?_
    refine v_cons (v_asg (w_cal (w_cons (w_var rfl (w_cons (w_var rfl (w_nil ?_)))))))
    refine (bent_ok 56 u2.1 (by omega) a2).imp fun v M3 ⟨⟨t2, e3, c1, c2, c3⟩, g3, _⟩ => ?_
    subst e3
    exact v_nil (chk_ok (by omega) c2 (by omega) fun o7 o8 => q _ _ _ _ g3)
  · refine br_f (beq_eq_false_iff_ne.mpr c) (v_nil ?_)
    exact chk_ok (by omega) a2 (by omega) fun o7 o8 => q _ _ _ _ u2.1
theorem fit_w0 : Fit M 1 (.lst [.str "wrong", .int 0]) := fit_lst fun x hx => by
  simp only [List.mem_cons, List.not_mem_nil, or_false] at hx
  rcases hx with rfl | rfl
  · exact fit_str tag_ok.2.2.2.2.2.2.2
  · exact fit_int
theorem odd_ok {o1 o3 o5 o6 o7 o8 o9 : Option MV} (q : ∀ o9, Q (.next (rho7 ns o1 p o3 xs o5 o6 o7 o8 o9)) M) :
    Is (evB (env0.cfg 59) (.cons (.forr [9] true (.seq (.lst (.cons (.con .non) (.cons (.con (.int 5)) (.cons (.tup (.cons (.con (.str "1")) .nil)) (.cons (.lst (.cons (.con (.str "1")) .nil)) .nil)))))) (.cons (.ite (.or (.cmp .IsNot (.cal "is_text" (.cons (.var 9) .nil)) (.con (.bl false))) (.cmp .NotEq (.cal "_law_told" (.cons (.var 9) .nil)) (.lst (.cons (.con (.str "wrong")) (.cons (.con (.int 0)) .nil))))) (.cons (.ret (.con (.bl false))) .nil) .nil) .nil)) .nil) (rho7 ns o1 p o3 xs o5 o6 o7 o8 o9) M) Q E := by
  refine v_cons (v_for (w_seq (w_lst ?_)))
  refine w_cons (w_con (w_cons (w_con (w_cons (w_tup (w_cons (w_con (w_nil ⟨szl (by simp), ?_⟩))))))))
  refine w_cons (w_lst (w_cons (w_con (w_nil ⟨szl (by simp), w_nil ⟨szl (by simp), ⟨_, rfl, ?_⟩⟩⟩))))
  refine for_inv (fun rest r0 M1 => (∀ x ∈ rest, isiA M x ["str"] = some false) ∧ M1 = M ∧ ∃ o9, r0 = rho7 ns o1 p o3 xs o5 o6 o7 o8 o9) ?_ ?_ _ _ _ ⟨?_, rfl, _, rfl⟩
  · rintro x rest r0 M1 ⟨hx, rfl, o9, rfl⟩
    have hR := rows_odd (hx x List.mem_cons_self)
    dsimp only [bind1]
    refine v_cons (v_ite (w_or (w_cmp (w_cal (w_cons (w_var rfl (w_nil ?_)))))))
    refine is_text_bad (n := 32) hR ?_
    refine w_con ⟨_, is_bl, ⟨_, rfl, br_f rfl ?_⟩⟩
    refine w_cmp (w_cal (w_cons (w_var rfl (w_nil ?_))))
    refine told_bad (n := 31) hR ?_
    refine w_lst (w_cons (w_con (w_cons (w_con (w_nil ⟨szl (by simp), ⟨false, eq_same fit_w0 (by decide), ⟨_, rfl, br_f rfl (v_nil (v_nil ?_))⟩⟩⟩)))))
    exact ⟨fun y hy => hx y (List.mem_cons_of_mem _ hy), rfl, _, rfl⟩
  · rintro r0 M1 ⟨_, rfl, o9, rfl⟩
    exact v_nil (q _)
  · intro x hx
    simp only [List.mem_cons, List.not_mem_nil, or_false] at hx
    rcases hx with rfl | rfl | rfl | rfl <;> kernel_rfl
end
theorem fin_nil {M1 : Mem} {E : Str → MV → Mem → Prop} : Is (fin false [] (.ok (.bl true) M1)) (fun v _ => v = .bl true) E := by
  by_cases c : M1.length = 0
  · exact isf_len c rfl
  · exact is_ok (fin_frz (u := .bl true) c rfl (frz_clean (by simp [clean]))) rfl
theorem law_ok (ns : List Int) {E : Str → MV → Mem → Prop} : Is (evF env0 60 ("law", none) [.scr ns] []) (fun v _ => v = .bl true) E := by
  refine w_body (n := 59) (d := c30) tb30 rfl ?_
  dsimp only [c30, Mini.start]
  refine v_cons (v_for (w_rng (w_blt (w_cons (w_con (w_cons (w_blt (w_cons (w_con (w_cons (w_blt (w_cons (w_var rfl (w_nil ⟨_, rfl, ?_⟩))))))))))))))
  refine w_nil ⟨_, rfl, w_nil ⟨_, rfl, ?_⟩⟩
  refine ⟨_, rfl, ⟨?_, ?_⟩, ?_⟩
  · split <;> split <;> omega
  · split <;> split <;> omega
  generalize hN : Int.toNat _ = N
  have hN3 : N ≤ 4 := by
    rw [← hN]
    split <;> split <;> omega
  refine for_inv (fun rest r M1 => ∃ (k m : Nat) (o1 o2 o3 o4 o5 o6 o7 o8 o9 : Option MV), rest = intsFrom (k : Int) m ∧ k + m ≤ 4 ∧ r = [some (.scr ns), o1, o2, o3, o4, o5, o6, o7, o8, o9]) ?_ ?_ _ _ _ ⟨0, N, _, _, _, _, _, _, _, _, _, rfl, by omega, rfl⟩
  · rintro x rest r M1 ⟨k, m, o1, o2, o3, o4, o5, o6, o7, o8, o9, e, hkm, rfl⟩
    cases m with
    | zero => cases e
    | succ m =>
      obtain ⟨rfl, rfl⟩ := List.cons.inj e
      dsimp only [bind1]
      refine v_cons (v_asg (w_cal (w_cons (w_var rfl (w_cons (w_var rfl (w_nil ?_)))))))
      refine (pool_ok 58 (ns := ns) (k := k) (by omega)).imp fun v M2 ⟨a, b, e1, e2, ha, hb, hb2⟩ => ?_
      subst e1
      have hG : Good M2 M1.length := ⟨a, b, by rw [e2]; exact get_new, ha, hb, hb2⟩
      clear e2
      refine v_cons (v_asg (w_cal (w_cons (w_var rfl (w_cons (w_lst (w_cons (w_con (w_cons (w_con (w_cons (w_con (w_cons (w_con (w_cons (w_con (w_cons (w_con (w_cons (w_con (w_nil ⟨szl (by simp), w_nil ?_⟩)))))))))))))))))))))
      refine (program_ok 52 hG).imp fun v M3 ⟨⟨xs, e3, hlen, hw⟩, hu⟩ => ?_
      subst e3
      have hG3 : Good M3 M1.length := hu.1
      refine v_cons (v_asg (w_cal (w_cons (w_var rfl (w_nil ?_)))))
      refine (text_ok 54 hlen hw).imp fun v M4 ⟨e4, e5⟩ => ?_
      subst e4 e5
      have hl := tx_len hlen hw
      have hRp := rows_prog M4 hlen hw
      refine v_cons (v_ite (w_or (w_cmp (w_cal (w_cons (w_var rfl (w_nil ?_)))))))
      refine wrong_ok (n := 57) (by omega) (tx_lt hw) ?_
      rw [au_prog hlen hw]
      refine w_con ⟨_, rfl, ⟨_, rfl, br_f rfl ?_⟩⟩
      refine w_or (w_cmp (w_cal (w_cons (w_var rfl (w_nil ?_)))))
      have hhg : hgtL xs ≤ 4000 := Nat.le_trans (hgtL_le xs fun x hx => hgt_le 3 x (wf_gw 3 x (hw x hx))) (by decide)
      refine plain_of_ok (n := 32) hRp (rl_prog hlen hw) hhg ?_
      refine w_var rfl ⟨false, eq_same (fit_prog hw) (by decide), ⟨_, rfl, br_f rfl ?_⟩⟩
      refine w_cmp (w_cal (w_cons (w_var rfl (w_nil ?_))))
      refine is_text_ok (n := 32) hRp ?_
      refine w_con ⟨_, is_bl, ⟨_, rfl, br_f rfl (v_nil ?_)⟩⟩
      refine v_cons (v_for (w_rng (w_con ⟨6, rfl, ⟨by decide, by decide⟩, ?_⟩)))
      refine for_inv (fun rest r M1' => Good M1' M1.length ∧ ∃ o1 o3 o5 o6 o7 o8 o9, r = rho7 ns o1 M1.length o3 xs o5 o6 o7 o8 o9) ?_ ?_ _ _ _ ⟨hG3, _, _, _, _, _, _, _, rfl⟩
      · rintro x rest r M6 ⟨hG6, o1, o3, o5, o6, o7, o8, o9, rfl⟩
        dsimp only [bind1]
        exact turn_ok hlen hw hG6 fun o6 o7 o8 M' hG' => ⟨hG', _, _, _, _, _, _, _, rfl⟩
      · rintro r M6 ⟨hG6, o1, o3, o5, o6, o7, o8, o9, rfl⟩
        exact odd_ok fun o9 => ⟨k + 1, m, _, _, _, _, _, _, _, _, _, rfl, by omega, rfl⟩
  · rintro r M1 ⟨k, m, o1, o2, o3, o4, o5, o6, o7, o8, o9, e, hkm, rfl⟩
    exact v_cons (v_ret (w_con fin_nil))
theorem law_true0 (ns : List Int) : ∃ M, evF env0 60 ("law", none) [.scr ns] [] = .ok (.bl true) M := by
  obtain ⟨a, M, e, q⟩ := (law_ok ns).ex
  exact ⟨M, by rw [e, q]⟩
end P
end LawK67

set_option Elab.async false
set_option linter.all false
set_option maxRecDepth 100000
set_option maxHeartbeats 4000000
namespace LawK67
open PySem L2 Mini

/-! ### the head -/
abbrev R : PySem.W.OpenRow := PySem.W.OpenLaw.row PySem.Challenge.rw_sharedscopes_k67_whole_plain_programs_of
abbrev hk : PySem.W.Hook := hookM 6 tell.fa fn tell.ts tell.ers (prog.main.file : Str) tell.ex
def ob (s : PySem.W.SharedT) : AlM := obsMG 6 tell.fa fn tell.ts tell.ers (prog.main.file : Str) tell.ex (HandSHeadRun.getT s)
theorem ob_eq (s : PySem.W.SharedT) : ob s = hk.obs s.abs := obsMG_eq (HandSHeadRun.getT_eq s)
def loose : List Str := ["ScopeError", "BadText", "TEXT_FIGURES", "LEADING_FIGURES", "TEXT_LETTERS", "MOST_LETTERS", "SIGNED_KINDS", "OpenItem", "ItemRow", "TextWalk", "rows_of_text", "nested_rows", "plain_item", "plain_of", "is_text", "_law_pool", "_law_take", "_law_one", "_law_item", "_law_program", "_law_word", "_law_text", "_law_goes", "_law_wrong", "_law_told", "_law_bent"]
theorem run1 (w : World) : HandSHeadRun.RunEq R (PySem.W.view R.prog [29]) hk ob 20000 loose (w.withFollow "special-get-raises" true) := by
  intro os
  kernel_rfl
theorem run0 (w : World) : HandSHeadRun.RunEq R (PySem.W.view R.prog [29]) hk ob 20000 loose (w.withFollow "special-get-raises" false) := by
  intro os
  kernel_rfl
theorem run (w : World) : HandSHeadRun.RunEq R (PySem.W.view R.prog [29]) hk ob 20000 loose w := by
  have h := World.withFollow_self w "special-get-raises"
  rw [← h]
  cases w.params.followText "special-get-raises" with
  | true => exact run1 w
  | false => exact run0 w
end LawK67

set_option Elab.async false
set_option linter.all false
set_option maxRecDepth 100000
set_option maxHeartbeats 4000000
namespace LawK67
open PySem L2 Mini
def deep : Nat := 60
theorem law_true (ns : List Int) (hl : ns.length ≤ 63) : ∃ M, evF env deep ("law", none) [.scr ns] [] = .ok (.bl true) M := P.law_true0 ns

end LawK67
open PySem PySem.W PySem.Calls PyProof.Rows in
theorem PySem.Challenge.cw_sharedscopes_k67_whole_plain_programs_of_holds : PySem.Challenge.rw_sharedscopes_k67_whole_plain_programs_of.Holds := by
  w_on; o_law
  refine HandSHeadRun.head_any (r := OpenLaw.row PySem.Challenge.rw_sharedscopes_k67_whole_plain_programs_of) (q := view (OpenLaw.row PySem.Challenge.rw_sharedscopes_k67_whole_plain_programs_of).prog [29]) (H := LawK67.hk) (ob := LawK67.ob) (M := 20000) (loose := LawK67.loose) (d := HandSHeadRun.topDef (OpenLaw.row PySem.Challenge.rw_sharedscopes_k67_whole_plain_programs_of).prog 29) (kwd := []) LawK67.ob_eq
    (by kernel_rfl) (fun s => by kernel_rfl) LawK67.run (by kernel_rfl) (by kernel_rfl) (by kernel_rfl) (by rfl) (by first | assumption | decide +kernel) (by decide +kernel) ⟨rfl, rfl, rfl, rfl, rfl, by decide +kernel⟩ ?hw ?hc
  case hw => w_witness2
  case hc =>
    refine Mini.walk_ofM (l := PySem.Challenge.rw_sharedscopes_k67_whole_plain_programs_of) (n := 63) (k := 2 * LawK67.deep) (x := "_law_script") rfl (by decide) (by kernel_rfl) ⟨rfl, by decide, by decide⟩ ?F
    intro w mg fa h Y G hmg0
    obtain ⟨K, KX, c⟩ := Y
    have T : Mini.Txt LawK67.tell LawK67.prog w K mg := Mini.txt_of KX G c
    have hmg : mg ("law" : PySem.Str) = some (.ref fa) := by
      have e : (HandSHeadRun.topDef (OpenLaw.row PySem.Challenge.rw_sharedscopes_k67_whole_plain_programs_of).prog 29).name = ("law" : PySem.Str) := by kernel_rfl
      rw [← e]
      exact hmg0
    have e := hmg.symm.trans (T.glo 16 rfl)
    cases e
    exact ⟨K, Mini.fdOf K ("law", none), Mini.spF K (Mini.evF LawK67.env LawK67.deep) ("law", none), KX, fun s u => (T.f 30 LawK67.d30 rfl).bindsA (ps := ["_law_script"]) (fun _ _ _ _ _ _ us hl => match us, hl with | [_], _ => rfl) s [u] rfl, fun H a ns hl hS => Mini.law_sp (LawK67.law_true ns hl) hS, fun base => LawK67.all_ok T LawK67.deep 30 rfl⟩
