import PyProof.Rows.All
import Wide.All
import OpenK.AllK
import Wide.FinOn
import KE.KStateDown
import HandS.ForMost
import HandS.Exc
import HandS.TryOnly
import HandS.ExcOwn
import HandS.WordsExc
import HandS.Defaults
import HandS.Wide
import HandS.Flow
import HandS.Style
import HandS.IsInst
import HandS.TupAny
import HandS.TupMul
import HandS.Star
import HandS.Conv
import HandS.Zip
import HandS.Deep
import HandS.Text
import KE.KeyNested
import HandS.ExcInit
import HandS.ExcField
import HandS.ExcValue
import HandS.ExcIs
import HandS.HeadHook1
import HandS.HeadWalk
import HandS.SortInts
import HandS.More
import HandS.WordsDict
import HandS.FStr
import KE.KRevSl
import KE.GoesMore
import KE.KItemsList
import PyProof.EnumStmt
import HandS.ListItems
import HandS.SetBool
import HandS.DictTup
import KE.KDictPairs
import HandS.DictComp
import HandS.Small
import HandS.Finally
import HandS.HeadHook2
import HandS.HeadEnd
import HandS.Head0
import HandS.Head1
import HandS.Head2
import PySem.Challenge.RW_likeshown_k01_errors
set_option Elab.async false
set_option linter.all false
set_option maxRecDepth 100000
set_option maxHeartbeats 0
/-! D0: the lifted semantics: values, code, weakest preconditions. -/
namespace Lk
open PySem
/-- a value: data (never changed any more), a place of the store, or the script -/
inductive PV where | d (x : PyData) | r (a : Addr) | s (ns : List Int)
/-- what stands at a place of the store -/
inductive SO where | lst (xs : List PyData) | dic (kvs : List (PyData × PyData))
abbrev Sto := Addr → Option SO
def sput (S : Sto) (a : Addr) (o : SO) : Sto := fun b => if b = a then some o else S b
/-- what a local name holds: a value; a list, a dict that nobody else knows -/
inductive Lo where | v (x : PV) | ol (xs : List PyData) | od (kvs : List (PyData × PyData))
abbrev VE := List (Option Lo)
structure Exc where
  cls : Str
  fs : List (Str × PyData)
abbrev Phi := Str → List PV → Sto → (PV → Sto → Prop) → (Exc → Sto → Prop) → Prop
abbrev EK := Exc → VE → Sto → Prop
/-! ### code -/
inductive Bop where | add | sub | mul | fdiv | mod | pow
inductive Cop where | eq | ne | lt | le | gt | ge | isin | notin
inductive Tg where | nm (i : Nat) | tup (is : List Nat)
/-- what a for, a comprehension walks -/
inductive Sk where | val | rng | rngC | enum | zip | items | values | zipS | enZ | itemsN
/-- built-in functions and types, called -/
inductive Bf where | len | list | tuple | repr | int | abs | all | any | sorted | max | min | sum | dict | str
/-- an error with an own __init__ that is made -/
inductive Ik where | lim | syn | rul
/-- what an error is asked to be: of an own class, of ValueError, of three other ones -/
inductive Xq where | own (c : Str) | val | oth
mutual
inductive Ex where
  | kd (d : PyData)
  | var (i : Nat)
  | gl (x : Str) (d : PyData)
  | bin (op : Bop) (a b : Ex)
  | cmp (op : Cop) (a b : Ex)
  | chain (op op' : Cop) (a b c : Ex)
  | isk (neg : Bool) (k : PyData) (a : Ex)
  | inst (T : String) (a : Ex)
  | andE (as : List Ex)
  | orE (as : List Ex)
  | notE (a : Ex)
  | ite (c : Te) (a b : Ex)
  | fnc (f : Bf) (a : Ex)
  | call (f : Str) (as : List Ex)
  | ix (a b : Ex)
  | slc (l h : Bool) (a : Ex) (as : List Ex)
  | tup (as : List Im)
  | lst (sto : Bool) (as : List Im)
  | edic
  | comp (own : List (Str × Nat)) (tg : Tg) (sk : Sk) (as : List Ex) (cs : List Te) (e : Ex)
  | popv (i : Nat)
  | callL (fs : List Str) (i : Ex) (as : List Ex)
  | isB (neg b : Bool) (a : Ex)
  | dget (o k d : Ex)
  | lzip (a b : Ex)
  | trng (a : Ex)
  | lidx (o e : Ex)
  | litems (a : Ex)
  | dctB (a : Ex)
  | srtS (a : Ex)
  | ddis (k e : Ex)
  | ddis2 (k e k2 e2 : Ex)
  | dcomp (own : List (Str × Nat)) (tg : Tg) (sk : Sk) (as : List Ex) (cs : List Te) (k v : Ex)
  | dcompS (own : List (Str × Nat)) (tg : Tg) (sk : Sk) (as : List Ex) (cs : List Te) (k v : Ex)
  | rv (all : Bool) (a : Ex)
  | join (sep : Str) (a : Ex)
  | comp2 (own : List (Str × Nat)) (tg : Tg) (sk : Sk) (as : List Ex) (cs : List Te) (own1 : List Nat) (tg1 : Tg) (sk1 : Sk) (as1 : List Ex) (cs1 : List Te) (e : Ex)
  | fncS (f : Bf) (a : Ex)
  | catS (a b : Ex)
  | mkE (c : Str) (a : Ex)
  | mkI (k : Ik) (as : List Ex)
  | isx (q : Xq) (a : Ex)
  | fld (f : Str) (a : Ex)
  | compS (own : List (Str × Nat)) (tg : Tg) (sk : Sk) (as : List Ex) (cs : List Te) (e : Ex)
  | edicS
  | callB1 (f : Str) (a : Ex) (i : Nat)
  | callB2 (f : Str) (a b : Ex) (i : Nat)
  | frz (a : Ex)
/-- a test -/
inductive Te where
  | of (e : Ex)
  | and (ts : List Te)
  | or (ts : List Te)
  | not (t : Te)
/-- an item of a display -/
inductive Im where
  | one (e : Ex)
  | star (e : Ex)
end
/-- a right side: a value, or a new list or dict that the name alone knows -/
inductive Rh where
  | val (e : Ex)
  | disp (as : List Im)
  | edic
  | comp (own : List (Str × Nat)) (tg : Tg) (sk : Sk) (as : List Ex) (cs : List Te) (e : Ex)
  | dct (e : Ex)
  | take (e : Ex)
/-- a clause `except cls as (name i): (name j) = k`; k none: what is never reached -/
structure Hd where
  cls : Str
  i : Nat
  j : Nat
  k : Option PyData
  /-- a field of what is caught is read -/
  f : Option Str
inductive Sm where
  | asg (i : Nat) (r : Rh)
  | par (i j : Nat) (r r' : Rh)
  | unpack (is : List Nat) (e : Ex)
  | unpackL (is : List Nat) (e : Ex)
  | asgE (i : Nat) (own : List (Str × Nat)) (tg : Tg) (sk : Sk) (as : List Ex) (cs : List Te) (w : Ex)
  | ret (e : Ex)
  | retN
  | expr (e : Ex)
  | ifs (c : Te) (t e : List Sm)
  | forS (tg : Tg) (sk : Sk) (as : List Ex) (b : List Sm)
  | whileS (c : Te) (b : List Sm)
  | aug (i : Nat) (op : Bop) (e : Ex)
  | app (i : Nat) (e : Ex)
  | ext (i : Nat) (e : Ex)
  | setI (a i e : Ex)
  | brk | cont | pass
  | bad
  | clrE (e : Ex)
  | clrD (e : Ex)
  | appE (o e : Ex)
  | raiseT (c : Str)
  | raiseL (c : Str) (e : Ex)
  | tryS (b : List Sm) (hs : List Hd)
/-- a def: its name, how many parameters, its names (the parameters first), its body -/
structure Dfn where
  name : Str
  ps : Nat
  N : List Str
  body : List Sm
/-! ### what is known of data -/
/-- an argument of an operation: a value, or a name that is looked at when the operation runs -/
inductive Arg where | now (v : PV) | late (i : Nat)
def conV (S : Sto) : PV → (PyData → Prop) → Prop
  | .d x, Q => Q x
  | .r a, Q => match S a with
    | some (.lst xs) => Q (.list xs)
    | some (.dic kvs) => Q (.dict kvs)
    | none => False
  | .s _, _ => False
def con (ρ : VE) (S : Sto) : Arg → (PyData → Prop) → Prop
  | .now v, Q => conV S v Q
  | .late i, Q => match ρ[i]? with
    | some (some (.v p)) => conV S p Q
    | some (some (.ol xs)) => Q (.list xs)
    | some (some (.od kvs)) => Q (.dict kvs)
    | _ => False
/-- .. or the script, of which only slices are read -/
def conL (ρ : VE) (S : Sto) (x : Arg) (Q : PyData → Prop) : Prop := match x with
  | .now (.s ns) => Q (.list (ns.map .int))
  | .late i => match ρ[i]? with
    | some (some (.v (.s ns))) => Q (.list (ns.map .int))
    | _ => con ρ S (.late i) Q
  | x => con ρ S x Q
/-- data equality, where it is told (dicts are not) -/
def eqO (d e : PyData) : Option Bool := if d.canLay0 = true ∧ e.canLay0 = true ∧ min d.depth e.depth ≤ 60 then some (PyData.eqv d e) else
  match d, e with
  | .list xs, .list ys => if xs.length = ys.length then none else some false
  | .tuple _, .tuple [] => some false
  | .tuple [], .tuple _ => some false
  | .str x, .str y => some (PyData.eqv (.str x) (.str y))
  | _, _ => none
def keyD : PyData → Option L2.Key
  | .int i => some (.inl i)
  | .str x => some (.inr x)
  | _ => none
def isKey (k : PyData) : Bool := (keyD k).isSome
/-- a dict whose keys are all ints and texts -/
def plainK (kvs : List (PyData × PyData)) : Bool := kvs.all fun p => isKey p.1
/-! ### keys as data -/
mutual
def nkD : PyData → Option NestedKey
  | .none => some .none
  | .bool b => some (.num (if b = true then 1 else 0))
  | .int i => some (.num i)
  | .str x => some (.text x)
  | .tuple ds => (nkDs ds).map .tup
  | .list _ => none
  | .dict _ => none
def nkDs : List PyData → Option (List NestedKey)
  | [] => some []
  | d :: ds => match nkD d, nkDs ds with
    | some k, some ks => some (k :: ks)
    | _, _ => none
end
/-- k is an odd key, none of kvs' -/
def oddB (k : PyData) (kvs : List (PyData × PyData)) : Bool := match nkD k with
  | some nk => !isKey k && decide (nk.depth ≤ 8) && kvs.all fun p => match nkD p.1 with
    | some m => decide (m.depth ≤ 8) && !NestedKey.beq m nk
    | none => false
  | none => false
def truP : PyData → (Bool → Prop) → Prop
  | .none, Q => Q false
  | .bool b, Q => Q b
  | .int i, Q => Q (i != 0)
  | .str s, Q => s.length ≤ sizeLine ∧ Q (s.length != 0)
  | .list xs, Q => Q (!xs.isEmpty)
  | .tuple xs, Q => Q (!xs.isEmpty)
  | .dict kvs, Q => plainK kvs = true ∧ Q (!kvs.isEmpty)
def strHas (i j : Str) : Bool := !(Builtin.Str.occurrences j i 0 j.length 1).isEmpty
/-- n times a list -/
def repL {α : Type} (xs : List α) (k : Int) : List α := (List.replicate k.toNat xs).flatten
def putD (kvs : List (PyData × PyData)) (k v : PyData) : List (PyData × PyData) :=
  if (kvs.any fun p => decide (keyD p.1 = keyD k)) = true then kvs.map (fun p => if keyD p.1 = keyD k then (p.1, v) else p) else kvs ++ [(k, v)]
/-- d[k] -/
def lookD (kvs : List (PyData × PyData)) (k : PyData) : Option PyData := (kvs.find? fun p => decide (keyD p.1 = keyD k)).map (·.2)
/-- dict(pairs) -/
def pairsOf : List PyData → Option (List (PyData × PyData))
  | [] => some []
  | .tuple [k, v] :: r => if isKey k = true then (pairsOf r).map ((k, v) :: ·) else none
  | _ :: _ => none
def mergeD (ps : List (PyData × PyData)) : List (PyData × PyData) := ps.foldl (fun m p => putD m p.1 p.2) []
def binP : Bop → PyData → PyData → (PyData → Prop) → Prop
  | .add, .int i, .int j, Q => Q (.int (i + j))
  | .add, .str x, .str y, Q => x.length + y.length ≤ sizeLine ∧ Q (.str (x ++ y))
  | .add, .list x, .list y, Q => x.length + y.length ≤ sizeLine ∧ Q (.list (x ++ y))
  | .add, .tuple x, .tuple y, Q => x.length + y.length ≤ sizeLine ∧ Q (.tuple (x ++ y))
  | .sub, .int i, .int j, Q => Q (.int (i - j))
  | .mul, .int i, .int j, Q => (L2.CMulW i j ∨ L2.CMul i j) ∧ Q (.int (i * j))
  | .mul, .list x, .int k, Q => -(2 ^ 63) ≤ k ∧ k < 2 ^ 63 ∧ x.length * k.toNat ≤ sizeLine ∧ Q (.list (repL x k))
  | .mul, .tuple x, .int k, Q => x ≠ [] ∧ 1 ≤ k ∧ k ≤ 1000 ∧ x.length ≤ 1000 ∧ Q (.tuple (repL x k))
  | .fdiv, .int i, .int j, Q => L2.CDivW i j ∧ Q (.int (i / j))
  | .mod, .int i, .int j, Q => 0 < j ∧ Q (.int (i % j))
  | .pow, .int i, .int j, Q => L2.CPow i j ∧ Q (.int (i ^ j.toNat))
  | _, _, _, _ => False
/-- a dict is equal to another one: as many keys, each with an equal value -/
def hitsB (ls : List (PyData × PyData)) : List (PyData × PyData) → Bool
  | [] => true
  | p :: r => match lookD ls p.1 with
    | none => false
    | some y => PyData.eqv p.2 y && hitsB ls r
def dvOk (kvs : List (PyData × PyData)) : Prop := ∀ p ∈ kvs, p.2.canLay0 = true ∧ p.2.depth ≤ 60
def eqDic (d e : PyData) (Q : Bool → Prop) : Prop := match d, e with
  | .dict ks, .dict ls => plainK ks = true ∧ plainK ls = true ∧ dvOk ks ∧ dvOk ls ∧ Q (ks.length == ls.length && hitsB ls ks)
  | _, _ => False
def cmpP : Cop → PyData → PyData → (Bool → Prop) → Prop
  | .eq, d, e, Q => match eqO d e with
    | some b => Q b
    | none => eqDic d e Q
  | .ne, d, e, Q => match eqO d e with
    | some b => Q (!b)
    | none => eqDic d e fun b => Q (!b)
  | .lt, .int i, .int j, Q => Q (decide (i < j))
  | .le, .int i, .int j, Q => Q (decide (i ≤ j))
  | .gt, .int i, .int j, Q => Q (decide (j < i))
  | .ge, .int i, .int j, Q => Q (decide (j ≤ i))
  | .isin, .str i, .str j, Q => Q (strHas i j)
  | .notin, .str i, .str j, Q => Q (!strHas i j)
  | .isin, d, .list xs, Q => d.canLay0 = true ∧ PyData.canLayAll0 xs = true ∧ d.depth ≤ 60 ∧ Q (xs.any fun z => PyData.eqv z d)
  | .notin, d, .list xs, Q => d.canLay0 = true ∧ PyData.canLayAll0 xs = true ∧ d.depth ≤ 60 ∧ Q (!xs.any fun z => PyData.eqv z d)
  | .isin, d, .tuple xs, Q => d.canLay0 = true ∧ PyData.canLayAll0 xs = true ∧ d.depth ≤ 60 ∧ Q (xs.any fun z => PyData.eqv z d)
  | .notin, d, .tuple xs, Q => d.canLay0 = true ∧ PyData.canLayAll0 xs = true ∧ d.depth ≤ 60 ∧ Q (!xs.any fun z => PyData.eqv z d)
  | .isin, d, .dict kvs, Q => plainK kvs = true ∧ isKey d = true ∧ Q (lookD kvs d).isSome
  | .notin, d, .dict kvs, Q => plainK kvs = true ∧ isKey d = true ∧ Q (!(lookD kvs d).isSome)
  | _, _, _, _ => False
def tyD : PyData → String
  | .none => "NoneType"
  | .bool _ => "bool"
  | .int _ => "int"
  | .str _ => "str"
  | .list _ => "list"
  | .tuple _ => "tuple"
  | .dict _ => "dict"
def intsOf : List PyData → Option (List Int)
  | [] => some []
  | .int b :: r => (intsOf r).map (b :: ·)
  | _ :: _ => none
def sortI (ns : List Int) : List Int := ns.mergeSort fun a b => decide (a ≤ b)
def maxI (ns : List Int) : Int := ns.foldl max (ns.headD 0)
def minI (ns : List Int) : Int := ns.foldl min (ns.headD 0)
def instB (T : String) (d : PyData) : Bool := tyD d == T || (tyD d == "bool" && T == "int")
def boolsOf : List PyData → Option (List Bool)
  | [] => some []
  | .bool b :: r => (boolsOf r).map (b :: ·)
  | _ :: _ => none
def strsOf : List PyData → Option (List Str)
  | [] => some []
  | .str b :: r => (strsOf r).map (b :: ·)
  | _ :: _ => none
/-- sep.join(list) -/
def joinP (sep : Str) (d : PyData) (Q : PyData → Prop) : Prop := match d with
  | .list xs => (match strsOf xs with
    | some ys => (ys.map (·.length)).sum + ys.length * sep.length ≤ 16777216 ∧ Q (.str (Str.join sep ys))
    | none => False)
  | _ => False
def bfP : Bf → PyData → (PyData → Prop) → Prop
  | .len, .list xs, Q => Q (.int xs.length)
  | .len, .tuple xs, Q => Q (.int xs.length)
  | .len, .str x, Q => x.length ≤ sizeLine ∧ Q (.int x.length)
  | .list, .list xs, Q => Q (.list xs)
  | .list, .tuple xs, Q => Q (.list xs)
  | .list, .dict kvs, Q => plainK kvs = true ∧ Q (.list (kvs.map (·.1)))
  | .len, .dict kvs, Q => plainK kvs = true ∧ Q (.int kvs.length)
  | .tuple, .list xs, Q => Q (.tuple xs)
  | .tuple, .tuple xs, Q => Q (.tuple xs)
  | .int, .int i, Q => Q (.int i)
  | .int, .str a, Q => match intText? a with
    | some n => a.length ≤ 640 ∧ Q (.int n)
    | none => False
  | .str, .int i, Q => i.natAbs.log2 < 1920 ∧ Q (.str (toString i))
  | .int, .bool b, Q => Q (.int (if b then 1 else 0))
  | .repr, d, Q => False ∧ d.showable = true ∧ d.depth ≤ 60 ∧ d.shown.length ≤ sizeLine ∧ Q (.str d.shown)
  | .abs, .int i, Q => Q (.int (if i < 0 then -i else i))
  | .all, .list xs, Q => match boolsOf xs with
    | some bs => Q (.bool (bs.all id))
    | none => False
  | .any, .list xs, Q => match boolsOf xs with
    | some bs => Q (.bool (bs.any id))
    | none => False
  | .sorted, .list xs, Q => match intsOf xs with
    | some ns => Q (.list ((sortI ns).map .int))
    | none => False
  | .sorted, .dict kvs, Q => match intsOf (kvs.map (·.1)) with
    | some ns => ns.length < 64 ∧ Q (.list ((sortI ns).map .int))
    | none => False
  | .dict, .list xs, Q => match pairsOf xs with
    | some ps => Q (.dict (mergeD ps))
    | none => False
  | .dict, .dict kvs, Q => plainK kvs = true ∧ Q (.dict kvs)
  | .max, .list xs, Q => match intsOf xs with
    | some ns => ns ≠ [] ∧ Q (.int (maxI ns))
    | none => False
  | .min, .list xs, Q => match intsOf xs with
    | some ns => ns ≠ [] ∧ Q (.int (minI ns))
    | none => False
  | .sum, .list xs, Q => match intsOf xs with
    | some ns => Q (.int ns.sum)
    | none => False
  | _, _, _ => False
/-- list(d.items()) -/
def litP : PyData → (PyData → Prop) → Prop
  | .dict kvs, Q => plainK kvs = true ∧ Q (.list (kvs.map fun p => .tuple [p.1, p.2]))
  | _, _ => False
/-- pairs whose keys are truth values; dict() of them -/
def pairsB : List PyData → Option (List (Bool × PyData))
  | [] => some []
  | .tuple [.bool b, v] :: r => (pairsB r).map ((b, v) :: ·)
  | _ :: _ => none
def putB (m : List (Bool × PyData)) (b : Bool) (v : PyData) : List (Bool × PyData) :=
  if (m.any fun p => decide (p.1 = b)) = true then m.map (fun p => if p.1 = b then (p.1, v) else p) else m ++ [(b, v)]
def mergeB (ps : List (Bool × PyData)) : List (PyData × PyData) := (ps.foldl (fun m p => putB m p.1 p.2) []).map fun p => (.bool p.1, p.2)
def dctP (d : PyData) (Q : PyData → Prop) : Prop := match d with
  | .list xs => (match pairsB xs with
    | some ps => Q (.dict (mergeB ps))
    | none => False)
  | _ => False
/-- sorted() of texts -/
def srtP (d : PyData) (Q : PyData → Prop) : Prop := match d with
  | .list xs => (match strsOf xs with
    | some zs => zs.length < 64 ∧ ∀ ys : List Str, ys.Perm zs → PyProof.Rows.sortedS ys = true → Q (.list (ys.map .str))
    | none => False)
  | _ => False
/-- two lists put together, a new list -/
def catP : PyData → PyData → (List PyData → Prop) → Prop
  | .list ms, .list ns, Q => ms.length + ns.length ≤ sizeLine ∧ Q (ms ++ ns)
  | _, _, _ => False
/-- an error as data -/
def errK (c : Str) (fs : List (Str × PyData)) : List (PyData × PyData) := (.list [.str c], .none) :: fs.map fun p => (.str p.1, p.2)
def errD (c : Str) (fs : List (Str × PyData)) : PyData := .dict (errK c fs)
def errOf : List (PyData × PyData) → Option Str
  | (.list [.str c], .none) :: _ => some c
  | _ => none
def noErr : PyData → Bool
  | .dict kvs => (errOf kvs).isNone
  | _ => true
def errN : List Str := ["ShownError", "TooMany", "SyntaxProblem", "NoRule", "NoTree", "NoPattern", "NoPlace", "NoLesson", "NoPair", "NoStay", "NoMark", "Mismatch", "InvalidCommand"]
def fldN : List Str := ["limit", "line", "column", "paper"]
def smI (k : Int) : Prop := k.natAbs.log2 < 1920 ∧ (toString k : Str).length ≤ 1000
def ikN : Ik → Str
  | .lim => "TooMany"
  | .syn => "SyntaxProblem"
  | .rul => "NoRule"
def mkP : Ik → List PV → (List (Str × PyData) → Prop) → Prop
  | .lim, [.d (.int k)], Q => smI k ∧ Q [("limit", .int k)]
  | .syn, [.d (.int l), .d (.int k)], Q => smI l ∧ smI k ∧ Q [("column", .int k), ("line", .int l)]
  | .rul, [.d x], Q => Q [("paper", x)]
  | _, _, _ => False
def isxB : Xq → Str → Bool
  | .own d, c => d == c || d == ("ShownError" : Str)
  | .val, _ => true
  | .oth, _ => false
def isxP (q : Xq) (d : PyData) (Q : Bool → Prop) : Prop := match d with
  | .dict kvs => (match errOf kvs with
    | some c => errN.contains c = true ∧ Q (isxB q c)
    | none => False)
  | _ => False
def lookF (f : Str) : List (PyData × PyData) → Option PyData
  | (.str g, x) :: r => if g = f then some x else lookF f r
  | _ => none
def fldP (f : Str) (d : PyData) (Q : PyData → Prop) : Prop := match d with
  | .dict kvs => (match errOf kvs, lookF f kvs.tail with
    | some c, some x => errN.contains c = true ∧ fldN.contains f = true ∧ Q x
    | _, _ => False)
  | _ => False
def signAt (z : Str) (i : Int) : Option Str := (L2.atI z.cps.toList i).map fun c => ⟨#[c]⟩
def ixP : PyData → PyData → (PyData → Prop) → Prop
  | .list xs, .int i, Q => match L2.atI xs i with
    | some x => Q x
    | none => False
  | .tuple xs, .int i, Q => match L2.atI xs i with
    | some x => Q x
    | none => False
  | .str z, .int i, Q => z.length ≤ sizeLine ∧ match signAt z i with
    | some x => Q (.str x)
    | none => False
  | .dict kvs, k, Q => plainK kvs = true ∧ isKey k = true ∧ match lookD kvs k with
    | some x => Q x
    | none => False
  | _, _, _ => False
def cutL {α : Type} (xs : List α) (lo hi : Option Int) : List α := (xs.drop (HT.sIx xs.length 0 lo)).take (HT.sIx xs.length xs.length hi - HT.sIx xs.length 0 lo)
def slcP : PyData → Option Int → Option Int → (PyData → Prop) → Prop
  | .list xs, l, h, Q => Q (.list (cutL xs l h))
  | .tuple xs, l, h, Q => Q (.tuple (cutL xs l h))
  | _, _, _, _ => False
/-- x[::-1]; x[:0:-1] -/
def rvP (all : Bool) : PyData → (PyData → Prop) → Prop
  | .list xs, Q => Q (.list (if all then xs.reverse else xs.tail.reverse))
  | .tuple xs, Q => Q (.tuple (if all then xs.reverse else xs.tail.reverse))
  | _, _ => False
def itemsP : PyData → (List PyData → Prop) → Prop
  | .list xs, Q => Q xs
  | .tuple xs, Q => Q xs
  | _, _ => False
def rangeL (lo hi : Int) : List PyData := (List.range (hi - lo).toNat).map fun (k : Nat) => .int (lo + k)
/-- range(hi, lo, -1) -/
def rangeD (hi lo : Int) : List PyData := (List.range (hi - lo).toNat).map fun (k : Nat) => .int (hi - k)
/-- tuple(range(n)) -/
def rngP : PyData → (PyData → Prop) → Prop
  | .int n, Q => -(2 ^ 62) ≤ n ∧ n < 2 ^ 62 ∧ n.toNat ≤ 2 ^ 24 ∧ Q (.tuple (rangeL 0 n))
  | _, _ => False
def enumL (xs : List PyData) : List PyData := xs.zipIdx.map fun p => .tuple [.int p.2, p.1]
def zipL (xs ys : List PyData) : List PyData := (xs.zip ys).map fun p => .tuple [p.1, p.2]
/-- the columns of rows of n items -/
def colsL (n : Nat) (rows : List (List PyData)) : List PyData := (List.range n).map fun k => .tuple (rows.map fun r => r.getD k .none)
/-- the first place of an equal one -/
def idxP (ds : List PyData) (d : PyData) (Q : Int → Prop) : Prop := SeqAt.shaped (.list ds) = true ∧ SeqAt.shaped d = true ∧ ∃ (j : Nat) (z : PyData), ds[j]? = some z ∧ PyData.eqv z d = true ∧ (∀ (m : Nat) (z' : PyData), m < j → ds[m]? = some z' → PyData.eqv z' d = false) ∧ Q j
def lvP (S : Sto) (v : PV) (Q : List PyData → Prop) : Prop := match v with
  | .d (.list xs) => Q xs
  | .r a => (match S a with
    | some (.lst xs) => Q xs
    | _ => False)
  | _ => False
/-- a store list that a loop walks stands as it stood -/
abbrev Gd := Option (Addr × List PyData)
def Gd.ok (S : Sto) : Gd → Prop
  | none => True
  | some (a, xs) => S a = some (.lst xs)
def inRg (i : Int) : Prop := -(2 ^ 62) ≤ i ∧ i < 2 ^ 62
def signsOf (z : Str) : List PyData := z.cps.toList.map fun c => .str ⟨#[c]⟩
def srcP (S : Sto) : Sk → List PV → (List PyData → Gd → Prop) → Prop
  | .val, [.d (.list xs)], Q => Q xs none
  | .val, [.d (.tuple xs)], Q => Q xs none
  | .val, [.d (.str z)], Q => Q (signsOf z) none
  | .val, [.r a], Q => match S a with
    | some (.lst xs) => Q xs (some (a, xs))
    | _ => False
  | .rng, [.d (.int n)], Q => inRg n ∧ Q (rangeL 0 n) none
  | .rng, [.d (.int a), .d (.int b)], Q => inRg a ∧ inRg b ∧ Q (rangeL a b) none
  | .rngC, [.d (.int a), .d (.int b), .d (.int c)], Q => c = -1 ∧ inRg a ∧ inRg b ∧ Q (rangeD a b) none
  | .enum, [.d (.list xs)], Q => Q (enumL xs) none
  | .enum, [.d (.tuple xs)], Q => Q (enumL xs) none
  | .val, [.d (.dict kvs)], Q => plainK kvs = true ∧ Q (kvs.map (·.1)) none
  | .items, [.d (.dict kvs)], Q => plainK kvs = true ∧ Q (kvs.map fun p => .tuple [p.1, p.2]) none
  | .itemsN, [.d (.dict kvs)], Q => plainK kvs = true ∧ Q (kvs.map fun p => .tuple [p.1, p.2]) none
  | .values, [.d (.dict kvs)], Q => plainK kvs = true ∧ Q (kvs.map (·.2)) none
  | .zip, [.d (.tuple xs), .d (.tuple ys)], Q => xs.length = ys.length ∧ Q (zipL xs ys) none
  | .zip, [.d (.list xs), .d (.list ys)], Q => xs.length = ys.length ∧ Q (zipL xs ys) none
  | .zipS, [.d (.list xs)], Q => ∃ (rows : List (List PyData)) (n : Nat), xs = rows.map .tuple ∧ rows ≠ [] ∧ (∀ r ∈ rows, r.length = n) ∧ Q (colsL n rows) none
  | .enZ, [.d (.list xs)], Q => ∃ (rows : List (List PyData)) (n : Nat), xs = rows.map .tuple ∧ rows ≠ [] ∧ (∀ r ∈ rows, r.length = n) ∧ Q (enumL (colsL n rows)) none
  | _, _, _ => False
/-! ### targets -/
def setAll : List Nat → List PyData → VE → Option VE
  | [], [], ρ => some ρ
  | i :: is, x :: xs, ρ => setAll is xs (ρ.set i (some (.v (.d x))))
  | _, _, _ => none
def tgP (ρ : VE) : Tg → PyData → (VE → Prop) → Prop
  | .nm i, x, Q => Q (ρ.set i (some (.v (.d x))))
  | .tup is, .tuple xs, Q => match setAll is xs ρ with
    | some ρ' => Q ρ'
    | none => False
  | _, _, _ => False
def wipeV (ρ : VE) : List Nat → VE
  | [] => ρ
  | i :: is => (wipeV ρ is).set i none
/-- behind a comprehension: its own names as they were ahead of it -/
def backV (ρ₀ ρ : VE) : List Nat → VE
  | [] => ρ
  | i :: is => (backV ρ₀ ρ is).set i (ρ₀[i]?.join)
/-! ### weakest preconditions -/
def Ex.late? : Ex → Option Nat
  | .var i => some i
  | _ => none
/-- an operation's argument: a name is not read, but looked at later -/
def wpX (e : Ex) (we : VE → Sto → (PV → VE → Sto → Prop) → Prop) (ρ : VE) (S : Sto) (Q : Arg → VE → Sto → Prop) : Prop := match e.late? with
  | some i => (∃ l, ρ[i]? = some (some l)) ∧ Q (.late i) ρ S
  | none => we ρ S fun v ρ' S' => Q (.now v) ρ' S'
/-- a name read: its list is nobody's own any more -/
def rdVar (ρ : VE) (S : Sto) (i : Nat) (Q : PV → VE → Sto → Prop) : Prop := match ρ[i]? with
  | some (some (.v p)) => Q p ρ S
  | some (some (.ol xs)) => Q (.d (.list xs)) (ρ.set i (some (.v (.d (.list xs))))) S
  | some (some (.od kvs)) => Q (.d (.dict kvs)) (ρ.set i (some (.v (.d (.dict kvs))))) S
  | _ => False
def isD (v : PV) (Q : PyData → Prop) : Prop := match v with
  | .d x => Q x
  | _ => False
def asL (v : PyData) (Q : List PyData → Prop) : Prop := match v with
  | .list xs => Q xs
  | _ => False
def isB (v : PV) (Q : Bool → Prop) : Prop := match v with
  | .d (.bool b) => Q b
  | _ => False
/-- x or .. by truth: a bool, None, a list -/
def orW (v : PV) (A : PV → Prop) (R : Prop) : Prop := match v with
  | .d (.bool b) => if b = true then A (.d (.bool true)) else R
  | .d .none => R
  | .d (.list xs) => if xs.isEmpty = true then R else A (.d (.list xs))
  | .d (.dict kvs) => plainK kvs = true ∧ if kvs.isEmpty = true then R else A (.d (.dict kvs))
  | _ => False
def isP (neg : Bool) : PyData → PyData → (Bool → Prop) → Prop
  | .none, .none, Q => Q (!neg)
  | .none, _, Q => Q neg
  | .bool b, .bool c, Q => Q (if neg then !decide (c = b) else decide (c = b))
  | _, _, _ => False
/-- v is k: a list, a dict of the store is not None -/
def isK (neg : Bool) (k : PyData) (v : PV) (Q : Bool → Prop) : Prop := match v with
  | .d d => isP neg k d Q
  | _ => (match k with
    | .none => Q neg
    | _ => False)
def isBP (neg b : Bool) (v : PV) (Q : Bool → Prop) : Prop := match v with
  | .d (.bool c) => Q (if neg then !decide (c = b) else decide (c = b))
  | _ => False
def isDic : PyData → Prop
  | .dict kvs => plainK kvs = true
  | _ => False
def getP (o k d : PyData) (Q : PyData → Prop) : Prop := match o with
  | .dict kvs => plainK kvs = true ∧ isKey k = true ∧ Q ((lookD kvs k).getD d)
  | _ => False
def lzP (d e : PyData) (Q : PyData → Prop) : Prop := match d, e with
  | .tuple xs, .tuple ys => xs.length = ys.length ∧ Q (.list (zipL xs ys))
  | _, _ => False
def slcQ (l h : Bool) (vs : List PV) (d : PyData) (Q : PyData → Prop) : Prop := match l, h, vs with
  | false, false, [] => slcP d none none Q
  | true, false, [.d (.int i)] => slcP d (some i) none Q
  | false, true, [.d (.int i)] => slcP d none (some i) Q
  | true, true, [.d (.int i), .d (.int j)] => slcP d (some i) (some j) Q
  | _, _, _ => False
def fnP (fs : List Str) (d : PyData) (Q : Str → Prop) : Prop := match d with
  | .int k => match L2.atI fs k with
    | some f => Q f
    | none => False
  | _ => False
def noE : EK := fun _ _ _ => False
abbrev WE := VE → Sto → (PV → VE → Sto → Prop) → Prop
abbrev WT := VE → Sto → (Bool → VE → Sto → Prop) → Prop
/-- a comprehension's turns -/
def compW (own : List Nat) (tg : Tg) (wc : WT) (we : WE) (gd : Gd) : List PyData → List PyData → VE → Sto → (List PyData → VE → Sto → Prop) → Prop
  | [], acc, ρ, S, Q => Gd.ok S gd ∧ Q acc ρ S
  | x :: xs, acc, ρ, S, Q => Gd.ok S gd ∧ acc.length < sizeLine ∧ tgP ρ tg x fun ρ1 => wc ρ1 S fun b ρ2 S2 => if b = true then
      we ρ2 S2 fun v ρ3 S3 => isD v fun y => compW own tg wc we gd xs (acc ++ [y]) (wipeV ρ3 own) S3 Q
    else compW own tg wc we gd xs acc (wipeV ρ2 own) S2 Q
def sdel (S : Sto) (a : Addr) : Sto := fun b => if b = a then none else S b
/-- a call that is lent an own dict, as its last argument -/
def borW (Φ : Phi) (f : Str) (vs : List PV) (i : Nat) (ρ : VE) (S : Sto) (Q : PV → VE → Sto → Prop) : Prop := match ρ[i]? with
  | some (some (.od kvs)) => ∀ p, S p = none → Φ f (vs ++ [.r p]) (sput S p (.dic kvs)) (fun v S2 => ∃ kvs2, S2 p = some (.dic kvs2) ∧ Q v (ρ.set i (some (.od kvs2))) (sdel S2 p)) fun _ _ => False
  | _ => False
/-- .. of two sources -/
def comp2W (own : List Nat) (tg : Tg) (wc : WT) (src1 : VE → Sto → (List PyData → Gd → VE → Sto → Prop) → Prop) (own1 : List Nat) (tg1 : Tg) (wc1 : WT) (we : WE) (gd : Gd) : List PyData → List PyData → VE → Sto → (List PyData → VE → Sto → Prop) → Prop
  | [], acc, ρ, S, Q => Gd.ok S gd ∧ Q acc ρ S
  | x :: xs, acc, ρ, S, Q => Gd.ok S gd ∧ tgP ρ tg x fun ρ1 => wc ρ1 S fun b ρ2 S2 => if b = true then
      src1 ρ2 S2 fun ys gd1 ρ3 S3 => compW own1 tg1 wc1 we gd1 ys acc (wipeV ρ3 own1) S3 fun acc' ρ4 S4 => comp2W own tg wc src1 own1 tg1 wc1 we gd xs acc' (wipeV ρ4 own) S4 Q
    else comp2W own tg wc src1 own1 tg1 wc1 we gd xs acc (wipeV ρ2 own) S2 Q
/-- .. of a dict comprehension -/
def dcompW (own : List Nat) (tg : Tg) (wc : WT) (wk wv : WE) (gd : Gd) : List PyData → List (PyData × PyData) → VE → Sto → (List (PyData × PyData) → VE → Sto → Prop) → Prop
  | [], acc, ρ, S, Q => Gd.ok S gd ∧ Q acc ρ S
  | x :: xs, acc, ρ, S, Q => Gd.ok S gd ∧ acc.length < sizeLine ∧ tgP ρ tg x fun ρ1 => wc ρ1 S fun b ρ2 S2 => if b = true then
      wk ρ2 S2 fun u ρ3 S3 => isD u fun k => isKey k = true ∧ wv ρ3 S3 fun v ρ4 S4 => isD v fun y => dcompW own tg wc wk wv gd xs (putD acc k y) (wipeV ρ4 own) S4 Q
    else dcompW own tg wc wk wv gd xs acc (wipeV ρ2 own) S2 Q
mutual
def wpE (Φ : Phi) (E : EK) : Ex → VE → Sto → (PV → VE → Sto → Prop) → Prop
  | .kd d, ρ, S, Q => Q (.d d) ρ S
  | .var i, ρ, S, Q => rdVar ρ S i Q
  | .gl _ d, ρ, S, Q => Q (.d d) ρ S
  | .bin op a b, ρ, S, Q => wpX a (wpE Φ E a) ρ S fun x ρ1 S1 => wpX b (wpE Φ E b) ρ1 S1 fun y ρ2 S2 => con ρ2 S2 x fun d => con ρ2 S2 y fun e => binP op d e fun r => Q (.d r) ρ2 S2
  | .cmp op a b, ρ, S, Q => wpX a (wpE Φ E a) ρ S fun x ρ1 S1 => wpX b (wpE Φ E b) ρ1 S1 fun y ρ2 S2 => con ρ2 S2 x fun d => con ρ2 S2 y fun e => cmpP op d e fun r => Q (.d (.bool r)) ρ2 S2
  | .chain op op' a b c, ρ, S, Q => wpX a (wpE Φ E a) ρ S fun x ρ1 S1 => wpX b (wpE Φ E b) ρ1 S1 fun y ρ2 S2 => con ρ2 S2 x fun d => con ρ2 S2 y fun e => cmpP op d e fun r =>
      if r = true then wpX c (wpE Φ E c) ρ2 S2 fun z ρ3 S3 => con ρ3 S3 y fun e => con ρ3 S3 z fun f => cmpP op' e f fun r' => Q (.d (.bool r')) ρ3 S3 else Q (.d (.bool false)) ρ2 S2
  | .isk neg k a, ρ, S, Q => wpE Φ E a ρ S fun v ρ1 S1 => isK neg k v fun b => Q (.d (.bool b)) ρ1 S1
  | .isB neg k a, ρ, S, Q => wpE Φ E a ρ S fun v ρ1 S1 => isBP neg k v fun b => Q (.d (.bool b)) ρ1 S1
  | .dget o k d, ρ, S, Q => wpX o (wpE Φ E o) ρ S fun x ρ1 S1 => con ρ1 S1 x isDic ∧ wpE Φ E k ρ1 S1 fun u ρ2 S2 => isD u fun kd => wpE Φ E d ρ2 S2 fun v ρ3 S3 => isD v fun dd => con ρ3 S3 x fun od => getP od kd dd fun r => Q (.d r) ρ3 S3
  | .trng a, ρ, S, Q => wpE Φ E a ρ S fun v ρ1 S1 => isD v fun d => rngP d fun r => Q (.d r) ρ1 S1
  | .ddis k e, ρ, S, Q => wpE Φ E k ρ S fun u ρ1 S1 => isD u fun kd => wpE Φ E e ρ1 S1 fun v ρ2 S2 => isD v fun d => isKey kd = true ∧ Q (.d (.dict [(kd, d)])) ρ2 S2
  | .ddis2 k e k2 e2, ρ, S, Q => wpE Φ E k ρ S fun u ρ1 S1 => isD u fun kd => wpE Φ E e ρ1 S1 fun v ρ2 S2 => isD v fun d => wpE Φ E k2 ρ2 S2 fun u2 ρ3 S3 => isD u2 fun kd2 => wpE Φ E e2 ρ3 S3 fun v2 ρ4 S4 => isD v2 fun d2 => isKey kd = true ∧ oddB kd2 [(kd, d)] = true ∧ Q (.d (.dict [(kd, d), (kd2, d2)])) ρ4 S4
  | .litems a, ρ, S, Q => wpE Φ E a ρ S fun v ρ1 S1 => isD v fun d => litP d fun r => Q (.d r) ρ1 S1
  | .dctB a, ρ, S, Q => wpE Φ E a ρ S fun v ρ1 S1 => isD v fun d => dctP d fun r => Q (.d r) ρ1 S1
  | .srtS a, ρ, S, Q => wpE Φ E a ρ S fun v ρ1 S1 => isD v fun d => srtP d fun r => Q (.d r) ρ1 S1
  | .lidx a b, ρ, S, Q => wpE Φ E a ρ S fun v ρ1 S1 => lvP S1 v fun _ => wpE Φ E b ρ1 S1 fun u ρ2 S2 => isD u fun d => lvP S2 v fun ds => idxP ds d fun k => Q (.d (.int k)) ρ2 S2
  | .lzip a b, ρ, S, Q => wpX a (wpE Φ E a) ρ S fun x ρ1 S1 => wpX b (wpE Φ E b) ρ1 S1 fun y ρ2 S2 => con ρ2 S2 x fun d => con ρ2 S2 y fun e => lzP d e fun r => Q (.d r) ρ2 S2
  | .dcomp own tg sk as cs k e, ρ, S, Q => wpAs Φ E as ρ S fun vs ρ1 S1 => srcP S1 sk vs fun xs gd =>
      dcompW (own.map (·.2)) tg (wpTAnd Φ noE cs) (wpE Φ noE k) (wpE Φ noE e) gd xs [] (wipeV ρ1 (own.map (·.2))) S1 fun ys ρ2 S2 => Q (.d (.dict ys)) (backV ρ1 ρ2 (own.map (·.2))) S2
  | .dcompS own tg sk as cs k e, ρ, S, Q => wpAs Φ E as ρ S fun vs ρ1 S1 => srcP S1 sk vs fun xs gd =>
      dcompW (own.map (·.2)) tg (wpTAnd Φ noE cs) (wpE Φ noE k) (wpE Φ noE e) gd xs [] (wipeV ρ1 (own.map (·.2))) S1 fun ys ρ2 S2 => ∀ a, S2 a = none → Q (.r a) (backV ρ1 ρ2 (own.map (·.2))) (sput S2 a (.dic ys))
  | .inst T a, ρ, S, Q => wpX a (wpE Φ E a) ρ S fun x ρ1 S1 => con ρ1 S1 x fun d => noErr d = true ∧ Q (.d (.bool (instB T d))) ρ1 S1
  | .andE as, ρ, S, Q => wpAnd Φ E as ρ S Q
  | .orE as, ρ, S, Q => wpOr Φ E as ρ S Q
  | .notE a, ρ, S, Q => wpX a (wpE Φ E a) ρ S fun x ρ1 S1 => con ρ1 S1 x fun d => truP d fun b => Q (.d (.bool (!b))) ρ1 S1
  | .ite c a b, ρ, S, Q => wpT Φ E c ρ S fun t ρ1 S1 => if t = true then wpE Φ E a ρ1 S1 Q else wpE Φ E b ρ1 S1 Q
  | .fnc f a, ρ, S, Q => wpX a (wpE Φ E a) ρ S fun x ρ1 S1 => con ρ1 S1 x fun d => bfP f d fun r => Q (.d r) ρ1 S1
  | .call f as, ρ, S, Q => wpAs Φ E as ρ S fun vs ρ1 S1 => Φ f vs S1 (fun v S2 => Q v ρ1 S2) fun x S2 => E x ρ1 S2
  | .ix a b, ρ, S, Q => wpX a (wpE Φ E a) ρ S fun x ρ1 S1 => wpX b (wpE Φ E b) ρ1 S1 fun y ρ2 S2 => con ρ2 S2 x fun d => con ρ2 S2 y fun e => ixP d e fun r => Q (.d r) ρ2 S2
  | .slc l h a as, ρ, S, Q => wpX a (wpE Φ E a) ρ S fun x ρ1 S1 => wpAs Φ E as ρ1 S1 fun vs ρ2 S2 => conL ρ2 S2 x fun d => slcQ l h vs d fun r => Q (.d r) ρ2 S2
  | .tup as, ρ, S, Q => wpIs Φ E as ρ S fun ds ρ1 S1 => ds.length ≤ sizeLine ∧ Q (.d (.tuple ds)) ρ1 S1
  | .lst sto as, ρ, S, Q => wpIs Φ E as ρ S fun ds ρ1 S1 => ds.length ≤ sizeLine ∧ match sto with
    | false => Q (.d (.list ds)) ρ1 S1
    | true => ∀ a, S1 a = none → Q (.r a) ρ1 (sput S1 a (.lst ds))
  | .edic, ρ, S, Q => Q (.d (.dict [])) ρ S
  | .frz a, ρ, S, Q => wpE Φ E a ρ S fun v ρ1 S1 => ∃ p xs, v = .r p ∧ S p = none ∧ S1 p = some (.lst xs) ∧ Q (.d (.list xs)) ρ1 (sdel S1 p)
  | .edicS, ρ, S, Q => ∀ a, S a = none → Q (.r a) ρ (sput S a (.dic []))
  | .callB1 f a i, ρ, S, Q => wpE Φ E a ρ S fun v ρ1 S1 => borW Φ f [v] i ρ1 S1 Q
  | .callB2 f a b i, ρ, S, Q => wpE Φ E a ρ S fun v ρ1 S1 => wpE Φ E b ρ1 S1 fun u ρ2 S2 => borW Φ f [v, u] i ρ2 S2 Q
  | .comp own tg sk as cs e, ρ, S, Q => wpAs Φ E as ρ S fun vs ρ1 S1 => srcP S1 sk vs fun xs gd =>
      compW (own.map (·.2)) tg (wpTAnd Φ noE cs) (wpE Φ noE e) gd xs [] (wipeV ρ1 (own.map (·.2))) S1 fun ys ρ2 S2 => Q (.d (.list ys)) (backV ρ1 ρ2 (own.map (·.2))) S2
  | .popv i, ρ, S, Q => match ρ[i]? with
    | some (some (.ol xs)) => match xs.getLast? with
      | some x => Q (.d x) (ρ.set i (some (.ol xs.dropLast))) S
      | none => False
    | _ => False
  | .callL fs i as, ρ, S, Q => wpE Φ E i ρ S fun v ρ1 S1 => isD v fun d => fnP fs d fun f => wpAs Φ E as ρ1 S1 fun vs ρ2 S2 => Φ f vs S2 (fun v S3 => Q v ρ2 S3) fun x S3 => E x ρ2 S3
  | .join sep a, ρ, S, Q => wpX a (wpE Φ E a) ρ S fun x ρ1 S1 => con ρ1 S1 x fun d => joinP sep d fun r => Q (.d r) ρ1 S1
  | .comp2 own tg sk as cs own1 tg1 sk1 as1 cs1 e, ρ, S, Q => wpAs Φ E as ρ S fun vs ρ1 S1 => srcP S1 sk vs fun xs gd =>
      comp2W (own.map (·.2)) tg (wpTAnd Φ noE cs) (fun ρ S K => wpAs Φ noE as1 ρ S fun vs ρ1 S1 => srcP S1 sk1 vs fun ys gd1 => K ys gd1 ρ1 S1) own1 tg1 (wpTAnd Φ noE cs1) (wpE Φ noE e) gd xs [] (wipeV ρ1 (own.map (·.2))) S1 fun ys ρ2 S2 => Q (.d (.list ys)) (backV ρ1 ρ2 (own.map (·.2))) S2
  | .rv all a, ρ, S, Q => wpX a (wpE Φ E a) ρ S fun x ρ1 S1 => con ρ1 S1 x fun d => rvP all d fun r => Q (.d r) ρ1 S1
  | .catS a b, ρ, S, Q => wpX a (wpE Φ E a) ρ S fun x ρ1 S1 => wpX b (wpE Φ E b) ρ1 S1 fun y ρ2 S2 => con ρ2 S2 x fun d => con ρ2 S2 y fun e => catP d e fun xs => ∀ a, S2 a = none → Q (.r a) ρ2 (sput S2 a (.lst xs))
  | .mkE c a, ρ, S, Q => wpE Φ E a ρ S fun _ ρ1 S1 => Q (.d (errD c [])) ρ1 S1
  | .mkI k as, ρ, S, Q => wpAs Φ E as ρ S fun vs ρ1 S1 => mkP k vs fun fs => Q (.d (errD (ikN k) fs)) ρ1 S1
  | .isx q a, ρ, S, Q => wpX a (wpE Φ E a) ρ S fun x ρ1 S1 => con ρ1 S1 x fun d => isxP q d fun b => Q (.d (.bool b)) ρ1 S1
  | .fld f a, ρ, S, Q => wpE Φ E a ρ S fun v ρ1 S1 => isD v fun d => fldP f d fun x => Q (.d x) ρ1 S1
  | .fncS f a, ρ, S, Q => wpX a (wpE Φ E a) ρ S fun x ρ1 S1 => con ρ1 S1 x fun d => bfP f d fun r => asL r fun xs => ∀ a, S1 a = none → Q (.r a) ρ1 (sput S1 a (.lst xs))
  | .compS own tg sk as cs e, ρ, S, Q => wpAs Φ E as ρ S fun vs ρ1 S1 => srcP S1 sk vs fun xs gd =>
      compW (own.map (·.2)) tg (wpTAnd Φ noE cs) (wpE Φ noE e) gd xs [] (wipeV ρ1 (own.map (·.2))) S1 fun ys ρ2 S2 => ∀ a, S2 a = none → Q (.r a) (backV ρ1 ρ2 (own.map (·.2))) (sput S2 a (.lst ys))
def wpT (Φ : Phi) (E : EK) : Te → VE → Sto → (Bool → VE → Sto → Prop) → Prop
  | .of e, ρ, S, Q => wpX e (wpE Φ E e) ρ S fun x ρ1 S1 => con ρ1 S1 x fun d => truP d fun b => Q b ρ1 S1
  | .and ts, ρ, S, Q => wpTAnd Φ E ts ρ S Q
  | .or ts, ρ, S, Q => wpTOr Φ E ts ρ S Q
  | .not t, ρ, S, Q => wpT Φ E t ρ S fun b ρ1 S1 => Q (!b) ρ1 S1
def wpIm (Φ : Phi) (E : EK) : Im → VE → Sto → (List PyData → VE → Sto → Prop) → Prop
  | .one e, ρ, S, Q => wpE Φ E e ρ S fun v ρ1 S1 => isD v fun x => Q [x] ρ1 S1
  | .star e, ρ, S, Q => wpX e (wpE Φ E e) ρ S fun x ρ1 S1 => con ρ1 S1 x fun d => itemsP d fun xs => Q xs ρ1 S1
def wpAs (Φ : Phi) (E : EK) : List Ex → VE → Sto → (List PV → VE → Sto → Prop) → Prop
  | [], ρ, S, Q => Q [] ρ S
  | a :: as, ρ, S, Q => wpE Φ E a ρ S fun v ρ1 S1 => wpAs Φ E as ρ1 S1 fun vs ρ2 S2 => Q (v :: vs) ρ2 S2
/-- a display's items -/
def wpIs (Φ : Phi) (E : EK) : List Im → VE → Sto → (List PyData → VE → Sto → Prop) → Prop
  | [], ρ, S, Q => Q [] ρ S
  | a :: as, ρ, S, Q => wpIm Φ E a ρ S fun xs ρ1 S1 => wpIs Φ E as ρ1 S1 fun ys ρ2 S2 => Q (xs ++ ys) ρ2 S2
def wpAnd (Φ : Phi) (E : EK) : List Ex → VE → Sto → (PV → VE → Sto → Prop) → Prop
  | [], _, _, _ => False
  | a :: as, ρ, S, Q => wpE Φ E a ρ S fun v ρ1 S1 => match as with
    | [] => Q v ρ1 S1
    | _ :: _ => isB v fun b => if b = true then wpAnd Φ E as ρ1 S1 Q else Q (.d (.bool false)) ρ1 S1
def wpOr (Φ : Phi) (E : EK) : List Ex → VE → Sto → (PV → VE → Sto → Prop) → Prop
  | [], _, _, _ => False
  | a :: as, ρ, S, Q => wpE Φ E a ρ S fun v ρ1 S1 => match as with
    | [] => Q v ρ1 S1
    | _ :: _ => orW v (fun w => Q w ρ1 S1) (wpOr Φ E as ρ1 S1 Q)
def wpTAnd (Φ : Phi) (E : EK) : List Te → VE → Sto → (Bool → VE → Sto → Prop) → Prop
  | [], ρ, S, Q => Q true ρ S
  | a :: as, ρ, S, Q => wpT Φ E a ρ S fun b ρ1 S1 => if b = true then wpTAnd Φ E as ρ1 S1 Q else Q false ρ1 S1
def wpTOr (Φ : Phi) (E : EK) : List Te → VE → Sto → (Bool → VE → Sto → Prop) → Prop
  | [], ρ, S, Q => Q false ρ S
  | a :: as, ρ, S, Q => wpT Φ E a ρ S fun b ρ1 S1 => if b = true then Q true ρ1 S1 else wpTOr Φ E as ρ1 S1 Q
end
def asD (v : PyData) (Q : List (PyData × PyData) → Prop) : Prop := match v with
  | .dict kvs => Q kvs
  | _ => False
/-- a right side's end -/
def wpR (Φ : Phi) (E : EK) : Rh → VE → Sto → (Lo → VE → Sto → Prop) → Prop
  | .val e, ρ, S, Q => wpE Φ E e ρ S fun v ρ1 S1 => Q (.v v) ρ1 S1
  | .disp as, ρ, S, Q => wpIs Φ E as ρ S fun ds ρ1 S1 => ds.length ≤ sizeLine ∧ Q (.ol ds) ρ1 S1
  | .edic, ρ, S, Q => Q (.od []) ρ S
  | .take a, ρ, S, Q => wpE Φ E a ρ S fun v ρ1 S1 => ∃ p xs, v = .r p ∧ S p = none ∧ S1 p = some (.lst xs) ∧ Q (.ol xs) ρ1 (sdel S1 p)
  | .dct e, ρ, S, Q => wpX e (wpE Φ E e) ρ S fun x ρ1 S1 => con ρ1 S1 x fun d => bfP .dict d fun r => asD r fun kvs => Q (.od kvs) ρ1 S1
  | .comp own tg sk as cs e, ρ, S, Q => wpAs Φ E as ρ S fun vs ρ1 S1 => srcP S1 sk vs fun xs gd =>
      compW (own.map (·.2)) tg (wpTAnd Φ noE cs) (wpE Φ noE e) gd xs [] (wipeV ρ1 (own.map (·.2))) S1 fun ys ρ2 S2 => Q (.ol ys) (backV ρ1 ρ2 (own.map (·.2))) S2
structure EndsV where
  nx : VE → Sto → Prop
  rt : PV → Sto → Prop
  bk : VE → Sto → Prop := fun _ _ => False
  ct : VE → Sto → Prop := fun _ _ => False
  ex : EK
abbrev WS := VE → Sto → EndsV → Prop
def forW (tg : Tg) (wb : WS) (gd : Gd) : List PyData → WS
  | [], ρ, S, D => Gd.ok S gd ∧ D.nx ρ S
  | x :: xs, ρ, S, D => Gd.ok S gd ∧ tgP ρ tg x fun ρ1 => wb ρ1 S { D with nx := fun ρ2 S2 => forW tg wb gd xs ρ2 S2 D, ct := fun ρ2 S2 => forW tg wb gd xs ρ2 S2 D, bk := D.nx }
def whileW (wc : WT) (wb : WS) : WS := fun ρ S D => ∃ I : Nat → VE → Sto → Prop, (∃ n, I n ρ S) ∧ ∀ n ρ S, I n ρ S → wc ρ S fun b ρ1 S1 =>
  if b = true then wb ρ1 S1 { D with nx := fun ρ2 S2 => ∃ m, m < n ∧ I m ρ2 S2, ct := fun ρ2 S2 => ∃ m, m < n ∧ I m ρ2 S2, bk := D.nx } else D.nx ρ1 S1
def setAt (xs : List PyData) (k : PyData) (x : PyData) (Q : List PyData → Prop) : Prop := match k with
  | .int i => match L2.ixN xs.length i with
    | some j => Q (xs.set j x)
    | none => False
  | _ => False
def setPV (k x : PyData) (v : PV) (S : Sto) (Q : Sto → Prop) : Prop := match v with
  | .d _ => False
  | .s _ => False
  | .r a => match S a with
    | some (.lst xs) => setAt xs k x fun ys => Q (sput S a (.lst ys))
    | some (.dic kvs) => isKey k = true ∧ kvs.length < 1000000 ∧ Q (sput S a (.dic (putD kvs k x)))
    | none => False
def setW (k x : PyData) (o : Arg) (ρ : VE) (S : Sto) (Q : VE → Sto → Prop) : Prop := match o with
  | .now v => setPV k x v S fun S' => Q ρ S'
  | .late i => match ρ[i]? with
    | some (some (.v p)) => setPV k x p S fun S' => Q ρ S'
    | some (some (.ol xs)) => setAt xs k x fun ys => Q (ρ.set i (some (.ol ys))) S
    | some (some (.od kvs)) => (isKey k = true ∧ kvs.length < 1000000 ∧ Q (ρ.set i (some (.od (putD kvs k x)))) S) ∨ (oddB k kvs = true ∧ kvs.length < 1000000 ∧ Q (ρ.set i (some (.v (.d (.dict (kvs ++ [(k, x)])))))) S)
    | _ => False
def grow (ρ : VE) (i : Nat) (ys : List PyData) (Q : VE → Prop) : Prop := match ρ[i]? with
  | some (some (.ol xs)) => xs.length + ys.length ≤ sizeLine ∧ Q (ρ.set i (some (.ol (xs ++ ys))))
  | _ => False
def isOl (ρ : VE) (i : Nat) : Prop := ∃ xs, ρ[i]? = some (some (.ol xs))
def intAt (ρ : VE) (i : Nat) (Q : Int → Prop) : Prop := match ρ[i]? with
  | some (some (.v (.d (.int x)))) => Q x
  | _ => False
/-- a list of the store, told by the value at hand -/
def stoL (v : PV) (S : Sto) (Q : Addr → List PyData → Prop) : Prop := match v with
  | .r a => match S a with
    | some (.lst xs) => Q a xs
    | _ => False
  | _ => False
def stoD (v : PV) (S : Sto) (Q : Addr → List (PyData × PyData) → Prop) : Prop := match v with
  | .r a => match S a with
    | some (.dic kvs) => Q a kvs
    | _ => False
  | _ => False
/-- x op= y of ints -/
def augP : Bop → Int → PyData → (Int → Prop) → Prop
  | .add, i, .int j, Q => Q (i + j)
  | .sub, i, .int j, Q => Q (i - j)
  | .mul, i, .int j, Q => (L2.CMulW i j ∨ L2.CMul i j) ∧ Q (i * j)
  | _, _, _, _ => False
def hdW (D : EndsV) : List Hd → EK
  | [], x, ρ, S => D.ex x ρ S
  | h :: hs, x, ρ, S => if x.cls = h.cls then (match h.f with
    | some nm => h.i < ρ.length ∧ (match x.fs.lookup nm with
      | some d => D.nx (((ρ.set h.i none).set h.j (some (.v (.d d)))).set h.i none) S
      | none => False)
    | none => match h.k with
      | some k => D.nx (((ρ.set h.i none).set h.j (some (.v (.d k)))).set h.i none) S
      | none => False) else hdW D hs x ρ S
mutual
def wpS (Φ : Phi) : Sm → VE → Sto → EndsV → Prop
  | .asg i r, ρ, S, D => wpR Φ D.ex r ρ S fun l ρ1 S1 => D.nx (ρ1.set i (some l)) S1
  | .par i j r r', ρ, S, D => wpR Φ D.ex r ρ S fun l ρ1 S1 => wpR Φ D.ex r' ρ1 S1 fun l' ρ2 S2 => D.nx ((ρ2.set i (some l)).set j (some l')) S2
  | .unpack is e, ρ, S, D => wpE Φ D.ex e ρ S fun v ρ1 S1 => isD v fun d => tgP ρ1 (.tup is) d fun ρ2 => D.nx ρ2 S1
  | .asgE i own tg sk as cs e, ρ, S, D => wpAs Φ D.ex as ρ S fun vs ρ1 S1 => srcP S1 sk vs fun xs gd =>
      compW (own.map (·.2)) tg (wpTAnd Φ noE cs) (wpE Φ (fun x ρe Se => D.ex x (backV ρ1 (wipeV ρe (own.map (·.2))) (own.map (·.2))) Se) e) gd xs [] (wipeV ρ1 (own.map (·.2))) S1 fun ys ρ2 S2 => D.nx ((backV ρ1 ρ2 (own.map (·.2))).set i (some (.ol ys))) S2
  | .unpackL is e, ρ, S, D => wpE Φ D.ex e ρ S fun v ρ1 S1 => isD v fun d => asL d fun xs => tgP ρ1 (.tup is) (.tuple xs) fun ρ2 => D.nx ρ2 S1
  | .ret e, ρ, S, D => wpE Φ D.ex e ρ S fun v _ S1 => D.rt v S1
  | .retN, _, S, D => D.rt (.d .none) S
  | .expr e, ρ, S, D => wpE Φ D.ex e ρ S fun _ ρ1 S1 => D.nx ρ1 S1
  | .ifs c t e, ρ, S, D => wpT Φ D.ex c ρ S fun b ρ1 S1 => if b = true then wpSs Φ t ρ1 S1 D else wpSs Φ e ρ1 S1 D
  | .forS tg sk as b, ρ, S, D => wpAs Φ D.ex as ρ S fun vs ρ1 S1 => srcP S1 sk vs fun xs gd => forW tg (wpSs Φ b) gd xs ρ1 S1 D
  | .whileS c b, ρ, S, D => whileW (wpT Φ D.ex c) (wpSs Φ b) ρ S D
  | .aug i op e, ρ, S, D => intAt ρ i fun x => wpE Φ D.ex e ρ S fun v ρ1 S1 => isD v fun y => augP op x y fun r => D.nx (ρ1.set i (some (.v (.d (.int r))))) S1
  | .app i e, ρ, S, D => isOl ρ i ∧ wpE Φ D.ex e ρ S fun v ρ1 S1 => isD v fun x => grow ρ1 i [x] fun ρ2 => D.nx ρ2 S1
  | .ext i e, ρ, S, D => isOl ρ i ∧ wpX e (wpE Φ D.ex e) ρ S fun v ρ1 S1 => con ρ1 S1 v fun d => itemsP d fun ys => grow ρ1 i ys fun ρ2 => D.nx ρ2 S1
  | .setI a b e, ρ, S, D => wpE Φ D.ex e ρ S fun v ρ1 S1 => isD v fun x => wpX a (wpE Φ D.ex a) ρ1 S1 fun o ρ2 S2 => wpE Φ D.ex b ρ2 S2 fun k ρ3 S3 => isD k fun k => setW k x o ρ3 S3 D.nx
  | .brk, ρ, S, D => D.bk ρ S
  | .cont, ρ, S, D => D.ct ρ S
  | .pass, ρ, S, D => D.nx ρ S
  | .bad, _, _, _ => False
  | .raiseT c, ρ, S, D => D.ex ⟨c, []⟩ ρ S
  | .raiseL c e, ρ, S, D => wpE Φ D.ex e ρ S fun v ρ1 S1 => isD v fun x => ∃ k : Int, x = .int k ∧ k.natAbs.log2 < 1920 ∧ (toString k : Str).length ≤ 1000 ∧ D.ex ⟨c, [(("limit" : Str), .int k)]⟩ ρ1 S1
  | .tryS b hs, ρ, S, D => wpSs Φ b ρ S { D with ex := fun x ρ1 S1 => hdW D hs x ρ1 S1 }
  | .clrD e, ρ, S, D => wpE Φ D.ex e ρ S fun v ρ1 S1 => stoD v S1 fun a _ => D.nx ρ1 (sput S1 a (.dic []))
  | .clrE e, ρ, S, D => wpE Φ D.ex e ρ S fun v ρ1 S1 => stoL v S1 fun a _ => D.nx ρ1 (sput S1 a (.lst []))
  | .appE o e, ρ, S, D => wpE Φ D.ex o ρ S fun v ρ1 S1 => stoL v S1 fun a _ => wpE Φ D.ex e ρ1 S1 fun u ρ2 S2 => isD u fun x => stoL (.r a) S2 fun _ xs => xs.length < sizeLine ∧ D.nx ρ2 (sput S2 a (.lst (xs ++ [x])))
def wpSs (Φ : Phi) : List Sm → VE → Sto → EndsV → Prop
  | [], ρ, S, D => D.nx ρ S
  | a :: as, ρ, S, D => wpS Φ a ρ S { D with nx := fun ρ1 S1 => wpSs Φ as ρ1 S1 D }
end
def startV (d : Dfn) (vs : List PV) : VE := vs.map (fun v => some (.v v)) ++ List.replicate (d.N.length - d.ps) none
/-- a call that goes at most n calls deep -/
def callW (T : Str → Option Dfn) : Nat → Phi
  | 0 => fun _ _ _ _ _ => False
  | n + 1 => fun f vs S Q E => match T f with
    | some d => vs.length = d.ps ∧ wpSs (callW T n) d.body (startV d vs) S { nx := fun _ S' => Q (.d .none) S', rt := Q, ex := fun x _ S' => E x S' }
    | none => False
end Lk
/-! D1: how data and the store lie in the abstract heap. -/
namespace Lk
open PySem PySem.Spec PyProof.Rows L2
def FzL (H : Hp) (a : Addr) (vs : List V) : Prop := ∃ o, H a = some (.frz o (.lst vs))
/-- an error of the class at C with these fields -/
def ErrAt (H : Hp) (a C : Addr) (fs : List (Str × V)) : Prop := (fs = [] ∧ ∃ oe, H a = some (.frz oe (ExO (.ref C) a))) ∨ ∃ oe dd od, H a = some (.frz oe (exo a C (some dd))) ∧ H dd = some (.frz od (exd dd fs))
def FzD (H : Hp) (a : Addr) (ks : List (Key × V)) : Prop := ∃ o, H a = some (.frz o (.dK ks))
section
variable (K : PySem.W.Frag)
mutual
/-- data that nobody changes any more -/
def Rep (H : Hp) : PyData → V → Prop
  | .none, v => v = .non
  | .bool b, v => v = .bl b
  | .int i, v => v = .int i
  | .str x, v => v = .str x
  | .tuple ds, v => ∃ a vs, v = .ref a ∧ SqT K H a vs ∧ Reps H ds vs
  | .list ds, v => ∃ a vs, v = .ref a ∧ FzL H a vs ∧ Reps H ds vs
  | .dict kvs, v => (∃ a ks, v = .ref a ∧ FzD H a ks ∧ RepK H kvs ks) ∨ (∃ a o x es ep, v = .ref a ∧ (plainK kvs = false ∧ errOf kvs = none) ∧ H a = some (.frz o (.own x)) ∧ o.ExactDict ∧ o.data = .dict es ep ∧ es.size ≤ sizeLine ∧ RepE H kvs es.toList) ∨ ∃ a c fs, v = .ref a ∧ ErrAt H a (He.ga K c) fs ∧ RepR H kvs c fs
def Reps (H : Hp) : List PyData → List V → Prop
  | [], vs => vs = []
  | d :: ds, vs => ∃ v r, vs = v :: r ∧ Rep H d v ∧ Reps H ds r
def RepK (H : Hp) : List (PyData × PyData) → List (Key × V) → Prop
  | [], ks => ks = []
  | p :: r, ks => ∃ q v s, ks = (q, v) :: s ∧ keyD p.1 = some q ∧ Rep H p.2 v ∧ RepK H r s
/-- the entries of a dict with odd keys -/
def RepE (H : Hp) : List (PyData × PyData) → List DictEntry → Prop
  | [], es => es = []
  | p :: r, es => ∃ e s k v, es = e :: s ∧ RelV k e.key ∧ RelV v e.val ∧ Rep H p.1 k ∧ Rep H p.2 v ∧ RepE H r s
/-- the fields of an error -/
def RepF (H : Hp) : List (PyData × PyData) → List (Str × V) → Prop
  | [], fs => fs = []
  | p :: r, fs => ∃ f v t, p.1 = .str f ∧ fs = (f, v) :: t ∧ Rep H p.2 v ∧ RepF H r t
def RepR (H : Hp) : List (PyData × PyData) → Str → List (Str × V) → Prop
  | [], _, _ => False
  | p :: r, c, fs => p = (.list [.str c], .none) ∧ RepF H r fs
end
/-- what stands there now -/
def Cur (H : Hp) : PyData → V → Prop
  | .list ds, v => ∃ a vs, v = .ref a ∧ Rd H a (.lst vs) ∧ Reps K H ds vs
  | .dict kvs, v => (∃ a ks, v = .ref a ∧ Rd H a (.dK ks) ∧ RepK K H kvs ks) ∨ (∃ a o x es ep, v = .ref a ∧ (plainK kvs = false ∧ errOf kvs = none) ∧ H a = some (.frz o (.own x)) ∧ o.ExactDict ∧ o.data = .dict es ep ∧ es.size ≤ sizeLine ∧ RepE K H kvs es.toList) ∨ ∃ a c fs, v = .ref a ∧ ErrAt H a (He.ga K c) fs ∧ RepR K H kvs c fs
  | d, v => Rep K H d v
end
/-- what never changes has not changed -/
structure Le (H H' : Hp) : Prop where
  tup : ∀ a xs, H a = some (.tup xs) → H' a = some (.tup xs)
  frz : ∀ a o u, H a = some (.frz o u) → H' a = some (.frz o u)
theorem Le.refl (H : Hp) : Le H H := ⟨fun _ _ h => h, fun _ _ _ h => h⟩
theorem Le.trans {H H1 H2 : Hp} (a : Le H H1) (b : Le H1 H2) : Le H H2 := ⟨fun c xs h => b.tup c xs (a.tup c xs h), fun c o u h => b.frz c o u (a.frz c o u h)⟩
theorem Le.of_same {H H' : Hp} (h : Same H H') : Le H H' := ⟨fun a xs e => h a _ e, fun a o u e => h a _ e⟩
theorem Same.upd {H : Hp} {p : Addr} {o : HO} (h : H p = none) : Same H (upd H p o) := fun b u e => by rw [upd_ne (ne_of_none e h)]; exact e
theorem Le.new {H : Hp} {p : Addr} {o : HO} (h : H p = none) : Le H (upd H p o) := .of_same (Same.upd h)
/-- a changeable object is changed -/
theorem Le.mut {H : Hp} {p : Addr} {u o : HO} (h : H p = some u) (m : Mut (some u)) : Le H (upd H p o) := ⟨fun b xs e => by
    have n : b ≠ p := fun z => by subst z; rw [e] at h; cases h; exact m
    rw [upd_ne n]; exact e, fun b q x e => by
    have n : b ≠ p := fun z => by subst z; rw [e] at h; cases h; exact m
    rw [upd_ne n]; exact e⟩
section
variable {K : PySem.W.Frag} {H H' : Hp}
theorem SqT.le (l : Le H H') {a : Addr} {vs : List V} (h : SqT K H a vs) : SqT K H' a vs := by
  rcases h with (h | ⟨o, h⟩) | h
  · exact .inl (.inl (l.tup _ _ h))
  · exact .inl (.inr ⟨o, l.frz _ _ _ h⟩)
  · exact .inr h
theorem FzL.le (l : Le H H') {a : Addr} {vs : List V} (h : FzL H a vs) : FzL H' a vs := let ⟨o, h⟩ := h; ⟨o, l.frz _ _ _ h⟩
theorem FzD.le (l : Le H H') {a : Addr} {ks : List (Key × V)} (h : FzD H a ks) : FzD H' a ks := let ⟨o, h⟩ := h; ⟨o, l.frz _ _ _ h⟩
theorem ErrAt.le (l : Le H H') {a C : Addr} {fs : List (Str × V)} (h : ErrAt H a C fs) : ErrAt H' a C fs := h.imp (fun ⟨e, oe, h⟩ => ⟨e, oe, l.frz _ _ _ h⟩) fun ⟨oe, dd, od, h, h2⟩ => ⟨oe, dd, od, l.frz _ _ _ h, l.frz _ _ _ h2⟩
mutual
theorem Rep.le (l : Le H H') : ∀ (d : PyData) {v : V}, Rep K H d v → Rep K H' d v
  | .none, _, h => h
  | .bool _, _, h => h
  | .int _, _, h => h
  | .str _, _, h => h
  | .tuple ds, _, ⟨a, vs, e, h, r⟩ => ⟨a, vs, e, SqT.le l h, Reps.le l ds r⟩
  | .list ds, _, ⟨a, vs, e, h, r⟩ => ⟨a, vs, e, FzL.le l h, Reps.le l ds r⟩
  | .dict kvs, _, .inl ⟨a, ks, e, h, r⟩ => .inl ⟨a, ks, e, FzD.le l h, RepK.le l kvs r⟩
  | .dict kvs, _, .inr (.inl ⟨a, o, x, es, ep, e, p, h, c, d, z, r⟩) => .inr (.inl ⟨a, o, x, es, ep, e, p, l.frz _ _ _ h, c, d, z, RepE.le l kvs r⟩)
  | .dict kvs, _, .inr (.inr ⟨a, c, fs, e, h, r⟩) => .inr (.inr ⟨a, c, fs, e, ErrAt.le l h, RepR.le l kvs r⟩)
theorem Reps.le (l : Le H H') : ∀ (ds : List PyData) {vs : List V}, Reps K H ds vs → Reps K H' ds vs
  | [], _, h => h
  | d :: ds, _, ⟨v, r, e, h, t⟩ => ⟨v, r, e, Rep.le l d h, Reps.le l ds t⟩
theorem RepK.le (l : Le H H') : ∀ (kvs : List (PyData × PyData)) {ks : List (Key × V)}, RepK K H kvs ks → RepK K H' kvs ks
  | [], _, h => h
  | (k, d) :: r, _, ⟨q, v, s, e, hk, h, t⟩ => ⟨q, v, s, e, hk, Rep.le l d h, RepK.le l r t⟩
theorem RepE.le (l : Le H H') : ∀ (kvs : List (PyData × PyData)) {es : List DictEntry}, RepE K H kvs es → RepE K H' kvs es
  | [], _, h => h
  | (k, d) :: r, _, ⟨e, s, u, v, q, r1, r2, h1, h2, t⟩ => ⟨e, s, u, v, q, r1, r2, Rep.le l k h1, Rep.le l d h2, RepE.le l r t⟩
theorem RepF.le (l : Le H H') : ∀ (kvs : List (PyData × PyData)) {fs : List (Str × V)}, RepF K H kvs fs → RepF K H' kvs fs
  | [], _, h => h
  | (k, d) :: r, _, ⟨f, v, t, e, q, h, z⟩ => ⟨f, v, t, e, q, Rep.le l d h, RepF.le l r z⟩
theorem RepR.le (l : Le H H') : ∀ (kvs : List (PyData × PyData)) {c : Str} {fs : List (Str × V)}, RepR K H kvs c fs → RepR K H' kvs c fs
  | [], _, _, h => h
  | (k, d) :: r, _, _, ⟨e, h⟩ => ⟨e, RepF.le l r h⟩
end
theorem Rep.cur : ∀ {d : PyData} {v : V}, Rep K H d v → Cur K H d v
  | .none, _, h => h
  | .bool _, _, h => h
  | .int _, _, h => h
  | .str _, _, h => h
  | .tuple ds, _, h => h
  | .list ds, _, ⟨a, vs, e, ⟨o, h⟩, r⟩ => ⟨a, vs, e, .inr ⟨o, h⟩, r⟩
  | .dict kvs, _, .inl ⟨a, ks, e, ⟨o, h⟩, r⟩ => .inl ⟨a, ks, e, .inr ⟨o, h⟩, r⟩
  | .dict kvs, _, .inr h => .inr h
theorem RepR.noPlain {kvs : List (PyData × PyData)} {c : Str} {fs : List (Str × V)} (h : RepR K H kvs c fs) (p : plainK kvs = true) : False := by
  cases kvs with
  | nil => exact h
  | cons q r =>
    obtain ⟨rfl, _⟩ := h
    cases p
theorem RepR.err {kvs : List (PyData × PyData)} {c : Str} {fs : List (Str × V)} (h : RepR K H kvs c fs) : errOf kvs = some c ∧ RepF K H kvs.tail fs := by
  cases kvs with
  | nil => exact h.elim
  | cons q r =>
    obtain ⟨rfl, h⟩ := h
    exact ⟨rfl, h⟩
theorem RepF.look {f : Str} : ∀ {kvs : List (PyData × PyData)} {fs : List (Str × V)} {x : PyData}, RepF K H kvs fs → lookF f kvs = some x → ∃ v, fs.lookup f = some v ∧ Rep K H x v
  | [], _, _, _, e => by cases e
  | (k, d) :: r, _, x, ⟨g, v, t, e1, e2, h, z⟩, e => by
    cases e1
    subst e2
    unfold lookF at e
    rw [List.lookup_cons]
    by_cases q : g = f
    · rw [if_pos q] at e
      cases e
      rw [q, beq_self_eq_true]
      exact ⟨v, rfl, h⟩
    · rw [if_neg q] at e
      have q2 : (f == g) = false := by simpa using Ne.symm q
      rw [q2]
      exact RepF.look z e
theorem Cur.plain {kvs : List (PyData × PyData)} {v : V} (h : Cur K H (.dict kvs) v) (p : plainK kvs = true) : ∃ a ks, v = .ref a ∧ Rd H a (.dK ks) ∧ RepK K H kvs ks := by
  rcases h with h | ⟨_, _, _, _, _, _, q, _⟩ | ⟨_, _, _, _, _, q⟩
  · exact h
  · rw [p] at q; cases q.1
  · exact (q.noPlain p).elim
theorem Rep.plain {kvs : List (PyData × PyData)} {v : V} (h : Rep K H (.dict kvs) v) (p : plainK kvs = true) : ∃ a ks, v = .ref a ∧ FzD H a ks ∧ RepK K H kvs ks := by
  have h' : (∃ a ks, v = .ref a ∧ FzD H a ks ∧ RepK K H kvs ks) ∨ (∃ a o x es ep, v = .ref a ∧ (plainK kvs = false ∧ errOf kvs = none) ∧ H a = some (.frz o (.own x)) ∧ o.ExactDict ∧ o.data = .dict es ep ∧ es.size ≤ sizeLine ∧ RepE K H kvs es.toList) ∨ ∃ a c fs, v = .ref a ∧ ErrAt H a (He.ga K c) fs ∧ RepR K H kvs c fs := h
  rcases h' with h | ⟨_, _, _, _, _, _, q, _⟩ | ⟨_, _, _, _, _, q⟩
  · exact h
  · rw [p] at q; cases q.1
  · exact (q.noPlain p).elim
theorem Reps.length : ∀ {ds : List PyData} {vs : List V}, Reps K H ds vs → vs.length = ds.length
  | [], _, h => by rw [show _ = [] from h]; rfl
  | d :: ds, _, ⟨v, r, e, h, t⟩ => by rw [e, List.length_cons, List.length_cons, Reps.length t]
theorem Reps.get : ∀ {ds : List PyData} {vs : List V} {i : Nat} {d : PyData}, Reps K H ds vs → ds[i]? = some d → ∃ v, vs[i]? = some v ∧ Rep K H d v
  | [], _, _, _, _, e => by simp at e
  | d :: ds, _, 0, _, ⟨v, r, rfl, h, t⟩, e => by simp at e; subst e; exact ⟨v, rfl, h⟩
  | d :: ds, _, i + 1, x, ⟨v, r, rfl, h, t⟩, e => by
    obtain ⟨w, e1, e2⟩ := Reps.get (i := i) (d := x) t (by simpa using e)
    exact ⟨w, by simpa using e1, e2⟩
theorem Reps.getV : ∀ {ds : List PyData} {vs : List V} {i : Nat} {v : V}, Reps K H ds vs → vs[i]? = some v → ∃ d, ds[i]? = some d ∧ Rep K H d v
  | [], _, _, _, h, e => by rw [show _ = [] from h] at e; simp at e
  | d :: ds, _, 0, _, ⟨v, r, rfl, h, t⟩, e => by simp at e; subst e; exact ⟨d, rfl, h⟩
  | d :: ds, _, i + 1, x, ⟨v, r, rfl, h, t⟩, e => by
    obtain ⟨w, e1, e2⟩ := Reps.getV (i := i) (v := x) t (by simpa using e)
    exact ⟨w, by simpa using e1, e2⟩
theorem RepK.look {k : PyData} {q : Key} (hk : keyD k = some q) : ∀ {kvs : List (PyData × PyData)} {ks : List (Key × V)}, RepK K H kvs ks → (lookD kvs k = none ∧ valV ks q = none) ∨ ∃ d v, lookD kvs k = some d ∧ valV ks q = some v ∧ Rep K H d v
  | [], _, h => by rw [show _ = [] from h]; exact .inl ⟨rfl, rfl⟩
  | p :: r, _, ⟨q', v, s, rfl, h1, h2, t⟩ => by
    by_cases e : q' = q
    · refine .inr ⟨p.2, v, ?_, valV_pos e, h2⟩
      unfold lookD
      rw [List.find?_cons_of_pos (by rw [h1, hk, e]; simp)]
      rfl
    · have e1 : lookD (p :: r) k = lookD r k := by
        unfold lookD
        rw [List.find?_cons_of_neg (by rw [h1, hk]; simpa using e)]
      have e2 : valV ((q', v) :: s) q = valV s q := valV_neg e
      rw [e1, e2]
      exact RepK.look hk t
theorem Reps.nil : Reps K H [] [] := rfl
theorem Reps.cons {d : PyData} {ds : List PyData} {v : V} {vs : List V} (h : Rep K H d v) (t : Reps K H ds vs) : Reps K H (d :: ds) (v :: vs) := ⟨v, vs, rfl, h, t⟩
theorem Reps.append : ∀ {ds es : List PyData} {vs ws : List V}, Reps K H ds vs → Reps K H es ws → Reps K H (ds ++ es) (vs ++ ws)
  | [], _, _, _, h, t => by rw [show _ = [] from h]; exact t
  | d :: ds, _, _, _, ⟨v, r, rfl, h, t⟩, u => ⟨v, _, rfl, h, Reps.append t u⟩
theorem Reps.take : ∀ {ds : List PyData} {vs : List V} (n : Nat), Reps K H ds vs → Reps K H (ds.take n) (vs.take n)
  | _, _, 0, _ => rfl
  | [], _, n + 1, h => by rw [show _ = [] from h]; rfl
  | d :: ds, _, n + 1, ⟨v, r, rfl, h, t⟩ => ⟨v, _, rfl, h, Reps.take n t⟩
theorem Reps.drop : ∀ {ds : List PyData} {vs : List V} (n : Nat), Reps K H ds vs → Reps K H (ds.drop n) (vs.drop n)
  | _, _, 0, h => h
  | [], _, n + 1, h => by rw [show _ = [] from h]; rfl
  | d :: ds, _, n + 1, ⟨v, r, rfl, h, t⟩ => Reps.drop n t
theorem Reps.set {d : PyData} {v : V} (h : Rep K H d v) : ∀ {ds : List PyData} {vs : List V} (n : Nat), Reps K H ds vs → Reps K H (ds.set n d) (vs.set n v)
  | [], _, n, t => by rw [show _ = [] from t]; rfl
  | e :: ds, _, 0, ⟨w, r, rfl, h', t⟩ => ⟨v, r, rfl, h, t⟩
  | e :: ds, _, n + 1, ⟨w, r, rfl, h', t⟩ => ⟨w, _, rfl, h', Reps.set h n t⟩
theorem Reps.flatten {ds : List PyData} {vs : List V} (h : Reps K H ds vs) : ∀ k : Nat, Reps K H (List.replicate k ds).flatten (List.replicate k vs).flatten
  | 0 => rfl
  | k + 1 => by rw [List.replicate_succ, List.replicate_succ, List.flatten_cons, List.flatten_cons]; exact h.append (Reps.flatten h k)
theorem Reps.dropLast {ds : List PyData} {vs : List V} (h : Reps K H ds vs) : Reps K H ds.dropLast vs.dropLast := by
  rw [List.dropLast_eq_take, List.dropLast_eq_take, h.length]; exact h.take _
theorem Reps.reverse : ∀ {ds : List PyData} {vs : List V}, Reps K H ds vs → Reps K H ds.reverse vs.reverse
  | [], _, h => by rw [show _ = [] from h]; rfl
  | d :: ds, _, ⟨v, r, rfl, h, t⟩ => by rw [List.reverse_cons, List.reverse_cons]; exact (Reps.reverse t).append ⟨v, [], rfl, h, rfl⟩
end
/-! ### the store, the names -/
/-- the script: locked, or an object of the written part -/
def ScrAt (K : PySem.W.Frag) (H : Hp) (ns : List Int) (v : V) : Prop := ∃ a, v = .ref a ∧ (FzL H a (ns.map V.int) ∨
  ∃ (o : Obj) (its : Array Value) (n : Nat), K.lookup a = some o ∧ o.cls = .type "list" ∧ o.dict = none ∧ o.data = .seq its n ∧ its.size ≤ sizeLine ∧ Vals (ns.map V.int) its.toList)
theorem ScrAt.le {K : PySem.W.Frag} {H H' : Hp} {ns : List Int} {v : V} (l : Le H H') (h : ScrAt K H ns v) : ScrAt K H' ns v := by
  obtain ⟨a, e, h | h⟩ := h
  · exact ⟨a, e, .inl (FzL.le l h)⟩
  · exact ⟨a, e, .inr h⟩
theorem ScrAt.sq {K : PySem.W.Frag} {H : Hp} {ns : List Int} {v : V} (h : ScrAt K H ns v) : ∃ a, v = .ref a ∧ SqL K H a (ns.map V.int) := by
  obtain ⟨a, e, ⟨o, h⟩ | h⟩ := h
  · exact ⟨a, e, .inl (.inr ⟨o, h⟩)⟩
  · exact ⟨a, e, .inr h⟩
def RepV (K : PySem.W.Frag) (H : Hp) : PV → V → Prop
  | .d x, v => Rep K H x v
  | .r a, v => v = .ref a
  | .s ns, v => ScrAt K H ns v
def RepO (K : PySem.W.Frag) (H : Hp) (a : Addr) : SO → Prop
  | .lst xs => ∃ vs, H a = some (.lst vs) ∧ Reps K H xs vs
  | .dic kvs => ∃ ks, H a = some (.dK ks) ∧ RepK K H kvs ks
/-- own: at a place that nobody else knows -/
def OwnAt (K : PySem.W.Frag) (H : Hp) (a : Addr) : Lo → Prop
  | .v _ => False
  | .ol xs => RepO K H a (.lst xs)
  | .od kvs => RepO K H a (.dic kvs)
structure Gh where
  H0 : Hp
  S0 : Sto
structure Rel (K : PySem.W.Frag) (G : Gh) (ρ : VE) (S : Sto) (σ : L2.St) (H : Hp) : Prop where
  val : ∀ (i : Nat) p, ρ[i]? = some (some (.v p)) → ∃ v, σ[i]? = some (some v) ∧ RepV K H p v
  own : ∀ (i : Nat) l, ρ[i]? = some (some l) → (∀ p, l ≠ .v p) → ∃ a, σ[i]? = some (some (V.ref a)) ∧ OwnAt K H a l ∧ G.H0 a = none ∧ S a = none ∧
    ∀ (j : Nat) l', j ≠ i → ρ[j]? = some (some l') → (∀ p, l' ≠ .v p) → σ[j]? ≠ some (some (V.ref a))
  sto : ∀ a o, S a = some o → RepO K H a o
  old : ∀ a o, G.H0 a = some o → G.S0 a = none → H a = some o
  new : ∀ a, S a ≠ none → G.S0 a ≠ none ∨ G.H0 a = none
  mon : ∀ a, G.S0 a ≠ none → S a ≠ none
  len : ρ.length = σ.length
section
variable {K : PySem.W.Frag} {G : Gh} {ρ : VE} {S : Sto} {σ : L2.St} {H H' : Hp}
theorem RepK.nil : RepK K H [] [] := rfl
theorem RepV.le (l : Le H H') {p : PV} {v : V} (h : RepV K H p v) : RepV K H' p v := by
  cases p with
  | d x => exact Rep.le l x h
  | r a => exact h
  | s ns => exact ScrAt.le l h
theorem RepO.tracked {a : Addr} {o : SO} (h : RepO K H a o) : ∃ u, H a = some u ∧ Mut (some u) := by
  cases o with
  | lst xs => obtain ⟨vs, e, _⟩ := h; exact ⟨_, e, trivial⟩
  | dic kvs => obtain ⟨ks, e, _⟩ := h; exact ⟨_, e, trivial⟩
theorem RepO.move {a : Addr} {o : SO} (l : Le H H') (e : H' a = H a) (h : RepO K H a o) : RepO K H' a o := by
  cases o with
  | lst xs => obtain ⟨vs, q, r⟩ := h; exact ⟨vs, e.trans q, Reps.le l _ r⟩
  | dic kvs => obtain ⟨ks, q, r⟩ := h; exact ⟨ks, e.trans q, RepK.le l _ r⟩
theorem OwnAt.tracked {a : Addr} {l : Lo} (h : OwnAt K H a l) : ∃ u, H a = some u ∧ Mut (some u) := by
  cases l with
  | v p => exact h.elim
  | ol xs => exact RepO.tracked (o := .lst xs) h
  | od kvs => exact RepO.tracked (o := .dic kvs) h
theorem OwnAt.move {a : Addr} {l : Lo} (le : Le H H') (e : H' a = H a) (h : OwnAt K H a l) : OwnAt K H' a l := by
  cases l with
  | v p => exact h.elim
  | ol xs => exact RepO.move (o := .lst xs) le e h
  | od kvs => exact RepO.move (o := .dic kvs) le e h
/-- what is free now was free at the start, and in the store -/
theorem Rel.free (R : Rel K G ρ S σ H) {a : Addr} (h : H a = none) : S a = none ∧ G.H0 a = none := by
  have s : S a = none := by
    cases e : S a with
    | none => rfl
    | some o => obtain ⟨u, q, _⟩ := (R.sto a o e).tracked; rw [h] at q; cases q
  refine ⟨s, ?_⟩
  cases e : G.H0 a with
  | none => rfl
  | some o =>
    cases e2 : G.S0 a with
    | none => have := R.old a o e e2; rw [h] at this; cases this
    | some q => exact absurd s (R.mon a (by rw [e2]; simp))
/-- the heap has grown -/
theorem Rel.ext (R : Rel K G ρ S σ H) (h : Same H H') : Rel K G ρ S σ H' := by
  have l := Le.of_same h
  have keep : ∀ {a : Addr}, (∃ u, H a = some u ∧ Mut (some u)) → H' a = H a := fun ⟨u, e, _⟩ => by rw [h _ _ e, e]
  refine ⟨fun i p e => ?_, fun i lo e n => ?_, fun a o e => (R.sto a o e).move l (keep (R.sto a o e).tracked), fun a o e1 e2 => h _ _ (R.old a o e1 e2), R.new, R.mon, R.len⟩
  · obtain ⟨v, e1, r⟩ := R.val i p e
    exact ⟨v, e1, r.le l⟩
  · obtain ⟨a, e1, o, f1, f2, ap⟩ := R.own i lo e n
    exact ⟨a, e1, o.move l (keep o.tracked), f1, f2, ap⟩
/-- an own place is frozen: the name holds a value from then on -/
theorem Rel.freeze (R : Rel K G ρ S σ H) {i : Nat} {l : Lo} {a : Addr} {u u' : HO} {ob : Obj} {p : PV} (e : ρ[i]? = some (some l)) (n : ∀ p, l ≠ .v p) (ea : σ[i]? = some (some (V.ref a))) (hu : H a = some u) (mu : Mut (some u))
    (hp : RepV K (upd H a (.frz ob u')) p (.ref a)) : Rel K G (ρ.set i (some (.v p))) S σ (upd H a (.frz ob u')) := by
  have le : Le H (upd H a (.frz ob u')) := Le.mut hu mu
  obtain ⟨a', e1, o, f1, f2, ap⟩ := R.own i l e n
  rw [ea] at e1; cases e1
  have hi : i < ρ.length := (List.getElem?_eq_some_iff.mp e).1
  refine ⟨fun j q ej => ?_, fun j lo ej nj => ?_, fun b q eb => ?_, fun b q e1 e2 => ?_, R.new, R.mon, by rw [List.length_set]; exact R.len⟩
  · by_cases hj : i = j
    · subst hj
      rw [List.getElem?_set_self hi] at ej
      cases ej
      exact ⟨_, ea, hp⟩
    · rw [List.getElem?_set_ne hj] at ej
      obtain ⟨v, e1, r⟩ := R.val j q ej
      exact ⟨v, e1, r.le le⟩
  · have hj : i ≠ j := fun z => by
      subst z
      rw [List.getElem?_set_self hi] at ej
      cases ej
      exact nj p rfl
    rw [List.getElem?_set_ne hj] at ej
    obtain ⟨b, e1, ob', g1, g2, ap'⟩ := R.own j lo ej nj
    have hb : b ≠ a := fun z => by subst z; exact ap j lo (Ne.symm hj) ej nj e1
    refine ⟨b, e1, ob'.move le (upd_ne hb), g1, g2, fun k lk hk ek nk => ?_⟩
    by_cases hki : i = k
    · subst hki
      rw [List.getElem?_set_self hi] at ek
      cases ek
      exact absurd rfl (nk p)
    · rw [List.getElem?_set_ne hki] at ek
      exact ap' k lk hk ek nk
  · have hb : b ≠ a := fun z => by subst z; rw [f2] at eb; cases eb
    exact (R.sto b q eb).move le (upd_ne hb)
  · have hb : b ≠ a := fun z => by subst z; rw [f1] at e1; cases e1
    rw [upd_ne hb]; exact R.old b q e1 e2
/-- an own place is changed -/
theorem Rel.change (R : Rel K G ρ S σ H) {i : Nat} {l l' : Lo} {a : Addr} {u : HO} (e : ρ[i]? = some (some l)) (n : ∀ p, l ≠ .v p) (n' : ∀ p, l' ≠ .v p) (ea : σ[i]? = some (some (V.ref a)))
    (ho : OwnAt K (upd H a u) a l') : Rel K G (ρ.set i (some l')) S σ (upd H a u) := by
  obtain ⟨a', e1, o, f1, f2, ap⟩ := R.own i l e n
  rw [ea] at e1; cases e1
  obtain ⟨u0, hu, mu⟩ := o.tracked
  have le : Le H (upd H a u) := Le.mut hu mu
  have hi : i < ρ.length := (List.getElem?_eq_some_iff.mp e).1
  refine ⟨fun j q ej => ?_, fun j lo ej nj => ?_, fun b q eb => ?_, fun b q e1 e2 => ?_, R.new, R.mon, by rw [List.length_set]; exact R.len⟩
  · have hj : i ≠ j := fun z => by
      subst z
      rw [List.getElem?_set_self hi] at ej
      cases ej
      exact n' q rfl
    rw [List.getElem?_set_ne hj] at ej
    obtain ⟨v, e1, r⟩ := R.val j q ej
    exact ⟨v, e1, r.le le⟩
  · by_cases hj : i = j
    · subst hj
      rw [List.getElem?_set_self hi] at ej
      cases ej
      refine ⟨a, ea, ho, f1, f2, fun k lk hk ek nk => ?_⟩
      rw [List.getElem?_set_ne (Ne.symm hk)] at ek
      exact ap k lk hk ek nk
    · rw [List.getElem?_set_ne hj] at ej
      obtain ⟨b, e1, ob', g1, g2, ap'⟩ := R.own j lo ej nj
      have hb : b ≠ a := fun z => by subst z; exact ap j lo (Ne.symm hj) ej nj e1
      refine ⟨b, e1, ob'.move le (upd_ne hb), g1, g2, fun k lk hk ek nk => ?_⟩
      by_cases hki : i = k
      · subst hki
        exact ap' i l hk e n
      · rw [List.getElem?_set_ne hki] at ek
        exact ap' k lk hk ek nk
  · have hb : b ≠ a := fun z => by subst z; rw [f2] at eb; cases eb
    exact (R.sto b q eb).move le (upd_ne hb)
  · have hb : b ≠ a := fun z => by subst z; rw [f1] at e1; cases e1
    rw [upd_ne hb]; exact R.old b q e1 e2
theorem sput_same {a : Addr} {o : SO} : sput S a o a = some o := by unfold sput; rw [if_pos rfl]
theorem sput_ne {a b : Addr} {o : SO} (h : b ≠ a) : sput S a o b = S b := by unfold sput; rw [if_neg h]
/-- a place of the store is changed -/
theorem Rel.store (R : Rel K G ρ S σ H) {a : Addr} {o o' : SO} {u : HO} (e : S a = some o) (h : RepO K (upd H a u) a o') : Rel K G ρ (sput S a o') σ (upd H a u) := by
  obtain ⟨u0, hu, mu⟩ := (R.sto a o e).tracked
  have le : Le H (upd H a u) := Le.mut hu mu
  refine ⟨fun j q ej => ?_, fun j lo ej nj => ?_, fun b q eb => ?_, fun b q e1 e2 => ?_, fun b hb => ?_, fun b hb => ?_, R.len⟩
  · obtain ⟨v, e1, r⟩ := R.val j q ej
    exact ⟨v, e1, r.le le⟩
  · obtain ⟨b, e1, ob', g1, g2, ap'⟩ := R.own j lo ej nj
    have hb : b ≠ a := fun z => by subst z; rw [g2] at e; cases e
    exact ⟨b, e1, ob'.move le (upd_ne hb), g1, by rw [sput_ne hb]; exact g2, ap'⟩
  · by_cases hb : b = a
    · subst hb; rw [sput_same] at eb; cases eb; exact h
    · rw [sput_ne hb] at eb
      exact (R.sto b q eb).move le (upd_ne hb)
  · have hb : b ≠ a := fun z => by
      subst z
      rcases R.new b (by rw [e]; simp) with z | z
      · exact z e2
      · rw [z] at e1; cases e1
    rw [upd_ne hb]; exact R.old b q e1 e2
  · by_cases hba : b = a
    · subst hba; exact R.new b (by rw [e]; simp)
    · rw [sput_ne hba] at hb; exact R.new b hb
  · by_cases hba : b = a
    · subst hba; rw [sput_same]; simp
    · rw [sput_ne hba]; exact R.mon b hb
/-- a new place of the store -/
theorem Rel.storeNew (R : Rel K G ρ S σ H) {a : Addr} {o : SO} {u : HO} (hf : H a = none) (h : RepO K (upd H a u) a o) : Rel K G ρ (sput S a o) σ (upd H a u) := by
  obtain ⟨s0, g0⟩ := R.free hf
  have R' := R.ext (Same.upd (o := u) hf)
  refine ⟨R'.val, fun j lo ej nj => ?_, fun b q eb => ?_, R'.old, fun b hb => ?_, fun b hb => ?_, R.len⟩
  · obtain ⟨b, e1, ob', g1, g2, ap'⟩ := R'.own j lo ej nj
    obtain ⟨b', e1', ob'', _⟩ := R.own j lo ej nj
    rw [e1] at e1'; cases e1'
    have hb : b ≠ a := fun z => by subst z; obtain ⟨u', q, _⟩ := ob''.tracked; rw [hf] at q; cases q
    exact ⟨b, e1, ob', g1, by rw [sput_ne hb]; exact g2, ap'⟩
  · by_cases hb : b = a
    · subst hb; rw [sput_same] at eb; cases eb; exact h
    · rw [sput_ne hb] at eb; exact R'.sto b q eb
  · by_cases hba : b = a
    · subst hba; exact .inr g0
    · rw [sput_ne hba] at hb; exact R.new b hb
  · by_cases hba : b = a
    · subst hba; rw [sput_same]; simp
    · rw [sput_ne hba]; exact R.mon b hb
/-- a value is stored at a name -/
theorem Rel.setVal (R : Rel K G ρ S σ H) {i : Nat} {p : PV} {v : V} (h : RepV K H p v) : Rel K G (ρ.set i (some (.v p))) S (σ.set i (some v)) H := by
  have hl := R.len
  refine ⟨fun j q ej => ?_, fun j lo ej nj => ?_, R.sto, R.old, R.new, R.mon, by rw [List.length_set, List.length_set]; exact R.len⟩
  · by_cases hj : i = j
    · subst hj
      by_cases hi : i < ρ.length
      · rw [List.getElem?_set_self hi] at ej
        cases ej
        exact ⟨v, List.getElem?_set_self (by omega), h⟩
      · rw [List.getElem?_eq_none (by simpa using hi)] at ej; cases ej
    · rw [List.getElem?_set_ne hj] at ej
      rw [List.getElem?_set_ne hj]
      exact R.val j q ej
  · by_cases hj : i = j
    · subst hj
      by_cases hi : i < ρ.length
      · rw [List.getElem?_set_self hi] at ej
        cases ej
        exact absurd rfl (nj p)
      · rw [List.getElem?_eq_none (by simpa using hi)] at ej; cases ej
    · rw [List.getElem?_set_ne hj] at ej
      rw [List.getElem?_set_ne hj]
      obtain ⟨a, e1, o, f1, f2, ap⟩ := R.own j lo ej nj
      refine ⟨a, e1, o, f1, f2, fun k lk hk ek nk => ?_⟩
      by_cases hki : i = k
      · subst hki
        by_cases hi : i < ρ.length
        · rw [List.getElem?_set_self hi] at ek
          cases ek
          exact absurd rfl (nk p)
        · rw [List.getElem?_eq_none (by simpa using hi)] at ek; cases ek
      · rw [List.getElem?_set_ne hki] at ek
        rw [List.getElem?_set_ne hki]
        exact ap k lk hk ek nk
/-- a new own place is stored at a name: it stood there before the store already -/
theorem Rel.setOwn (R : Rel K G ρ S σ H) {i : Nat} {l : Lo} {a : Addr} (n : ∀ p, l ≠ .v p) (o : OwnAt K H a l) (f1 : G.H0 a = none) (f2 : S a = none)
    (f3 : ∀ (j : Nat) l', j ≠ i → ρ[j]? = some (some l') → (∀ p, l' ≠ .v p) → σ[j]? ≠ some (some (V.ref a))) : Rel K G (ρ.set i (some l)) S (σ.set i (some (.ref a))) H := by
  have hl := R.len
  refine ⟨fun j q ej => ?_, fun j lo ej nj => ?_, R.sto, R.old, R.new, R.mon, by rw [List.length_set, List.length_set]; exact R.len⟩
  · by_cases hj : i = j
    · subst hj
      by_cases hi : i < ρ.length
      · rw [List.getElem?_set_self hi] at ej
        cases ej
        exact absurd rfl (n q)
      · rw [List.getElem?_eq_none (by simpa using hi)] at ej; cases ej
    · rw [List.getElem?_set_ne hj] at ej
      rw [List.getElem?_set_ne hj]
      exact R.val j q ej
  · by_cases hj : i = j
    · subst hj
      by_cases hi : i < ρ.length
      · rw [List.getElem?_set_self hi] at ej
        cases ej
        refine ⟨a, List.getElem?_set_self (by omega), o, f1, f2, fun k lk hk ek nk => ?_⟩
        rw [List.getElem?_set_ne (Ne.symm hk)] at ek
        rw [List.getElem?_set_ne (Ne.symm hk)]
        exact f3 k lk hk ek nk
      · rw [List.getElem?_eq_none (by simpa using hi)] at ej; cases ej
    · rw [List.getElem?_set_ne hj] at ej
      rw [List.getElem?_set_ne hj]
      obtain ⟨b, e1, ob, g1, g2, ap⟩ := R.own j lo ej nj
      refine ⟨b, e1, ob, g1, g2, fun k lk hk ek nk => ?_⟩
      by_cases hki : i = k
      · subst hki
        by_cases hi : i < ρ.length
        · rw [List.getElem?_set_self (by omega)]
          intro z
          cases z
          exact f3 j lo (Ne.symm hj) ej nj e1
        · rw [List.getElem?_eq_none (by simpa using hi)] at ek; cases ek
      · rw [List.getElem?_set_ne hki] at ek
        rw [List.getElem?_set_ne hki]
        exact ap k lk hk ek nk
end
end Lk
/-! D2: operations by values. -/
namespace Lk
open PySem PySem.Spec PyProof.Rows L2
/-- the answer r: whoever stands for it in a grown heap -/
def Giv (K : PySem.W.Frag) (H : Hp) (Q : VK) (r : PyData) : Prop := ∀ v H', Same H H' → Rep K H' r v → Q v H'
section
variable {X : Cx} {pins : List (Addr × Obj)} {σ : L2.St} {H : Hp} {s : Shared} {Q : VK}
theorem Giv.here {K : PySem.W.Frag} {r : PyData} {v : V} (g : Giv K H Q r) (h : Rep K H r v) : Q v H := g v H (Same.refl H) h
theorem lstR (I : Inv X pins σ H s) {l : Addr} {xs : List V} (h : Rd H l (.lst xs)) : xs.length ≤ sizeLine ∧ ∃ (its : List Value) (n : Nat), Vals xs its ∧ xs.length = its.length ∧ s.heap.get? l = some { cls := .type "list", data := .seq its.toArray n } := by
  obtain ⟨z, its, n, r, e⟩ := h.ok I.hok
  exact ⟨z, its, n, r, r.length, e⟩
/-- a new list, frozen at once -/
theorem ep_list {its : List Value} {ys : List V} {ds : List PyData} {t' : Nat} (I : Inv X pins σ H s) (hv : Vals ys its) (hr : Reps X.K H ds ys) (hz : ys.length ≤ sizeLine) (g : Giv X.K H Q (.list ds)) :
    EP X pins σ Q (.ref s.heap.objs.size) { s with heap := s.heap.push { cls := .type "list", data := .seq its.toArray }, toks := t' } := by
  obtain ⟨od, I2⟩ := (I.lnew (t' := t') hv hz).lock (d := s.heap.objs.size) upd_same trivial
  rw [upd_upd] at I2
  exact ⟨.ref _, _, I2, rfl, g _ _ (Same.upd I.fresh) ⟨_, ys, rfl, ⟨od, upd_same⟩, Reps.le (Le.new I.fresh) _ hr⟩⟩
/-- a new tuple -/
theorem ep_tup {its : List Value} {ys : List V} {ds : List PyData} {t' : Nat} (I : Inv X pins σ H s) (hv : Vals ys its) (hr : Reps X.K H ds ys) (hz : ys.length ≤ sizeLine) (g : Giv X.K H Q (.tuple ds)) :
    EP X pins σ Q (.ref s.heap.objs.size) { s with heap := s.heap.push { cls := .type "tuple", data := .seq its.toArray }, toks := t' } :=
  ⟨.ref _, _, I.laid (o := .tup ys) (fun _ _ q => Heap.get?_push_of_some _ q) (Nat.le_refl _) ⟨hz, its, hv, IsTup.new _ _⟩, rfl, g _ _ (Same.upd I.fresh) ⟨_, ys, rfl, SqT.of upd_same, Reps.le (Le.new I.fresh) _ hr⟩⟩
theorem ep_same {u : Value} {v : V} {d : PyData} (I : Inv X pins σ H s) (r : RelV v u) (h : Rep X.K H d v) (g : Giv X.K H Q d) : EP X pins σ Q u s := ⟨v, H, I, r, g.here h⟩
theorem of_new_tup {K : PySem.W.Frag} {ys : List V} {ds : List PyData} (hr : Reps K H ds ys) (g : Giv K H Q (.tuple ds)) : ∀ p, H p = none → Q (.ref p) (upd H p (.tup ys)) := fun p hp =>
  g _ _ (Same.upd hp) ⟨p, ys, rfl, SqT.of upd_same, Reps.le (Le.new hp) _ hr⟩
/-- tuple * 1 is the tuple -/
theorem tuple_mul1 (l : Addr) (items : Array Value) (n : Nat) (dd : Option Addr) (sl : Array (Option Value)) (u : Tok) :
    Meets (Builtin.«tuple.__mul__» ⟨[.ref l, .int 1 u], []⟩) (fun _ R s => s.heap.get? l = some { cls := .type "tuple", dict := dd, data := .seq items n, slots := sl } ∧ R (.ok (.ret (Value.ref l))) s) :=
  .of_wp fun prog w A R s h => by
    obtain ⟨hp, g, d, tk, os⟩ := s
    obtain ⟨hl, h⟩ := h
    have f1 := AutoSeq1.idx_int
    have c0 : (decide ((1 : Int) < -(2 ^ 63)) || decide ((1 : Int) ≥ 2 ^ 63)) = false := by decide
    have c1 : (items.isEmpty || (1 : Int) == 1) = true := by simp
    wp_walk using wpAny_loadPart' hl
    repeat (first
      | (refine wpAny_ite_false (decide_eq_false (by rw [c0]; exact Bool.false_ne_true)) ?_; wp_walk using wpAny_loadPart' hl)
      | (refine wpAny_ite_true (decide_eq_true (by rw [c1])) ?_; wp_walk using wpAny_loadPart' hl))
    exact ⟨_, rfl, h⟩
end
section
variable {X : Cx}
def bopA : Bop → Operator
  | .add => .Add
  | .sub => .Sub
  | .mul => .Mult
  | .fdiv => .FloorDiv
  | .mod => .Mod
  | .pow => .Pow
theorem opBin (o : Bop) : OpR X (binaryOp (bopA o)) (fun x y H Q => ∃ d e, Cur X.K H d x ∧ Cur X.K H e y ∧ binP o d e (Giv X.K H Q)) := by
  intro pins s σ H x y v u Q I rx ry h
  obtain ⟨d, e, hd, he, h⟩ := h
  cases o with
  | add =>
    cases d <;> cases e <;> try exact h.elim
    · rename_i i j
      exact op_add pins s σ H x y v u Q I rx ry ⟨i, j, hd, he, Giv.here (r := .int (i + j)) (v := .int (i + j)) h rfl⟩
    · rename_i a b
      exact op_add_str pins s σ H x y v u Q I rx ry ⟨a, b, hd, he, h.1, h.2.here (v := .str (a ++ b)) rfl⟩
    · rename_i ds es
      obtain ⟨a, xs, rfl, ha, ra⟩ := hd
      obtain ⟨b, ys, rfl, hb, rb⟩ := he
      cases rx
      cases ry
      obtain ⟨z, its, n, r, hl, e⟩ := lstR I ha
      obtain ⟨z2, its2, n2, r2, hl2, e2⟩ := lstR I hb
      have l1 := ra.length
      have l2 := rb.length
      have l3 := h.1
      refine PySem.P.add_list e e2 ?_ (by rw [List.size_toArray, List.size_toArray]; omega)
      have ea : its.toArray ++ its2.toArray = (its ++ its2).toArray := by simp
      rw [ea]
      exact ep_list (t' := s.toks) I (r.append r2) (ra.append rb) (by rw [List.length_append]; omega) h.2
    · rename_i ds es
      obtain ⟨a, xs, rfl, ha, ra⟩ := hd
      obtain ⟨b, ys, rfl, hb, rb⟩ := he
      have l1 := ra.length
      have l2 := rb.length
      have l3 := h.1
      refine op_catA pins s σ H _ _ v u Q I rx ry ⟨a, b, xs, ys, rfl, rfl, ha, hb, by omega, fun z => ?_, fun _ z => ?_, fun _ _ => of_new_tup (ra.append rb) h.2⟩
      · subst z
        have q := ra.append rb
        exact h.2.here (v := .ref b) ⟨b, ys, rfl, hb, q⟩
      · subst z
        have q := ra.append rb
        rw [List.append_nil] at q
        exact h.2.here (v := .ref a) ⟨a, xs, rfl, ha, q⟩
  | sub =>
    cases d <;> cases e <;> try exact h.elim
    rename_i i j
    exact op_sub pins s σ H x y v u Q I rx ry ⟨i, j, hd, he, Giv.here (r := .int (i - j)) (v := .int (i - j)) h rfl⟩
  | mul =>
    cases d <;> cases e <;> try exact h.elim
    · rename_i i j
      rcases h.1 with h1 | h1
      · exact op_mulW pins s σ H x y v u Q I rx ry ⟨i, j, hd, he, h1, h.2.here (v := .int (i * j)) rfl⟩
      · exact op_mul pins s σ H x y v u Q I rx ry ⟨i, j, hd, he, h1, h.2.here (v := .int (i * j)) rfl⟩
    · rename_i ds k
      obtain ⟨a, xs, rfl, ha, ra⟩ := hd
      obtain ⟨h1, h2, h3, g⟩ := h
      cases he
      cases rx
      obtain ⟨t, rfl⟩ := ry
      obtain ⟨z, its, n, r, hl, e⟩ := lstR I ha
      have l1 := ra.length
      have hlen : its.toArray.size * k.toNat ≤ sizeLine := by rw [List.size_toArray, ← hl, l1]; exact h3
      have hcap : ¬ its.toArray.size * k.toNat > (2 ^ 63 - 1) / 8 := by
        have : (sizeLine : Nat) ≤ (2 ^ 63 - 1) / 8 := by decide
        omega
      have hfit : ¬ (!Builtin.List.listFitsIndex k) = true := by
        rw [fitsIndex_both h1 h2]
        exact Bool.false_ne_true
      have hlong : ¬ Builtin.List.listTooLong (its.toArray.size * k.toNat) = true := by
        rw [notLongL hlen]
        exact Bool.false_ne_true
      have hnew : List.foldl (fun x1 x2 => x1 ++ x2) #[] (List.replicate (if its.toArray.isEmpty = true then 0 else k.toNat) its.toArray) = (List.replicate k.toNat its).flatten.toArray := by
        rw [size_rep]
        cases its with
        | nil => simp
        | cons a r' => rw [if_neg (by simp)]
      refine wpAny_binaryOp_repeat_ref (T := "list") (U := "int") (by decide) ⟨_, e, rfl⟩ (fun s' => typeIs_int s' k t) noFill_list_mul F.fills_int_mul F.slot_int_rmul repeat_list F.slot_int_index.lookup
        (call_meets F.slot_int_rmul (typeIs_int s k t) F.entry_int_rmul (F.args_int_rmul_2 _ _) (int___rmul___int_list k t a its.toArray n)
          ⟨e, rfl, ⟨_, e, rfl⟩, call_meets F.slot_list_mul ⟨_, e, rfl⟩ F.entry_list_mul (F.args_list_mul_2 _ _) (AutoListH.list___mul___list_int_3 a its.toArray n k t hfit hcap hlong) ⟨e, ?_⟩⟩)
      rw [hnew]
      exact ep_list (t' := s.toks) I (r.rep k.toNat) (ra.flatten k.toNat) (by rw [PyProof.Rows.lm_len_rep_flat, Nat.mul_comm, l1]; exact h3) g
    · rename_i ds k
      obtain ⟨a, xs, rfl, ha, ra⟩ := hd
      obtain ⟨h0, h1, h2, h3, g⟩ := h
      have l1 := ra.length
      by_cases hk : k = 1
      · subst hk
        cases he
        cases rx
        obtain ⟨t, rfl⟩ := ry
        obtain ⟨its, r, ⟨⟨cls, dd, data, sl⟩, ho, hc, n, hd⟩, hs⟩ := I.tuple ha
        simp only at hc hd
        subst hc hd
        have q := ra.flatten 1
        rw [show (List.replicate 1 xs).flatten = xs by simp] at q
        refine wpAny_binaryOp_repeat_ref (T := "tuple") (U := "int") (by decide) ⟨_, ho, rfl⟩ (fun s' => typeIs_int s' 1 t) noFill_tuple_mul F.fills_int_mul F.slot_int_rmul repeat_tuple F.slot_int_index.lookup
          (call_meets F.slot_int_rmul (typeIs_int s 1 t) F.entry_int_rmul (F.args_int_rmul_2 _ _) (int_rmul_tuple 1 t a its.toArray n dd sl)
            ⟨ho, rfl, ⟨_, ho, rfl⟩, call_meets F.slot_tuple_mul ⟨_, ho, rfl⟩ F.entry_tuple_mul (F.args_tuple_mul_2 _ _) (tuple_mul1 a its.toArray n dd sl t) ⟨ho, ?_⟩⟩)
        exact ep_same (v := .ref a) (d := .tuple (repL ds 1)) I rfl ⟨a, xs, rfl, ha, q⟩ g
      · refine op_repT pins s σ H _ _ v u Q I rx ry ⟨a, k, xs, rfl, he, ha, fun z => h0 ?_, by omega, h2, by omega, of_new_tup (ra.flatten _) g⟩
        subst z
        exact List.eq_nil_of_length_eq_zero l1.symm
  | fdiv =>
    cases d <;> cases e <;> try exact h.elim
    rename_i i j
    exact op_fdivW pins s σ H x y v u Q I rx ry ⟨i, j, hd, he, h.1, h.2.here (v := .int (i / j)) rfl⟩
  | mod =>
    cases d <;> cases e <;> try exact h.elim
    rename_i i j
    exact op_mod pins s σ H x y v u Q I rx ry ⟨i, j, hd, he, h.1, h.2.here (v := .int (i % j)) rfl⟩
  | pow =>
    cases d <;> cases e <;> try exact h.elim
    rename_i i j
    exact op_pow pins s σ H x y v u Q I rx ry ⟨i, j, hd, he, h.1, h.2.here (v := .int (i ^ j.toNat)) rfl⟩
end
/-! ### comparisons -/
section
variable {K : PySem.W.Frag} {H : Hp}
mutual
theorem Rep.dp : ∀ (d : PyData) {v : V}, d.canLay0 = true → Rep K H d v → Dp K H v d
  | .none, _, _, h => by cases h; exact .non
  | .bool b, _, _, h => by cases h; exact .bl b
  | .int i, _, _, h => by cases h; exact .int i
  | .str x, _, _, h => by cases h; exact .str x
  | .tuple ds, _, c, h => by obtain ⟨a, vs, rfl, h, r⟩ := h; exact .tup h (Reps.dp ds c r)
  | .list ds, _, c, h => by obtain ⟨a, vs, rfl, ⟨o, h⟩, r⟩ := h; exact .lst (.inl (.inr ⟨o, h⟩)) (Reps.dp ds c r)
  | .dict _, _, c, _ => nomatch c
theorem Reps.dp : ∀ (ds : List PyData) {vs : List V}, PyData.canLayAll0 ds = true → Reps K H ds vs → DpAll K H vs ds
  | [], _, _, h => by cases h; exact .nil
  | d :: ds, _, c, h => by
    obtain ⟨v, r, rfl, h, t⟩ := h
    have c' : d.canLay0 = true ∧ PyData.canLayAll0 ds = true := by simpa [PyData.canLayAll0] using c
    exact .cons (Rep.dp d c'.1 h) (Reps.dp ds c'.2 t)
end
theorem Cur.dp {d : PyData} {v : V} (c : d.canLay0 = true) (h : Cur K H d v) : Dp K H v d := by
  cases d with
  | list ds => obtain ⟨a, vs, rfl, h, r⟩ := h; exact .lst (.inl h) (Reps.dp ds c r)
  | dict kvs => exact nomatch c
  | none => exact Rep.dp .none c h
  | bool b => exact Rep.dp (.bool b) c h
  | int i => exact Rep.dp (.int i) c h
  | str x => exact Rep.dp (.str x) c h
  | tuple ds => exact Rep.dp (.tuple ds) c h
end
section
variable {X : Cx}
def copA : Cop → CmpOp
  | .eq => .Eq
  | .ne => .NotEq
  | .lt => .Lt
  | .le => .LtE
  | .gt => .Gt
  | .ge => .GtE
  | .isin => .In
  | .notin => .NotIn
section
variable {pins : List (Addr × Obj)} {σ : L2.St} {H : Hp} {s : Shared}
theorem eq_at (hu : X.A.units + 64 < cLine) (I : Inv X pins σ H s) {d e : PyData} {x y : V} {v u : Value} {b : Bool} (rx : RelV x v) (ry : RelV y u) (hd : Cur X.K H d x) (he : Cur X.K H e y) (h : eqO d e = some b) :
    SeqAt.RcAt X.A s v u b ∧ SeqAt.RcNeAt X.A s v u (!b) := by
  unfold eqO at h
  split at h
  · rename_i c
    obtain ⟨c1, c2, c3⟩ := c
    obtain rfl := Option.some.inj h
    obtain ⟨as, r1⟩ := Dp.reads I d x v (hd.dp c1) rx
    obtain ⟨bs, r2⟩ := Dp.reads I e y u (he.dp c2) ry
    exact ⟨SeqAt.rcAt_reads r1 r2 c1 c2 (by omega), SeqAt.rcNeAt_reads r1 r2 c1 c2 (by omega)⟩
  · split at h
    · rename_i xs ys _
      split at h
      · cases h
      · rename_i hl
        obtain rfl := Option.some.inj h
        obtain ⟨a, vs, rfl, ha, ra⟩ := hd
        obtain ⟨a', ws, rfl, hb, rb⟩ := he
        cases rx
        cases ry
        obtain ⟨z, its, n, r, hl1, e1⟩ := lstR I ha
        obtain ⟨z2, its2, n2, r2, hl2, e2⟩ := lstR I hb
        have l1 := ra.length
        have l2 := rb.length
        have hs : (its.toArray.size != its2.toArray.size) = true := by
          rw [List.size_toArray, List.size_toArray]
          exact bne_iff_ne.mpr (by omega)
        exact ⟨SeqAt.RcAt.lists_lengths ⟨_, e1, rfl, _, rfl⟩ ⟨_, e2, rfl, _, rfl⟩ hs (by omega), SeqAt.RcNeAt.lists_lengths ⟨_, e1, rfl, _, rfl⟩ ⟨_, e2, rfl, _, rfl⟩ hs (by omega)⟩
    · rename_i xs c
      obtain rfl := Option.some.inj h
      obtain ⟨a, vs, rfl, ha, ra⟩ := hd
      obtain ⟨a', ws, rfl, hb, rb⟩ := he
      cases rx
      cases ry
      obtain ⟨its, r, t1, z1⟩ := I.tuple ha
      obtain ⟨its2, r2, t2, z2⟩ := I.tuple hb
      have l2 : its2 = [] := by
        have := rb.length
        rw [r2.length] at this
        exact List.eq_nil_of_length_eq_zero this
      have l1 : its.length = xs.length := by rw [← r.length, ra.length]
      have hx : xs ≠ [] := by
        rintro rfl
        exact c ⟨rfl, rfl, by simp [PyData.depth, PyData.depthAll]⟩
      have ne : (its.toArray.size == its2.toArray.size) = false := by
        rw [l2, List.size_toArray, l1]
        cases xs with
        | nil => exact absurd rfl hx
        | cons _ _ => rfl
      have q1 := SeqAt.RcAt.tuples (e := fun _ => true) (A := X.A) (s := s) t1 t2 (by omega) fun j h1 h2 => by rw [l2] at h2; exact absurd h2 (Nat.not_lt_zero j)
      have q2 := SeqAt.RcNeAt.tuples (e := fun _ => true) (A := X.A) (s := s) t1 t2 (by omega) fun j h1 h2 => by rw [l2] at h2; exact absurd h2 (Nat.not_lt_zero j)
      rw [ne, Bool.and_false] at q1 q2
      exact ⟨q1, q2⟩
    · rename_i ys _ c
      obtain rfl := Option.some.inj h
      obtain ⟨a, vs, rfl, ha, ra⟩ := hd
      obtain ⟨a', ws, rfl, hb, rb⟩ := he
      cases rx
      cases ry
      obtain ⟨its, r, t1, z1⟩ := I.tuple ha
      obtain ⟨its2, r2, t2, z2⟩ := I.tuple hb
      have l2 : its = [] := by
        have := ra.length
        rw [r.length] at this
        exact List.eq_nil_of_length_eq_zero this
      have l1 : its2.length = ys.length := by rw [← r2.length, rb.length]
      have hx : ys ≠ [] := by
        rintro rfl
        exact c ⟨rfl, rfl, by simp [PyData.depth, PyData.depthAll]⟩
      have ne : (its.toArray.size == its2.toArray.size) = false := by
        rw [l2, List.size_toArray, List.size_toArray, l1]
        cases ys with
        | nil => exact absurd rfl hx
        | cons _ _ => rfl
      have q1 := SeqAt.RcAt.tuples (e := fun _ => true) (A := X.A) (s := s) t1 t2 (by omega) fun j h1 h2 => by rw [l2] at h1; exact absurd h1 (Nat.not_lt_zero j)
      have q2 := SeqAt.RcNeAt.tuples (e := fun _ => true) (A := X.A) (s := s) t1 t2 (by omega) fun j h1 h2 => by rw [l2] at h1; exact absurd h1 (Nat.not_lt_zero j)
      rw [ne, Bool.and_false] at q1 q2
      exact ⟨q1, q2⟩
    · rename_i z1 z2 _
      obtain rfl := Option.some.inj h
      have e1 : x = .str z1 := hd
      have e2 : y = .str z2 := he
      subst e1 e2
      obtain ⟨t1, rfl⟩ := rx
      obtain ⟨t2, rfl⟩ := ry
      exact ⟨fun prog w Q E q => eq_str (by exact q), fun prog w Q E q => ne_str (by exact q)⟩
    · cases h
end
section
variable {X : Cx} {pins : List (Addr × Obj)} {σ : L2.St} {H : Hp} {s : Shared}
theorem hits_rep {A : Around} (I : Inv X pins σ H s) (hu : A.units + 61 < cLine) {ls : List (PyData × PyData)} {lks : List (Key × V)} {vb : List (Key × Value)} (rl : RepK X.K H ls lks) (rb : KV lks vb) (vl : dvOk ls) :
    ∀ {kvs : List (PyData × PyData)} {ks : List (Key × V)} {va : List (Key × Value)}, RepK X.K H kvs ks → KV ks va → dvOk kvs → PySem.W.KeqHits A s vb va (hitsB ls kvs)
  | [], ks, va, r, ra, _ => by
    rw [show ks = [] from r] at ra
    cases ra
    exact .nil
  | p :: kvs, ks, va, r, ra, hv => by
    obtain ⟨q, v, t, rfl, hk, hr, rt⟩ := r
    cases ra with
    | @cons _ qa _ qs h ta =>
      obtain ⟨h1, h2⟩ := h
      obtain ⟨k, u⟩ := qa
      obtain rfl : q = k := h1
      have h2 : RelV v u := h2
      have go := hits_rep I hu rl rb vl rt ta fun x hx => hv x (List.mem_cons_of_mem _ hx)
      show PySem.W.KeqHits A s vb ((q, u) :: qs) (match lookD ls p.1 with
        | none => false
        | some y => PyData.eqv p.2 y && hitsB ls kvs)
      rcases rl.look hk with ⟨z1, z2⟩ | ⟨y, w, z1, z2, z3⟩
      · rw [z1]
        refine .miss ?_
        have := rb.val q
        rw [z2] at this
        cases e : valueAt vb q with
        | none => rfl
        | some _ => rw [e] at this; exact this.elim
      · rw [z1]
        have rr := rb.val q
        rw [z2] at rr
        obtain ⟨y', hy, ry⟩ := RelO.some_of rr
        have c1 := hv p (by simp)
        have c2 : y.canLay0 = true ∧ y.depth ≤ 60 := by
          unfold lookD at z1
          obtain ⟨p', hp', e⟩ := Option.map_eq_some_iff.mp z1
          rw [← e]
          exact vl p' (List.mem_of_find?_eq_some hp')
        obtain ⟨as, r1⟩ := Dp.reads I p.2 v u (hr.dp _ c1.1) h2
        obtain ⟨bs, r2⟩ := Dp.reads I y w y' (z3.dp _ c2.1) ry
        exact .hit hy (SeqAt.eqAt_reads p.2 y A s u y' as bs r1 r2 c1.1 c2.1 (by omega)) go
theorem eqDic_of {d e : PyData} {Q : Bool → Prop} (h : eqDic d e Q) : ∃ ks ls, d = .dict ks ∧ e = .dict ls ∧ plainK ks = true ∧ plainK ls = true ∧ dvOk ks ∧ dvOk ls ∧ Q (ks.length == ls.length && hitsB ls ks) := by
  cases d <;> cases e <;> first | exact (show False from h).elim | exact ⟨_, _, rfl, rfl, h.1, h.2.1, h.2.2.1, h.2.2.2.1, h.2.2.2.2⟩
theorem len_repK {K : PySem.W.Frag} {H : Hp} : ∀ {kvs : List (PyData × PyData)} {ks : List (Key × V)}, RepK K H kvs ks → ks.length = kvs.length
  | [], ks, h => by rw [show ks = [] from h]; rfl
  | p :: r, ks, h => by
    obtain ⟨q, v, t, rfl, _, _, rt⟩ := h
    rw [List.length_cons, List.length_cons, len_repK rt]
end
theorem keyD_cur {K : PySem.W.Frag} {H : Hp} {k : PyData} {u : V} (h : isKey k = true) (r : Cur K H k u) : ∃ q, keyD k = some q ∧ u = kV q := by
  cases k <;> first | exact ⟨_, rfl, r⟩ | cases h
theorem opCmp (hu : X.A.units + 64 < cLine) (o : Cop) : OpR X (compareOp (copA o)) (fun x y H Q => ∃ d e, Cur X.K H d x ∧ Cur X.K H e y ∧ cmpP o d e fun b => Giv X.K H Q (.bool b)) := by
  intro pins s σ H x y v u Q I rx ry h
  obtain ⟨d, e, hd, he, h⟩ := h
  have fin : ∀ {b : Bool}, Giv X.K H Q (.bool b) → EP X pins σ Q (.bool b) s := fun {b} g => ep_same (v := .bl b) (d := .bool b) I rfl rfl g
  cases o with
  | eq =>
    have h' : (match eqO d e with
      | some b => Giv X.K H Q (.bool b)
      | none => eqDic d e fun b => Giv X.K H Q (.bool b)) := h
    split at h'
    · rename_i b hb
      exact (eq_at hu I rx ry hd he hb).1 X.prog X.w _ _ (fin h')
    · obtain ⟨ks, ls, rfl, rfl, p1, p2, v1, v2, q⟩ := eqDic_of h'
      obtain ⟨a, kk, rfl, ha, ra⟩ := hd.plain p1
      obtain ⟨b, ll, rfl, hb, rb⟩ := he.plain p2
      cases rx
      cases ry
      obtain ⟨_, ya, va, ka, da⟩ := ha.ok I.hok
      obtain ⟨_, yb, vb, kb, db⟩ := hb.ok I.hok
      have l1 : va.length = ks.length := by rw [← len_repK ra]; exact (Paired.length ka).symm
      have l2 : vb.length = ls.length := by rw [← len_repK rb]; exact (Paired.length kb).symm
      exact PySem.W.keq_eq (knd := mixKind X.prog X.w) (r := hitsB ls ks) ya yb da db (by omega) (fun _ => hits_rep (A := X.A.in1) I (show X.A.units + 1 + 61 < cLine by omega) rb kb v2 ra ka v1) (by rw [l1, l2]; exact fin q)
  | ne =>
    have h' : (match eqO d e with
      | some b => Giv X.K H Q (.bool (!b))
      | none => eqDic d e fun b => Giv X.K H Q (.bool (!b))) := h
    split at h'
    · rename_i b hb
      exact (eq_at hu I rx ry hd he hb).2 X.prog X.w _ _ (fin h')
    · obtain ⟨ks, ls, rfl, rfl, p1, p2, v1, v2, q⟩ := eqDic_of h'
      obtain ⟨a, kk, rfl, ha, ra⟩ := hd.plain p1
      obtain ⟨b, ll, rfl, hb, rb⟩ := he.plain p2
      cases rx
      cases ry
      obtain ⟨_, ya, va, ka, da⟩ := ha.ok I.hok
      obtain ⟨_, yb, vb, kb, db⟩ := hb.ok I.hok
      have l1 : va.length = ks.length := by rw [← len_repK ra]; exact (Paired.length ka).symm
      have l2 : vb.length = ls.length := by rw [← len_repK rb]; exact (Paired.length kb).symm
      exact PySem.W.keq_ne (knd := mixKind X.prog X.w) (r := hitsB ls ks) ya yb da db (by omega) (fun _ => hits_rep (A := X.A.in1) I (show X.A.units + 1 + 61 < cLine by omega) rb kb v2 ra ka v1) (by rw [l1, l2]; exact fin q)
  | lt =>
    cases d <;> cases e <;> try exact h.elim
    rename_i i j
    exact op_lt pins s σ H x y v u Q I rx ry ⟨i, j, hd, he, Giv.here (r := .bool _) (v := .bl (decide (i < j))) h rfl⟩
  | le =>
    cases d <;> cases e <;> try exact h.elim
    rename_i i j
    exact op_le pins s σ H x y v u Q I rx ry ⟨i, j, hd, he, Giv.here (r := .bool _) (v := .bl (decide (i ≤ j))) h rfl⟩
  | gt =>
    cases d <;> cases e <;> try exact h.elim
    rename_i i j
    exact op_gt pins s σ H x y v u Q I rx ry ⟨i, j, hd, he, Giv.here (r := .bool _) (v := .bl (decide (j < i))) h rfl⟩
  | ge =>
    cases d <;> cases e <;> try exact h.elim
    rename_i i j
    exact op_ge pins s σ H x y v u Q I rx ry ⟨i, j, hd, he, Giv.here (r := .bool _) (v := .bl (decide (j ≤ i))) h rfl⟩
  | isin =>
    cases e with
    | str j =>
      cases d <;> try exact h.elim
      rename_i i
      exact op_in_str pins s σ H x y v u Q I rx ry ⟨i, j, hd, he, Giv.here (r := .bool (strHas i j)) (v := .bl (strHas i j)) h rfl⟩
    | list xs =>
      have h' : d.canLay0 = true ∧ PyData.canLayAll0 xs = true ∧ d.depth ≤ 60 ∧ Giv X.K H Q (.bool (xs.any fun z => PyData.eqv z d)) := by cases d <;> exact h
      obtain ⟨c1, c2, c3, g⟩ := h'
      obtain ⟨as, r1⟩ := Dp.reads I d x v (hd.dp c1) rx
      obtain ⟨bs, r2⟩ := Dp.reads I (.list xs) y u (he.dp c2) ry
      have hm : min (PyData.depthAll xs) d.depth ≤ 60 := Nat.le_trans (Nat.min_le_right _ _) c3
      exact SeqAt.in_list_reads r2 r1 c2 c1 (by omega) (fin g)
    | tuple xs =>
      have h' : d.canLay0 = true ∧ PyData.canLayAll0 xs = true ∧ d.depth ≤ 60 ∧ Giv X.K H Q (.bool (xs.any fun z => PyData.eqv z d)) := by cases d <;> exact h
      obtain ⟨c1, c2, c3, g⟩ := h'
      obtain ⟨as, r1⟩ := Dp.reads I d x v (hd.dp c1) rx
      obtain ⟨bs, r2⟩ := Dp.reads I (.tuple xs) y u (he.dp c2) ry
      have hm : min (PyData.depthAll xs) d.depth ≤ 60 := Nat.le_trans (Nat.min_le_right _ _) c3
      exact SeqAt.in_tuple_reads r2 r1 c2 c1 (by omega) (fin g)
    | dict kvs =>
      have h' : plainK kvs = true ∧ isKey d = true ∧ Giv X.K H Q (.bool (lookD kvs d).isSome) := by cases d <;> exact h
      obtain ⟨hp, hk, g⟩ := h'
      obtain ⟨a, ks, rfl, hr, rr⟩ := he.plain hp
      cases ry
      obtain ⟨q, e1, rfl⟩ := keyD_cur hk hd
      have dg : DGet H a (kV q) (valV ks q) := .inl ⟨ks, q, hr, rfl, rfl⟩
      have eb : (valV ks q).isSome = (lookD kvs d).isSome := by
        rcases rr.look e1 with ⟨z1, z2⟩ | ⟨_, _, z1, z2, _⟩ <;> rw [z1, z2] <;> rfl
      refine d_in (by omega) I dg rx fun s' I' => ?_
      rw [eb]
      exact ep_same (v := .bl _) (d := .bool _) I' rfl rfl g
    | _ => cases d <;> exact h.elim
  | notin =>
    cases e with
    | str j =>
      cases d <;> try exact h.elim
      rename_i i
      exact op_notin_str pins s σ H x y v u Q I rx ry ⟨i, j, hd, he, Giv.here (r := .bool (!strHas i j)) (v := .bl (!strHas i j)) h rfl⟩
    | list xs =>
      have h' : d.canLay0 = true ∧ PyData.canLayAll0 xs = true ∧ d.depth ≤ 60 ∧ Giv X.K H Q (.bool (!xs.any fun z => PyData.eqv z d)) := by cases d <;> exact h
      obtain ⟨c1, c2, c3, g⟩ := h'
      obtain ⟨as, r1⟩ := Dp.reads I d x v (hd.dp c1) rx
      obtain ⟨bs, r2⟩ := Dp.reads I (.list xs) y u (he.dp c2) ry
      have hm : min (PyData.depthAll xs) d.depth ≤ 60 := Nat.le_trans (Nat.min_le_right _ _) c3
      exact SeqAt.notIn_list_reads r2 r1 c2 c1 (by omega) (fin g)
    | tuple xs =>
      have h' : d.canLay0 = true ∧ PyData.canLayAll0 xs = true ∧ d.depth ≤ 60 ∧ Giv X.K H Q (.bool (!xs.any fun z => PyData.eqv z d)) := by cases d <;> exact h
      obtain ⟨c1, c2, c3, g⟩ := h'
      obtain ⟨as, r1⟩ := Dp.reads I d x v (hd.dp c1) rx
      obtain ⟨bs, r2⟩ := Dp.reads I (.tuple xs) y u (he.dp c2) ry
      have hm : min (PyData.depthAll xs) d.depth ≤ 60 := Nat.le_trans (Nat.min_le_right _ _) c3
      exact SeqAt.notIn_tuple_reads r2 r1 c2 c1 (by omega) (fin g)
    | dict kvs =>
      have h' : plainK kvs = true ∧ isKey d = true ∧ Giv X.K H Q (.bool (!(lookD kvs d).isSome)) := by cases d <;> exact h
      obtain ⟨hp, hk, g⟩ := h'
      obtain ⟨a, ks, rfl, hr, rr⟩ := he.plain hp
      cases ry
      obtain ⟨q, e1, rfl⟩ := keyD_cur hk hd
      have dg : DGet H a (kV q) (valV ks q) := .inl ⟨ks, q, hr, rfl, rfl⟩
      have eb : (valV ks q).isSome = (lookD kvs d).isSome := by
        rcases rr.look e1 with ⟨z1, z2⟩ | ⟨_, _, z1, z2, _⟩ <;> rw [z1, z2] <;> rfl
      refine d_notIn (by omega) I dg rx fun s' I' => ?_
      rw [eb]
      exact ep_same (v := .bl _) (d := .bool _) I' rfl rfl g
    | _ => cases d <;> exact h.elim
end
end Lk
/-! D3: places, slices, built-in functions by values. -/
namespace Lk
open PySem PySem.Spec PyProof.Rows L2
section
variable {X : Cx} {pins : List (Addr × Obj)} {σ : L2.St} {H : Hp} {s : Shared} {Q : VK}
/-- what is frozen when it has come -/
def Fz (Q : VK) : VK := fun v H' => ∃ p u, v = .ref p ∧ H' p = some u ∧ Mut (some u) ∧ ∀ ob, Q v (upd H' p (.frz ob u))
theorem ep_fz {w' : Value} {s' : Shared} (h : EP X pins σ (Fz Q) w' s') : EP X pins σ Q w' s' := by
  obtain ⟨v, H', I, r, p, u, rfl, e, mu, q⟩ := h
  obtain ⟨ob, I2⟩ := I.lock e mu
  exact ⟨.ref p, _, I2, r, q ob⟩
theorem ep_imp {Q' : VK} {w' : Value} {s' : Shared} (h : EP X pins σ Q w' s') (i : ∀ v H', Q v H' → Q' v H') : EP X pins σ Q' w' s' := by
  obtain ⟨v, H', I, r, q⟩ := h
  exact ⟨v, H', I, r, i v H' q⟩
/-- a new list at p, frozen -/
theorem fz_list {K : PySem.W.Frag} {ys : List V} {ds : List PyData} {p : Addr} (hr : Reps K H ds ys) (g : Giv K H Q (.list ds)) (hp : H p = none) : Fz Q (.ref p) (upd H p (.lst ys)) :=
  ⟨p, _, rfl, upd_same, trivial, fun ob => by
    rw [upd_upd]
    exact g _ _ (Same.upd hp) ⟨p, ys, rfl, ⟨ob, upd_same⟩, Reps.le (Le.new hp) _ hr⟩⟩
end
theorem Reps.atI {K : PySem.W.Frag} {H : Hp} {ds : List PyData} {vs : List V} {i : Int} {d : PyData} (h : Reps K H ds vs) (e : L2.atI ds i = some d) : ∃ v, L2.atI vs i = some v ∧ Rep K H d v := by
  unfold L2.atI at e ⊢
  rw [h.length]
  cases q : ixN ds.length i with
  | none => rw [q] at e; cases e
  | some j =>
    rw [q] at e
    exact h.get (i := j) e
theorem Reps.cut {K : PySem.W.Frag} {H : Hp} {ds : List PyData} {vs : List V} (h : Reps K H ds vs) (lo hi : Option Int) : Reps K H (cutL ds lo hi) (cutV vs lo hi) := by
  unfold cutL cutV
  rw [h.length]
  exact (h.drop _).take _
section
variable {X : Cx}
theorem opIx (hu : X.A.units + 1 < cLine) : IxR X (fun x y H Q => ∃ d e, Cur X.K H d x ∧ Cur X.K H e y ∧ ixP d e (Giv X.K H Q)) := by
  intro value slice pins s σ H x y v u Q I rx ry h hs
  obtain ⟨d, e, hd, he, h⟩ := h
  by_cases hdk : ∃ kvs, d = .dict kvs
  · obtain ⟨kvs, rfl⟩ := hdk
    have h' : plainK kvs = true ∧ isKey e = true ∧ (match lookD kvs e with
      | some x => Giv X.K H Q x
      | none => False) := by cases e <;> exact h
    obtain ⟨hp, hk, h'⟩ := h'
    obtain ⟨a, ks, rfl, hr, rr⟩ := hd.plain hp
    cases rx
    obtain ⟨q, e1, rfl⟩ := keyD_cur hk he
    rcases rr.look e1 with ⟨z1, z2⟩ | ⟨dd, vv, z1, z2, z3⟩
    · rw [z1] at h'
      exact h'.elim
    · rw [z1] at h'
      have dg : DGet H a (kV q) (some vv) := .inl ⟨ks, q, hr, rfl, z2.symm⟩
      exact tail_any (dict_typeIs I dg) PySem.F.slot_dict_getitem.lookup (d_getItem hu I dg ry fun w' s' I' rw' => ⟨vv, H, I', rw', h'.here z3⟩) hs
  cases d <;> cases e <;> try exact (show False from h).elim
  all_goals try (exact absurd ⟨_, rfl⟩ hdk)
  · rename_i z i
    obtain ⟨hz, h⟩ := h
    split at h
    · rename_i x hx
      unfold signAt at hx
      obtain ⟨c, hc, rfl⟩ := Option.map_eq_some_iff.mp hx
      exact ix_str value slice pins s σ H _ _ v u Q I rx ry ⟨z, i, c, hd, he, hz, hc, h.here (v := .str ⟨#[c]⟩) rfl⟩ hs
    · exact h.elim
  · rename_i xs i
    have h' : (match L2.atI xs i with
      | some x => Giv X.K H Q x
      | none => False) := h
    split at h'
    · rename_i x hx
      obtain ⟨a, vs, rfl, ha, ra⟩ := hd
      obtain ⟨w, ew, rw'⟩ := ra.atI hx
      exact ix_list value slice pins s σ H _ _ v u Q I rx ry ⟨a, vs, i, w, rfl, he, .inl ha, ew, h'.here rw'⟩ hs
    · exact h'.elim
  · rename_i xs i
    have h' : (match L2.atI xs i with
      | some x => Giv X.K H Q x
      | none => False) := h
    split at h'
    · rename_i x hx
      obtain ⟨a, vs, rfl, ha, ra⟩ := hd
      obtain ⟨w, ew, rw'⟩ := ra.atI hx
      exact ix_tup value slice pins s σ H _ _ v u Q I rx ry ⟨a, vs, i, w, rfl, he, ha, ew, h'.here rw'⟩ hs
    · exact h'.elim
/-- a list to be sliced: data, or the script -/
def CurL (K : PySem.W.Frag) (H : Hp) (d : PyData) (x : V) : Prop := Cur K H d x ∨ ∃ ns, d = .list (ns.map .int) ∧ ScrAt K H ns x
theorem reps_ints {K : PySem.W.Frag} {H : Hp} : ∀ ns : List Int, Reps K H (ns.map .int) (ns.map V.int)
  | [] => rfl
  | n :: ns => ⟨.int n, _, rfl, rfl, reps_ints ns⟩
theorem opSl : SlR X (fun x lo hi H Q => ∃ d, CurL X.K H d x ∧ slcP d lo hi (Giv X.K H Q)) := by
  intro pins s σ H x v vl vu lo hi sl Q I rx hs pl pu h
  obtain ⟨d, hd, h⟩ := h
  have lists : ∀ (a : Addr) (ds : List PyData) (vs : List V), x = .ref a → SqL X.K H a vs → Reps X.K H ds vs → Giv X.K H Q (.list (cutL ds lo hi)) →
      ∃ T id, typeLookup (.type T) "__getitem__" = pure (some (.builtin id)) ∧ s.TypeIs v T ∧ wpAny (model X.prog X.w) X.A (getItem v (.ref sl)) (EP X pins σ Q) X.xe s := by
    intro a ds vs ex ha ra g
    obtain ⟨T, id, h1, h2, h3⟩ := sl_list pins s σ H x v vl vu lo hi sl (Fz Q) I rx hs pl pu ⟨a, vs, ex, ha, fun p hp => fz_list (ra.cut lo hi) g hp⟩
    exact ⟨T, id, h1, h2, thn h3 fun w' s' h => ep_fz h⟩
  rcases hd with hd | ⟨ns, rfl, hd⟩
  · cases d <;> try exact h.elim
    · rename_i ds
      obtain ⟨a, vs, rfl, ha, ra⟩ := hd
      exact lists a ds vs rfl (.inl ha) ra h
    · rename_i ds
      obtain ⟨a, vs, rfl, ha, ra⟩ := hd
      have rc := ra.cut lo hi
      have hh : Giv X.K H Q (.tuple (cutL ds lo hi)) := h
      refine sl_tupA pins s σ H _ v vl vu lo hi sl Q I rx hs pl pu ⟨a, vs, rfl, ha, fun z => ?_, fun _ => of_new_tup rc hh⟩
      have e : cutV vs lo hi = vs := by
        unfold cutV
        rw [z.1, z.2]
        simp
      rw [e] at rc
      exact hh.here (v := .ref a) ⟨a, vs, rfl, ha, rc⟩
  · obtain ⟨a, e, hq⟩ := hd.sq
    exact lists a _ _ e hq (reps_ints ns) h
end
/-! ### isinstance -/
def kinds : List String := ["int", "bool", "str", "tuple", "list", "dict"]
theorem Cur.ty {K : PySem.W.Frag} {H : Hp} {d : PyData} {x : V} (h : Cur K H d x) (hn : noErr d = true) : TyX K H x (.type (tyD d)) ∨ ∃ a o y es ep, (∃ kvs, d = .dict kvs) ∧ x = .ref a ∧ H a = some (.frz o (.own y)) ∧ o.ExactDict ∧ o.data = .dict es ep := by
  cases d with
  | none => cases (show x = .non from h); exact .inl (.base .non)
  | bool b => cases (show x = .bl b from h); exact .inl (.base (.bl b))
  | int i => cases (show x = .int i from h); exact .inl (.base (.int i))
  | str y => cases (show x = .str y from h); exact .inl (.base (.str y))
  | list ds =>
    obtain ⟨a, vs, rfl, ha | ⟨o, ha⟩, _⟩ := h
    · exact .inl (.base (.lst ha))
    · exact .inl (.base (.frz ha))
  | tuple ds =>
    obtain ⟨a, vs, rfl, (ha | ⟨o, ha⟩) | ⟨o, its, n, hk, hc, _⟩, _⟩ := h
    · exact .inl (.base (.tup ha))
    · exact .inl (.fTuple ha)
    · exact .inl (.kTuple hk hc)
  | dict kvs =>
    rcases h with ⟨a, ks, rfl, ha | ⟨o, ha⟩, _⟩ | ⟨a, o, y, es, ep, rfl, _, ha, c, dd, _⟩ | ⟨_, _, _, _, _, q⟩
    · exact .inl (.base (.dK ha))
    · exact .inl (.fDict ha)
    · exact .inr ⟨a, o, y, es, ep, ⟨_, rfl⟩, rfl, ha, c, dd⟩
    · have z : (errOf kvs).isNone = true := hn
      rw [q.err.1] at z
      cases z
theorem kinds_all : (kinds.all fun T => ["NoneType", "bool", "int", "str", "list", "tuple", "dict"].all fun t => decide (kitB t T = some (t == T || (t == "bool" && T == "int")))) = true := by decide +kernel
theorem kit_kind {K : PySem.W.Frag} {T : String} (hT : T ∈ kinds) (d : PyData) : PySem.W.kitOne K (.type (tyD d)) (.type T) = some (instB T d) := by
  have h := List.all_eq_true.mp (List.all_eq_true.mp kinds_all T hT)
  refine kit_ty (of_decide_eq_true (h (tyD d) ?_))
  cases d <;> simp [tyD]
section
variable {X : Cx}
theorem opInst {T : String} (hT : T ∈ kinds) : CallR X (.builtin "isinstance") (fun xs H Q => ∃ x d, xs = [x, .ty T] ∧ Cur X.K H d x ∧ noErr d = true ∧ Giv X.K H Q (.bool (instB T d))) := by
  intro pins s σ H xs us Q I r h
  obtain ⟨x, d, rfl, hd, hno, g⟩ := h
  rcases hd.ty hno with ty | ⟨a, o, y, es, ep, hdi, rfl, ha, hc, hdt⟩
  · exact call_isi pins s σ H _ us Q I r ⟨x, .ty T, _, _, _, rfl, .ty T, ty, kit_kind hT d, g.here (r := .bool _) (v := .bl (instB T d)) rfl⟩
  · obtain ⟨u1, u2, rfl, r1, r2⟩ := vals2 r
    cases r1
    cases r2
    obtain ⟨e1, _⟩ := (show ObjOk X.prog X.w H s.heap a (.frz o (.own y)) from I.hok a _ ha)
    have kk := kit_kind (K := X.K) hT d
    obtain ⟨kvs, rfl⟩ := hdi
    exact PySem.W.kia_one PySem.W.kitx_dict I.kIn ⟨o, e1, hc.1⟩ kk (fun z => nomatch z) fun tk => ⟨.bl (instB T (.dict _)), H, I.tok tk, rfl, g.here (r := .bool _) rfl⟩
end
/-! ### repr -/
section
variable {X : Cx} {pins : List (Addr × Obj)} {σ : L2.St} {H : Hp} {s : Shared}
theorem nosys (hk : ∃ o, X.K.lookup sysModules = some o) (I : Inv X pins σ H s) : H sysModules = none := by
  obtain ⟨o, e⟩ := hk
  exact (I.bs _ _ (I.ok.mod.kin _ _ e)).2
theorem key_reads {k : Key} {d : PyData} {u : Value} (h : keyD d = some k) (hu : keyIs k u = true) : Reads s.heap u d [] := by
  cases d <;> try (cases h; done)
  all_goals
    cases h
    rcases keyIs_shape hu with ⟨i, t, e, rfl⟩ | ⟨x, t, e, rfl⟩ <;> cases e <;> constructor
mutual
/-- what may be a key is read -/
theorem Rep.reads (hs : H sysModules = none) (I : Inv X pins σ H s) : ∀ (d : PyData) {v : V} {u : Value} {nk : NestedKey}, nkD d = some nk → Rep X.K H d v → RelV v u → ∃ as, Reads s.heap u d as ∧ sysModules ∉ as
  | .none, _, _, _, _, h, r => by cases h; cases r; exact ⟨_, .none, by simp⟩
  | .bool b, _, _, _, _, h, r => by cases h; cases r; exact ⟨_, .bool b, by simp⟩
  | .int i, _, _, _, _, h, r => by cases h; obtain ⟨t, rfl⟩ := r; exact ⟨_, .int i t, by simp⟩
  | .str x, _, _, _, _, h, r => by cases h; obtain ⟨t, rfl⟩ := r; exact ⟨_, .str x t, by simp⟩
  | .list ds, _, _, _, e, h, r => by cases e
  | .dict ds, _, _, _, e, h, r => by cases e
  | .tuple ds, _, _, _, e, h, r => by
    obtain ⟨a, vs, rfl, ha, ra⟩ := h
    cases r
    obtain ⟨ks, e, _⟩ := Option.map_eq_some_iff.mp (show (nkDs ds).map NestedKey.tup = some _ from e)
    obtain ⟨its, rv, ⟨o, ho, hc, n, hd⟩, _⟩ := I.tuple ha
    obtain ⟨as, hr, hn⟩ := Reps.reads hs I ds e ra rv
    exact ⟨_, .tuple ho hc hd hr, hn⟩
theorem Reps.reads (hs : H sysModules = none) (I : Inv X pins σ H s) : ∀ (ds : List PyData) {vs : List V} {us : List Value} {ks : List NestedKey}, nkDs ds = some ks → Reps X.K H ds vs → Vals vs us → ∃ as, ReadsAll s.heap us ds as ∧ sysModules ∉ as
  | [], _, _, _, _, h, r => by cases h; cases r; exact ⟨_, .nil, by simp⟩
  | d :: ds, _, _, _, e, h, r => by
    obtain ⟨v, vs, rfl, h1, h2⟩ := h
    cases r with
    | cons r1 r2 =>
      have e' : (match nkD d, nkDs ds with
        | some k, some ks => some (k :: ks)
        | _, _ => none) = some _ := e
      split at e'
      · rename_i k ks' q1 q2
        obtain ⟨as, q1, n1⟩ := Rep.reads hs I d q1 h1 r1
        obtain ⟨bs, q2, n2⟩ := Reps.reads hs I ds q2 h2 r2
        exact ⟨_, .cons q1 q2, fun hm => (List.mem_append.mp hm).elim n1 n2⟩
      · cases e'
end
end
/-! ### functions of one argument -/
def bfV : Bf → Value
  | .len => .builtin "len"
  | .list => .type "list"
  | .tuple => .type "tuple"
  | .repr => .builtin "repr"
  | .int => .type "int"
  | .abs => .builtin "abs"
  | .all => .builtin "all"
  | .any => .builtin "any"
  | .sorted => .builtin "sorted"
  | .max => .builtin "max"
  | .min => .builtin "min"
  | .sum => .builtin "sum"
  | .dict => .type "dict"
  | .str => .type "str"
theorem bools_rep {K : PySem.W.Frag} {H : Hp} : ∀ {xs : List PyData} {bs : List Bool} {vs : List V}, boolsOf xs = some bs → Reps K H xs vs → vs = bs.map V.bl
  | [], _, _, h, r => by cases h; cases r; rfl
  | .bool b :: xs, _, _, h, r => by
    obtain ⟨v, t, rfl, h1, h2⟩ := r
    obtain ⟨cs, hc, rfl⟩ := Option.map_eq_some_iff.mp (show (boolsOf xs).map (b :: ·) = some _ from h)
    rw [bools_rep hc h2, show v = .bl b from h1]
    rfl
  | .none :: _, _, _, h, _ => nomatch h
  | .int _ :: _, _, _, h, _ => nomatch h
  | .str _ :: _, _, _, h, _ => nomatch h
  | .list _ :: _, _, _, h, _ => nomatch h
  | .tuple _ :: _, _, _, h, _ => nomatch h
  | .dict _ :: _, _, _, h, _ => nomatch h
theorem ints_rep {K : PySem.W.Frag} {H : Hp} : ∀ {xs : List PyData} {ns : List Int} {vs : List V}, intsOf xs = some ns → Reps K H xs vs → vs = ns.map V.int
  | [], _, _, h, r => by cases h; cases r; rfl
  | .int b :: xs, _, _, h, r => by
    obtain ⟨v, t, rfl, h1, h2⟩ := r
    obtain ⟨cs, hc, rfl⟩ := Option.map_eq_some_iff.mp (show (intsOf xs).map (b :: ·) = some _ from h)
    rw [ints_rep hc h2, show v = .int b from h1]
    rfl
  | .none :: _, _, _, h, _ => nomatch h
  | .bool _ :: _, _, _, h, _ => nomatch h
  | .str _ :: _, _, _, h, _ => nomatch h
  | .list _ :: _, _, _, h, _ => nomatch h
  | .tuple _ :: _, _, _, h, _ => nomatch h
  | .dict _ :: _, _, _, h, _ => nomatch h
theorem sortI_unique {ns ns' : List Int} (h1 : ns'.Perm ns) (h2 : ns'.Pairwise (· ≤ ·)) : ns' = sortI ns := by
  have p : (sortI ns).Pairwise (· ≤ ·) := by
    have := List.pairwise_mergeSort (le := fun a b : Int => decide (a ≤ b)) (fun a b c h1 h2 => by simp at *; omega) (fun a b => by simp; omega) ns
    simpa [sortI] using this
  exact List.Perm.eq_of_pairwise (fun a b _ _ h h' => by omega) h2 p (h1.trans (List.mergeSort_perm ns _).symm)
theorem foldl_max_ge : ∀ (ns : List Int) (a : Int), a ≤ ns.foldl max a ∧ (∀ y ∈ ns, y ≤ ns.foldl max a) ∧ (ns.foldl max a = a ∨ ns.foldl max a ∈ ns)
  | [], a => by simp
  | n :: ns, a => by
    obtain ⟨h1, h2, h3⟩ := foldl_max_ge ns (max a n)
    refine ⟨?_, fun y hy => ?_, ?_⟩
    · simp only [List.foldl_cons]
      omega
    · simp only [List.foldl_cons]
      rcases List.mem_cons.mp hy with z | z
      · subst z; omega
      · exact h2 y z
    · simp only [List.foldl_cons]
      rcases h3 with z | z
      · rw [z]
        by_cases q : a ≤ n
        · exact .inr (by rw [Int.max_eq_right q]; exact List.mem_cons_self)
        · exact .inl (by omega)
      · exact .inr (List.mem_cons_of_mem _ z)
theorem foldl_min_le : ∀ (ns : List Int) (a : Int), ns.foldl min a ≤ a ∧ (∀ y ∈ ns, ns.foldl min a ≤ y) ∧ (ns.foldl min a = a ∨ ns.foldl min a ∈ ns)
  | [], a => by simp
  | n :: ns, a => by
    obtain ⟨h1, h2, h3⟩ := foldl_min_le ns (min a n)
    refine ⟨?_, fun y hy => ?_, ?_⟩
    · simp only [List.foldl_cons]
      omega
    · simp only [List.foldl_cons]
      rcases List.mem_cons.mp hy with z | z
      · subst z; omega
      · exact h2 y z
    · simp only [List.foldl_cons]
      rcases h3 with z | z
      · rw [z]
        by_cases q : n ≤ a
        · exact .inr (by rw [Int.min_eq_right q]; exact List.mem_cons_self)
        · exact .inl (by omega)
      · exact .inr (List.mem_cons_of_mem _ z)
theorem maxI_unique {ns : List Int} {m : Int} (h : m ∈ ns) (g : ∀ y ∈ ns, y ≤ m) : m = maxI ns := by
  cases ns with
  | nil => cases h
  | cons n ns =>
    obtain ⟨h1, h2, h3⟩ := foldl_max_ge (n :: ns) n
    show m = (n :: ns).foldl max n
    have a1 := h2 m h
    have a2 : (n :: ns).foldl max n ≤ m := by
      rcases h3 with z | z
      · rw [z]; exact g n List.mem_cons_self
      · exact g _ z
    omega
theorem minI_unique {ns : List Int} {m : Int} (h : m ∈ ns) (g : ∀ y ∈ ns, m ≤ y) : m = minI ns := by
  cases ns with
  | nil => cases h
  | cons n ns =>
    obtain ⟨h1, h2, h3⟩ := foldl_min_le (n :: ns) n
    show m = (n :: ns).foldl min n
    have a1 := h2 m h
    have a2 : m ≤ (n :: ns).foldl min n := by
      rcases h3 with z | z
      · rw [z]; exact g n List.mem_cons_self
      · exact g _ z
    omega
/-- a new list that nobody knows yet -/
def NewL (K : PySem.W.Frag) (H : Hp) (Q : VK) (ys : List PyData) : Prop := ∀ p vs, H p = none → Reps K H ys vs → Q (.ref p) (upd H p (.lst vs))
theorem keyD_rep {K : PySem.W.Frag} {H : Hp} {k : PyData} {q : Key} (h : keyD k = some q) : Rep K H k (kV q) := by
  cases k <;> first | (cases h; done) | (cases h; exact rfl)
theorem RepK.keys {K : PySem.W.Frag} {H : Hp} : ∀ {kvs : List (PyData × PyData)} {ks : List (Key × V)}, RepK K H kvs ks → Reps K H (kvs.map (·.1)) (ks.map fun kv => kV kv.1)
  | [], _, h => by cases h; rfl
  | p :: kvs, _, h => by
    obtain ⟨q, v, s, rfl, hk, hv, t⟩ := h
    exact ⟨kV q, _, rfl, keyD_rep hk, RepK.keys t⟩
theorem RepK.length {K : PySem.W.Frag} {H : Hp} : ∀ {kvs : List (PyData × PyData)} {ks : List (Key × V)}, RepK K H kvs ks → ks.length = kvs.length
  | [], _, h => by cases h; rfl
  | p :: kvs, _, h => by
    obtain ⟨q, v, s, rfl, hk, hv, t⟩ := h
    rw [List.length_cons, List.length_cons, RepK.length t]
/-- a new dict that nobody knows yet -/
def NewD (K : PySem.W.Frag) (H : Hp) (Q : VK) (ys : List (PyData × PyData)) : Prop := ∀ p ks, H p = none → RepK K H ys ks → Q (.ref p) (upd H p (.dK ks))
theorem plain_ints : ∀ {kvs : List (PyData × PyData)} {ns : List Int}, intsOf (kvs.map (·.1)) = some ns → plainK kvs = true
  | [], _, _ => rfl
  | p :: kvs, _, h => by
    obtain ⟨k, d⟩ := p
    cases k with
    | int i =>
      have h : (intsOf (kvs.map (·.1))).map (i :: ·) = some _ := h
      obtain ⟨ms, hm, _⟩ := Option.map_eq_some_iff.mp h
      have := plain_ints hm
      unfold plainK at this ⊢
      rw [List.all_cons, this]
      rfl
    | _ => cases h
theorem ints_keys {K : PySem.W.Frag} {H : Hp} : ∀ {kvs : List (PyData × PyData)} {ks : List (Key × V)} {ns : List Int}, intsOf (kvs.map (·.1)) = some ns → RepK K H kvs ks → ks.map (·.1) = ns.map Sum.inl
  | [], _, _, h, r => by cases h; cases r; rfl
  | p :: kvs, _, _, h, ⟨q, v, s, rfl, e1, e2, r⟩ => by
    obtain ⟨k, d⟩ := p
    cases k with
    | int i =>
      have h : (intsOf (kvs.map (·.1))).map (i :: ·) = some _ := h
      obtain ⟨ms, hm, rfl⟩ := Option.map_eq_some_iff.mp h
      have e1 : some (Sum.inl i) = some q := e1
      cases e1
      rw [List.map_cons, List.map_cons, ints_keys hm r]
    | _ => cases h
theorem keyD_rep' {K : PySem.W.Frag} {H : Hp} {k : PyData} {u : V} (h : isKey k = true) (r : Rep K H k u) : ∃ q, keyD k = some q ∧ u = kV q := by
  cases k <;> first | exact ⟨_, rfl, r⟩ | cases h
theorem pairs_rep {K : PySem.W.Frag} {H : Hp} : ∀ {xs : List PyData} {ps : List (PyData × PyData)} {vs : List V}, pairsOf xs = some ps → Reps K H xs vs → ∃ (as : List Addr) (ks : List (Key × V)), vs = as.map V.ref ∧ Paired (fun p kv => SqT K H p [kV kv.1, kv.2]) as ks ∧ RepK K H ps ks
  | [], _, _, h, r => by
    cases h
    rw [show _ = [] from r]
    exact ⟨[], [], rfl, .nil, rfl⟩
  | x :: xs, ps, _, h, ⟨v, t, rfl, r1, r2⟩ => by
    unfold pairsOf at h
    split at h
    · cases ‹_ :: _ = []›
    · rename_i k d r heq
      cases heq
      split at h
      · rename_i hk
        obtain ⟨ps', hp, rfl⟩ := Option.map_eq_some_iff.mp h
        obtain ⟨as, ks, rfl, pr, rk⟩ := pairs_rep hp r2
        obtain ⟨a, ws, rfl, sq, rw⟩ := r1
        obtain ⟨u1, t1, rfl, q1, w1, t2, rfl, q2, q3⟩ := rw
        rw [show t2 = [] from q3] at sq
        obtain ⟨q, e1, rfl⟩ := keyD_rep' hk q1
        exact ⟨a :: as, (q, w1) :: ks, rfl, .cons sq pr, q, w1, ks, rfl, e1, q2, rk⟩
      · cases h
    · cases h
theorem repK_put' {K : PySem.W.Frag} {H : Hp} {k v : PyData} {q : Key} {u : V} (hk : keyD k = some q) (hv : Rep K H v u) : ∀ {kvs : List (PyData × PyData)} {ks : List (Key × V)}, RepK K H kvs ks → RepK K H (putD kvs k v) (putK ks q u) := by
  have any : ∀ {kvs : List (PyData × PyData)} {ks : List (Key × V)}, RepK K H kvs ks → (kvs.any fun p => decide (keyD p.1 = keyD k)) = (ks.any fun p => decide (p.1 = q)) := by
    intro kvs
    induction kvs with
    | nil => intro ks r; rw [show ks = [] from r]; rfl
    | cons p kvs ih =>
      intro ks r
      obtain ⟨q', v', s, rfl, e1, _, r'⟩ := r
      rw [List.any_cons, List.any_cons, ih r', e1, hk]
      congr 1
      simp
  have mp : ∀ {kvs : List (PyData × PyData)} {ks : List (Key × V)}, RepK K H kvs ks → RepK K H (kvs.map fun p => if keyD p.1 = keyD k then (p.1, v) else p) (ks.map fun p => if p.1 = q then (p.1, u) else p) := by
    intro kvs
    induction kvs with
    | nil => intro ks r; rw [show ks = [] from r]; rfl
    | cons p kvs ih =>
      intro ks r
      obtain ⟨q', v', s, rfl, e1, rv, r'⟩ := r
      rw [List.map_cons, List.map_cons]
      by_cases e : q' = q
      · rw [if_pos (by rw [e1, hk, e]), if_pos e]
        exact ⟨q', u, _, rfl, e1, hv, ih r'⟩
      · rw [if_neg (by rw [e1, hk]; intro z; exact e (Option.some.inj z)), if_neg e]
        exact ⟨q', v', _, rfl, e1, rv, ih r'⟩
  have app : ∀ {kvs : List (PyData × PyData)} {ks : List (Key × V)}, RepK K H kvs ks → RepK K H (kvs ++ [(k, v)]) (ks ++ [(q, u)]) := by
    intro kvs
    induction kvs with
    | nil => intro ks r; rw [show ks = [] from r]; exact ⟨q, u, [], rfl, hk, hv, rfl⟩
    | cons p kvs ih =>
      intro ks r
      obtain ⟨q', v', s, rfl, e1, rv, r'⟩ := r
      exact ⟨q', v', _, rfl, e1, rv, ih r'⟩
  intro kvs ks r
  unfold putD putK
  rw [any r]
  split
  · exact mp r
  · exact app r
theorem merge_rep {K : PySem.W.Frag} {H : Hp} : ∀ {ps : List (PyData × PyData)} {ks : List (Key × V)} {m : List (PyData × PyData)} {mk : List (Key × V)}, RepK K H ps ks → RepK K H m mk → RepK K H (ps.foldl (fun m p => putD m p.1 p.2) m) (mergeK mk ks)
  | [], _, _, _, r, rm => by rw [show _ = [] from r]; exact rm
  | p :: ps, _, m, mk, ⟨q, v, s, rfl, e1, e2, r⟩, rm => merge_rep (ps := ps) (ks := s) r (repK_put' e1 e2 rm)
def bfNew : Bf → Bool
  | .list => true
  | .sorted => true
  | _ => false
section
variable {X : Cx}
theorem catP_of {d e : PyData} {Q : List PyData → Prop} (h : catP d e Q) : ∃ ms ns, d = .list ms ∧ e = .list ns ∧ ms.length + ns.length ≤ sizeLine ∧ Q (ms ++ ns) := by
  cases d <;> try exact (show False from h).elim
  cases e <;> try exact (show False from h).elim
  exact ⟨_, _, rfl, rfl, h.1, h.2⟩
theorem opCatS : OpR X (binaryOp .Add) (fun x y H Q => ∃ d e, Cur X.K H d x ∧ Cur X.K H e y ∧ catP d e (NewL X.K H Q)) := by
  intro pins s σ H x y v u Q I rx ry h
  obtain ⟨d, e, hd, he, h⟩ := h
  obtain ⟨ds, es, rfl, rfl, h1, g⟩ := catP_of h
  obtain ⟨a, xs, rfl, ha, ra⟩ := hd
  obtain ⟨b, ys, rfl, hb, rb⟩ := he
  cases rx
  cases ry
  obtain ⟨z, its, n, r, hl, e⟩ := lstR I ha
  obtain ⟨z2, its2, n2, r2, hl2, e2⟩ := lstR I hb
  have l1 := ra.length
  have l2 := rb.length
  refine PySem.P.add_list e e2 ?_ (by rw [List.size_toArray, List.size_toArray]; omega)
  have ea : its.toArray ++ its2.toArray = (its ++ its2).toArray := by simp
  rw [ea]
  exact ⟨.ref _, _, I.lnew (t' := s.toks) (r.append r2) (by rw [List.length_append]; omega), rfl, g _ _ I.fresh (ra.append rb)⟩
theorem opNew (hc : X.calm = true) (f : Bf) (hf : bfNew f = true) : CallR X (bfV f) (fun xs H Q => ∃ x d, xs = [x] ∧ Cur X.K H d x ∧ bfP f d fun r => asL r (NewL X.K H Q)) := by
  intro pins s σ H xs us Q I r h
  obtain ⟨x, d, rfl, hd, h⟩ := h
  cases f <;> try (cases hf; done)
  · cases d <;> try exact (show False from h).elim
    · rename_i ds
      obtain ⟨a, vs, rfl, ha, ra⟩ := hd
      exact call_list_of pins s σ H _ us Q I r ⟨a, vs, rfl, .inl (.inl ha), fun p hp => h p vs hp ra⟩
    · rename_i ds
      obtain ⟨a, vs, rfl, ha, ra⟩ := hd
      exact call_list_of pins s σ H _ us Q I r ⟨a, vs, rfl, .inr ha, fun p hp => h p vs hp ra⟩
    · rename_i kvs
      obtain ⟨hp, h⟩ := h
      obtain ⟨a, ks, rfl, ha, ra⟩ := hd.plain hp
      exact call_listD hc pins s σ H _ us Q I r ⟨a, ks, rfl, ha, fun p hp => h p _ hp ra.keys⟩
  · cases d <;> try exact (show False from h).elim
    · rename_i ds
      obtain ⟨a, vs, rfl, ha, ra⟩ := hd
      have h' : (match intsOf ds with
        | some ns => asL (.list ((sortI ns).map .int)) (NewL X.K H Q)
        | none => False) := h
      split at h'
      · rename_i ns hn
        have e := ints_rep hn ra
        subst e
        refine cr_sortedI pins s σ H _ us Q I r ⟨a, ns, rfl, .inl ha, fun ns' p hp hs hf => ?_⟩
        have e := sortI_unique hp hs
        subst e
        exact h' p _ hf (reps_ints _)
      · exact h'.elim
    · rename_i kvs
      have h' : (match intsOf (kvs.map (·.1)) with
        | some ns => ns.length < 64 ∧ asL (.list ((sortI ns).map .int)) (NewL X.K H Q)
        | none => False) := h
      split at h'
      · rename_i ns hn
        obtain ⟨a, ks, rfl, ha, ra⟩ := hd.plain (plain_ints hn)
        refine call_sortedDI hc pins s σ H _ us Q I r ⟨a, ks, ns, rfl, ha, ints_keys hn ra, h'.1, fun ns' p hp hs hf => ?_⟩
        have e := sortI_unique hp hs
        subst e
        exact h'.2 p _ hf (reps_ints _)
      · exact h'.elim
theorem fz_dict {K : PySem.W.Frag} {H : Hp} {Q : VK} {ys : List (PyData × PyData)} {ks : List (Key × V)} {p : Addr} (hr : RepK K H ys ks) (g : Giv K H Q (.dict ys)) (hp : H p = none) : Fz Q (.ref p) (upd H p (.dK ks)) :=
  ⟨p, _, rfl, upd_same, trivial, fun ob => by
    rw [upd_upd]
    exact g _ _ (Same.upd hp) (.inl ⟨p, ks, rfl, ⟨ob, upd_same⟩, RepK.le (Le.new hp) _ hr⟩)⟩
/-- dict(x): a new dict -/
theorem opDic (hc : X.calm = true) : CallR X (bfV .dict) (fun xs H Q => ∃ x d, xs = [x] ∧ Cur X.K H d x ∧ bfP .dict d fun r => asD r (NewD X.K H Q)) := by
  intro pins s σ H xs us Q I r h
  obtain ⟨x, d, rfl, hd, h⟩ := h
  cases d <;> try exact (show False from h).elim
  · rename_i ds
    obtain ⟨a, vs, rfl, ha, ra⟩ := hd
    have h' : (match pairsOf ds with
      | some ps => asD (.dict (mergeD ps)) (NewD X.K H Q)
      | none => False) := h
    split at h'
    · rename_i ps hp
      obtain ⟨as, ks, rfl, pr, rk⟩ := pairs_rep hp ra
      exact call_dictP hc pins s σ H _ us Q I r ⟨a, as, ks, rfl, .inl ha, pr, fun p hf => h' p _ hf (merge_rep rk RepK.nil)⟩
    · exact h'.elim
  · rename_i kvs
    obtain ⟨hp, h⟩ := h
    obtain ⟨a, ks, rfl, ha, ra⟩ := hd.plain hp
    have h' : NewD X.K H Q kvs := h
    exact call_dictD pins s σ H _ us Q I r ⟨a, ks, rfl, ha, fun p hf => h' p _ hf ra⟩
theorem opFnc (hk : ∃ o, X.K.lookup sysModules = some o) (hg : X.A.guards = some []) (hu : X.A.units + 64 < cLine) (hc : X.calm = true) (f : Bf) :
    CallR X (bfV f) (fun xs H Q => ∃ x d, xs = [x] ∧ Cur X.K H d x ∧ bfP f d (Giv X.K H Q)) := by
  intro pins s σ H xs us Q I r h
  obtain ⟨x, d, rfl, hd, h⟩ := h
  cases f with
  | len =>
    cases d <;> try exact h.elim
    · rename_i z
      exact call_len_str pins s σ H _ us Q I r ⟨z, by rw [show x = .str z from hd], h.1, h.2.here (v := .int z.length) rfl⟩
    · rename_i ds
      obtain ⟨a, vs, rfl, ha, ra⟩ := hd
      refine call_len_seq pins s σ H _ us Q I r ⟨a, vs, rfl, .inl (.inl ha), ?_⟩
      rw [ra.length]
      exact Giv.here (r := .int _) h rfl
    · rename_i ds
      obtain ⟨a, vs, rfl, ha, ra⟩ := hd
      refine call_len_seq pins s σ H _ us Q I r ⟨a, vs, rfl, .inr ha, ?_⟩
      rw [ra.length]
      exact Giv.here (r := .int _) h rfl
    · rename_i kvs
      obtain ⟨hp, h⟩ := h
      obtain ⟨a, ks, rfl, ha, ra⟩ := hd.plain hp
      obtain ⟨u, rfl, ru⟩ := vals1 r
      cases ru
      refine d_len I ha fun t s' I' => ⟨.int ks.length, H, I', ⟨t, rfl⟩, ?_⟩
      rw [ra.length]
      exact Giv.here (r := .int _) h rfl
  | list =>
    cases d <;> try exact h.elim
    · rename_i ds
      obtain ⟨a, vs, rfl, ha, ra⟩ := hd
      exact thn (call_list_of pins s σ H _ us (Fz Q) I r ⟨a, vs, rfl, .inl (.inl ha), fun p hp => fz_list ra h hp⟩) fun w' s' q => ep_fz q
    · rename_i ds
      obtain ⟨a, vs, rfl, ha, ra⟩ := hd
      exact thn (call_list_of pins s σ H _ us (Fz Q) I r ⟨a, vs, rfl, .inr ha, fun p hp => fz_list ra h hp⟩) fun w' s' q => ep_fz q
    · rename_i kvs
      obtain ⟨hp, h⟩ := h
      obtain ⟨a, ks, rfl, ha, ra⟩ := hd.plain hp
      exact thn (call_listD hc pins s σ H _ us (Fz Q) I r ⟨a, ks, rfl, ha, fun p hp => fz_list ra.keys h hp⟩) fun w' s' q => ep_fz q
  | tuple =>
    cases d <;> try exact h.elim
    · rename_i ds
      obtain ⟨a, vs, rfl, ha, ra⟩ := hd
      exact call_tuple_of pins s σ H _ us Q I r ⟨a, vs, rfl, .inl ⟨.inl ha, of_new_tup ra h⟩⟩
    · rename_i ds
      obtain ⟨a, vs, rfl, ha, ra⟩ := hd
      exact call_tuple_of pins s σ H _ us Q I r ⟨a, vs, rfl, .inr ⟨ha, Giv.here (r := .tuple ds) h ⟨a, vs, rfl, ha, ra⟩⟩⟩
  | int =>
    cases d <;> try exact h.elim
    · rename_i b
      exact call_int1 pins s σ H _ us Q I r (.inr ⟨b, by rw [show x = .bl b from hd], Giv.here (r := .int _) h rfl⟩)
    · rename_i i
      exact call_int1 pins s σ H _ us Q I r (.inl ⟨i, by rw [show x = .int i from hd], Giv.here (r := .int _) h rfl⟩)
    · rename_i a
      have h' : (match intText? a with
        | some n => a.length ≤ 640 ∧ Giv X.K H Q (.int n)
        | none => False) := h
      split at h'
      · rename_i n hn
        exact call_int_str pins s σ H _ us Q I r ⟨a, n, by rw [show x = .str a from hd], hn, h'.1, h'.2.here rfl⟩
      · exact h'.elim
  | str =>
    cases d <;> try exact h.elim
    rename_i i
    exact call_str_int pins s σ H _ us Q I r ⟨i, by rw [show x = .int i from hd], h.1, h.2.here (v := .str _) rfl⟩
  | abs =>
    cases d <;> try exact h.elim
    rename_i i
    exact call_abs pins s σ H _ us Q I r ⟨i, by rw [show x = .int i from hd], Giv.here (r := .int _) h rfl⟩
  | all =>
    cases d <;> try exact h.elim
    rename_i ds
    obtain ⟨a, vs, rfl, ha, ra⟩ := hd
    have h' : (match boolsOf ds with
      | some bs => Giv X.K H Q (.bool (bs.all id))
      | none => False) := h
    split at h'
    · rename_i bs hb
      have e := bools_rep hb ra
      subst e
      exact cr_all hc pins s σ H _ us Q I r ⟨a, bs, rfl, .inl ha, h'.here rfl⟩
    · exact h'.elim
  | any =>
    cases d <;> try exact h.elim
    rename_i ds
    obtain ⟨a, vs, rfl, ha, ra⟩ := hd
    have h' : (match boolsOf ds with
      | some bs => Giv X.K H Q (.bool (bs.any id))
      | none => False) := h
    split at h'
    · rename_i bs hb
      have e := bools_rep hb ra
      subst e
      exact cr_any hc pins s σ H _ us Q I r ⟨a, bs, rfl, .inl ha, h'.here rfl⟩
    · exact h'.elim
  | sorted =>
    have h' : ∃ ys, bfP .sorted d (fun r => asL r fun zs => ys = zs) ∧ Giv X.K H Q (.list ys) := by
      cases d <;> try exact (show False from h).elim
      · rename_i ds
        have h2 : (match intsOf ds with
          | some ns => Giv X.K H Q (.list ((sortI ns).map .int))
          | none => False) := h
        split at h2
        · rename_i ns hn
          refine ⟨_, ?_, h2⟩
          show (match intsOf ds with
            | some ns => _
            | none => False)
          rw [hn]
          exact rfl
        · exact h2.elim
      · rename_i kvs
        have h2 : (match intsOf (kvs.map (·.1)) with
          | some ns => ns.length < 64 ∧ Giv X.K H Q (.list ((sortI ns).map .int))
          | none => False) := h
        split at h2
        · rename_i ns hn
          refine ⟨_, ?_, h2.2⟩
          show (match intsOf (kvs.map (·.1)) with
            | some ns => _ ∧ _
            | none => False)
          rw [hn]
          exact ⟨h2.1, rfl⟩
        · exact h2.elim
    obtain ⟨ys, h1, g⟩ := h'
    refine thn (opNew hc .sorted rfl pins s σ H _ us (Fz Q) I r ⟨x, d, rfl, hd, ?_⟩) fun w' s' q => ep_fz q
    cases d <;> try exact (show False from h1).elim
    · rename_i ds
      have h2 : (match intsOf ds with
        | some ns => ys = (sortI ns).map .int
        | none => False) := h1
      show (match intsOf ds with
        | some ns => asL (.list ((sortI ns).map .int)) (NewL X.K H (Fz Q))
        | none => False)
      split at h2
      · rename_i ns hn
        subst h2
        exact fun p vs hp rr => fz_list rr g hp
      · exact h2.elim
    · rename_i kvs
      have h2 : (match intsOf (kvs.map (·.1)) with
        | some ns => ns.length < 64 ∧ ys = (sortI ns).map .int
        | none => False) := h1
      show (match intsOf (kvs.map (·.1)) with
        | some ns => ns.length < 64 ∧ asL (.list ((sortI ns).map .int)) (NewL X.K H (Fz Q))
        | none => False)
      split at h2
      · rename_i ns hn
        obtain ⟨h3, h2⟩ := h2
        subst h2
        exact ⟨h3, fun p vs hp rr => fz_list rr g hp⟩
      · exact h2.elim
  | dict =>
    refine thn (opDic hc pins s σ H _ us (Fz Q) I r ⟨x, d, rfl, hd, ?_⟩) fun w' s' q => ep_fz q
    cases d <;> try exact (show False from h).elim
    · rename_i ds
      have h2 : (match pairsOf ds with
        | some ps => Giv X.K H Q (.dict (mergeD ps))
        | none => False) := h
      show (match pairsOf ds with
        | some ps => asD (.dict (mergeD ps)) (NewD X.K H (Fz Q))
        | none => False)
      split at h2
      · exact fun p ks hp rr => fz_dict rr h2 hp
      · exact h2.elim
    · exact ⟨h.1, fun p ks hp rr => fz_dict rr h.2 hp⟩
  | max =>
    cases d <;> try exact h.elim
    rename_i ds
    obtain ⟨a, vs, rfl, ha, ra⟩ := hd
    have h' : (match intsOf ds with
      | some ns => ns ≠ [] ∧ Giv X.K H Q (.int (maxI ns))
      | none => False) := h
    split at h'
    · rename_i ns hn
      have e := ints_rep hn ra
      subst e
      refine cr_max hc pins s σ H _ us Q I r ⟨a, ns, rfl, .inl ha, List.length_pos_iff.mpr h'.1, fun m hm g => ?_⟩
      have e := maxI_unique hm g
      subst e
      exact h'.2.here rfl
    · exact h'.elim
  | min =>
    cases d <;> try exact h.elim
    rename_i ds
    obtain ⟨a, vs, rfl, ha, ra⟩ := hd
    have h' : (match intsOf ds with
      | some ns => ns ≠ [] ∧ Giv X.K H Q (.int (minI ns))
      | none => False) := h
    split at h'
    · rename_i ns hn
      have e := ints_rep hn ra
      subst e
      refine cr_min hc pins s σ H _ us Q I r ⟨a, ns, rfl, .inl ha, List.length_pos_iff.mpr h'.1, fun m hm g => ?_⟩
      have e := minI_unique hm g
      subst e
      exact h'.2.here rfl
    · exact h'.elim
  | sum =>
    cases d <;> try exact h.elim
    rename_i ds
    obtain ⟨a, vs, rfl, ha, ra⟩ := hd
    have h' : (match intsOf ds with
      | some ns => Giv X.K H Q (.int ns.sum)
      | none => False) := h
    split at h'
    · rename_i ns hn
      have e := ints_rep hn ra
      subst e
      exact cr_sum hc pins s σ H _ us Q I r ⟨a, ns, rfl, .inl ha, h'.here rfl⟩
    · exact h'.elim
  | repr =>
    obtain ⟨u, rfl, rx⟩ := vals1 r
    have h' : False := by cases d <;> first | exact h | exact h.1
    exact h'.elim
end
end Lk
/-! D4: readings of the lifted semantics; what a def promises. -/
namespace Lk
open PySem PySem.Spec PyProof.Rows L2
/-! ### more on the relation -/
section
variable {K : PySem.W.Frag} {G : Gh} {ρ ρ' : VE} {S S' : Sto} {σ : L2.St} {H H' H2 : Hp}
def IsOwn (ρ : VE) (σ : L2.St) (a : Addr) : Prop := ∃ (i : Nat) (l : Lo), ρ[i]? = some (some l) ∧ (∀ p, l ≠ .v p) ∧ σ[i]? = some (some (V.ref a))
open Classical in
/-- the ground laid anew: all but the own places -/
noncomputable def regh (ρ : VE) (σ : L2.St) (S : Sto) (H : Hp) : Gh := ⟨fun a => if IsOwn ρ σ a then none else H a, S⟩
theorem regh_of {a : Addr} (n : ¬ IsOwn ρ σ a) : (regh ρ σ S H).H0 a = H a := if_neg n
theorem regh_own {a : Addr} (n : IsOwn ρ σ a) : (regh ρ σ S H).H0 a = none := if_pos n
theorem regh_some {a : Addr} {o : HO} (e : (regh ρ σ S H).H0 a = some o) : ¬ IsOwn ρ σ a ∧ H a = some o := by
  by_cases n : IsOwn ρ σ a
  · rw [regh_own n] at e; cases e
  · rw [regh_of n] at e; exact ⟨n, e⟩
theorem Rel.owned (R : Rel K G ρ S σ H) {a : Addr} (n : IsOwn ρ σ a) : G.H0 a = none ∧ S a = none ∧ ∃ u, H a = some u ∧ Mut (some u) := by
  obtain ⟨i, l, e, nl, ea⟩ := n
  obtain ⟨b, e1, o, f1, f2, _⟩ := R.own i l e nl
  rw [ea] at e1; cases e1
  exact ⟨f1, f2, o.tracked⟩
theorem Rel.reg (R : Rel K G ρ S σ H) : Rel K (regh ρ σ S H) ρ S σ H :=
  ⟨R.val, fun i l e n => by
    obtain ⟨a, e1, o, f1, f2, ap⟩ := R.own i l e n
    exact ⟨a, e1, o, regh_own ⟨i, l, e, n, e1⟩, f2, ap⟩, R.sto, fun a o e _ => (regh_some e).2, fun a h => .inl h, fun _ h => h, R.len⟩
/-- from the new ground back to the old one -/
theorem Rel.newBack (R : Rel K G ρ S σ H) (hn : ∀ a, S' a ≠ none → S a ≠ none ∨ (regh ρ σ S H).H0 a = none) : ∀ a, S' a ≠ none → G.S0 a ≠ none ∨ G.H0 a = none := fun a h => by
  rcases hn a h with z | z
  · exact R.new a z
  · by_cases n : IsOwn ρ σ a
    · exact .inr (R.owned n).1
    · rw [regh_of n] at z
      exact .inr (R.free z).2
theorem Rel.oldBack (R : Rel K G ρ S σ H) (ho : ∀ a o, (regh ρ σ S H).H0 a = some o → S a = none → H' a = some o) : ∀ a o, G.H0 a = some o → G.S0 a = none → H' a = some o := fun a o e1 e2 => by
  have h1 := R.old a o e1 e2
  have n : ¬ IsOwn ρ σ a := fun n => by rw [(R.owned n).1] at e1; cases e1
  have s : S a = none := by
    cases q : S a with
    | none => rfl
    | some z =>
      rcases R.new a (by rw [q]; simp) with z | z
      · exact absurd e2 z
      · rw [z] at e1; cases e1
  exact ho a o (by rw [regh_of n]; exact h1) s
theorem Rel.back {σ' : L2.St} (R : Rel K G ρ S σ H) (R' : Rel K (regh ρ σ S H) ρ' S' σ' H') : Rel K G ρ' S' σ' H' := by
  refine ⟨R'.val, fun i l e n => ?_, R'.sto, R.oldBack R'.old, R.newBack R'.new, fun a h => R'.mon a (R.mon a h), R'.len⟩
  obtain ⟨a, e1, o, f1, f2, ap⟩ := R'.own i l e n
  refine ⟨a, e1, o, ?_, f2, ap⟩
  by_cases q : IsOwn ρ σ a
  · exact (R.owned q).1
  · rw [regh_of q] at f1
    exact (R.free f1).2
/-- names are forgotten -/
theorem Rel.drop (R : Rel K G ρ S σ H) : Rel K G [] S [] H := ⟨fun i p e => by simp at e, fun i l e _ => by simp at e, R.sto, R.old, R.new, R.mon, rfl⟩
/-- what a step from (H, S) keeps -/
abbrev Step (K : PySem.W.Frag) (H : Hp) (S : Sto) (S' : Sto) (H' : Hp) : Prop := Rel K ⟨H, S⟩ [] S' [] H'
theorem Step.start (R : Rel K G ρ S σ H) : Step K H S S H := ⟨fun i p e => by simp at e, fun i l e _ => by simp at e, R.sto, fun a o e _ => e, fun a h => .inl h, fun _ h => h, rfl⟩
theorem Rel.noStore (R : Rel K G ρ S σ H) {a : Addr} {o : HO} (e : H a = some o) (m : ¬ Mut (some o)) : S a = none := by
  cases q : S a with
  | none => rfl
  | some z =>
    obtain ⟨u, e1, mu⟩ := (R.sto a z q).tracked
    rw [e] at e1; cases e1
    exact absurd mu m
theorem Step.le (R : Rel K G ρ S σ H) (T : Step K H S S' H') : Le H H' := ⟨fun a xs e => T.old a _ e (R.noStore e (fun z => z)), fun a o u e => T.old a _ e (R.noStore e (fun z => z))⟩
/-- behind a call -/
theorem Rel.called (R : Rel K G ρ S σ H) (T : Step K H S S' H') : Rel K G ρ S' σ H' := by
  have le := Step.le R T
  refine ⟨fun i p e => ?_, fun i l e n => ?_, T.sto, fun a o e1 e2 => ?_, fun a h => ?_, fun a h => T.mon a (R.mon a h), R.len⟩
  · obtain ⟨v, e1, r⟩ := R.val i p e
    exact ⟨v, e1, r.le le⟩
  · obtain ⟨a, e1, o, f1, f2, ap⟩ := R.own i l e n
    obtain ⟨u, hu, mu⟩ := o.tracked
    have k := T.old a u hu f2
    refine ⟨a, e1, o.move le (k.trans hu.symm), f1, ?_, ap⟩
    cases q : S' a with
    | none => rfl
    | some z =>
      rcases T.new a (by rw [q]; simp) with z | z
      · exact absurd f2 z
      · have z' : H a = none := z
        rw [hu] at z'; cases z'
  · refine T.old a o (R.old a o e1 e2) ?_
    show S a = none
    cases q : S a with
    | none => rfl
    | some z =>
      rcases R.new a (by rw [q]; simp) with z | z
      · exact absurd e2 z
      · rw [z] at e1; cases e1
  · rcases T.new a h with z | z
    · exact R.new a z
    · exact .inr (R.free z).2
/-- a place that no name and no store knows -/
structure Out (G : Gh) (ρ : VE) (S : Sto) (σ : L2.St) (a : Addr) : Prop where
  gh : G.H0 a = none
  sto : S a = none
  own : ¬ IsOwn ρ σ a
/-- .. is changed -/
theorem Rel.bump (R : Rel K G ρ S σ H) {a : Addr} {u o : HO} (h : H a = some u) (m : Mut (some u)) (f : Out G ρ S σ a) : Rel K G ρ S σ (upd H a o) := by
  have le : Le H (upd H a o) := Le.mut h m
  refine ⟨fun i p e => ?_, fun i l e n => ?_, fun b q e => ?_, fun b q e1 e2 => ?_, R.new, R.mon, R.len⟩
  · obtain ⟨v, e1, r⟩ := R.val i p e
    exact ⟨v, e1, r.le le⟩
  · obtain ⟨b, e1, ob, f1, f2, ap⟩ := R.own i l e n
    have hb : b ≠ a := fun z => by subst z; exact f.own ⟨i, l, e, n, e1⟩
    exact ⟨b, e1, ob.move le (upd_ne hb), f1, f2, ap⟩
  · have hb : b ≠ a := fun z => by subst z; rw [f.sto] at e; cases e
    exact (R.sto b q e).move le (upd_ne hb)
  · have hb : b ≠ a := fun z => by subst z; rw [f.gh] at e1; cases e1
    rw [upd_ne hb]; exact R.old b q e1 e2
/-- a place that stands in the new ground stays out -/
theorem Rel.outBack (R : Rel K G ρ S σ H) {σ' : L2.St} (R' : Rel K (regh ρ σ S H) ρ' S' σ' H') {a : Addr} {u : HO} (h : H a = some u) (f : Out G ρ S σ a) : Out G ρ' S' σ' a ∧ H' a = some u := by
  have g : (regh ρ σ S H).H0 a = some u := by rw [regh_of f.own]; exact h
  refine ⟨⟨f.gh, ?_, fun ⟨i, l, e, n, e1⟩ => ?_⟩, R'.old a u g f.sto⟩
  · cases q : S' a with
    | none => rfl
    | some z =>
      rcases R'.new a (by rw [q]; simp) with z | z
      · exact absurd f.sto z
      · rw [g] at z; cases z
  · obtain ⟨b, e2, _, f1, _⟩ := R'.own i l e n
    rw [e1] at e2; cases e2
    rw [g] at f1; cases f1
/-- a new place -/
theorem Rel.outNew (R : Rel K G ρ S σ H) {a : Addr} (h : H a = none) : Out G ρ S σ a := by
  obtain ⟨f2, f1⟩ := R.free h
  refine ⟨f1, f2, fun n => ?_⟩
  obtain ⟨_, _, u, e, _⟩ := R.owned n
  rw [h] at e; cases e
end
/-! ### readings -/
abbrev XR := Exc → Value → Option Addr → Hp → Prop
def RepVs (K : PySem.W.Frag) (H : Hp) : List PV → List V → Prop := Paired (RepV K H)
theorem RepVs.le {K : PySem.W.Frag} {H H' : Hp} (l : Le H H') : ∀ {ps : List PV} {vs : List V}, RepVs K H ps vs → RepVs K H' ps vs
  | _, _, .nil => .nil
  | _, _, .cons r t => .cons (RepV.le l r) (RepVs.le l t)
theorem RepVs.length {K : PySem.W.Frag} {H : Hp} {ps : List PV} {vs : List V} (r : RepVs K H ps vs) : ps.length = vs.length := Paired.length r
section
variable (K : PySem.W.Frag) (xr : XR)
/-- what the exceptions that leave are to be -/
def ExF (W : WX) (G : Gh) (E : EK) (σ : L2.St) (H : Hp) : Prop := ∀ x ρ' S' cls od H', E x ρ' S' → Rel K G ρ' S' σ H' → xr x cls od H' → Le H H' → W cls od σ H'
/-- what a value is read as: by the ground, the names, the store, the slots, the heap -/
abbrev RP (α β : Type) := Gh → VE → Sto → L2.St → Hp → α → β → Prop
/-- a reading: a weakest precondition holds -/
def rdg {α β : Type} (W : WX) (R : RP α β) (wp : EK → VE → Sto → (α → VE → Sto → Prop) → Prop) (σ : L2.St) (H : Hp) (Q : β → Hp → Prop) : Prop :=
  ∃ G ρ S E P, Rel K G ρ S σ H ∧ wp E ρ S P ∧ (∀ a ρ' S' b H', P a ρ' S' → Rel K G ρ' S' σ H' → R G ρ' S' σ H' a b → Le H H' → Q b H') ∧ ExF K xr W G E σ H
def RpV : RP PV V := fun _ _ _ _ H a b => RepV K H a b
def RpB : RP Bool Bool := fun _ _ _ _ _ a b => a = b
def RpVs : RP (List PV) (List V) := fun _ _ _ _ H a b => RepVs K H a b
def RpDs : RP (List PyData) (List V) := fun _ _ _ _ H a b => Reps K H a b
def RpA : RP Arg V := fun _ _ _ σ H a b => match a with
  | .now v => RepV K H v b
  | .late i => σ[i]? = some (some b)
def RpL : RP Lo V := fun G ρ S σ H l u => match l with
  | .v p => RepV K H p u
  | l => ∃ a, u = .ref a ∧ OwnAt K H a l ∧ Out G ρ S σ a
end
section
variable {K : PySem.W.Frag} {xr : XR} {W : WX} {G : Gh} {E : EK} {ρ ρ' : VE} {S S' : Sto} {σ : L2.St} {H H' : Hp}
theorem ExF.le (x : ExF K xr W G E σ H) (l : Le H H') : ExF K xr W G E σ H' := fun a ρ' S' cls od H2 h1 h2 h3 h4 => x a ρ' S' cls od H2 h1 h2 h3 (l.trans h4)
theorem RpA.le {a : Arg} {u : V} (r : RpA K G ρ S σ H a u) (l : Le H H') : RpA K G ρ' S' σ H' a u := by
  cases a with
  | now v => exact RepV.le l (show RepV K H v u from r)
  | late i => exact r
theorem conV_sound {p : PV} {u : V} {Q : PyData → Prop} (R : Rel K G ρ S σ H) (h : conV S p Q) (r : RepV K H p u) : ∃ d, Cur K H d u ∧ Q d := by
  cases p with
  | d x => exact ⟨x, Rep.cur r, h⟩
  | s ns => exact h.elim
  | r a =>
    have e : u = .ref a := r
    subst e
    unfold conV at h
    dsimp only at h
    cases q : S a with
    | none => rw [q] at h; exact h.elim
    | some o =>
      rw [q] at h
      have ro := R.sto a o q
      cases o with
      | lst xs =>
        obtain ⟨vs, e, rr⟩ := ro
        exact ⟨.list xs, ⟨a, vs, rfl, .inl e, rr⟩, h⟩
      | dic kvs =>
        obtain ⟨ks, e, rr⟩ := ro
        exact ⟨.dict kvs, .inl ⟨a, ks, rfl, .inl e, rr⟩, h⟩
theorem own_cur {i : Nat} {l : Lo} {u : V} (R : Rel K G ρ S σ H) (e : ρ[i]? = some (some l)) (n : ∀ p, l ≠ .v p) (eu : σ[i]? = some (some u)) : ∃ a, u = .ref a ∧ OwnAt K H a l := by
  obtain ⟨a, e1, o, _⟩ := R.own i l e n
  rw [eu] at e1; cases e1
  exact ⟨a, rfl, o⟩
theorem con_sound {a : Arg} {u : V} {Q : PyData → Prop} (R : Rel K G ρ S σ H) (h : con ρ S a Q) (r : RpA K G ρ S σ H a u) : ∃ d, Cur K H d u ∧ Q d := by
  cases a with
  | now v => exact conV_sound R h r
  | late i =>
    have r : σ[i]? = some (some u) := r
    unfold con at h
    dsimp only at h
    cases q : ρ[i]? with
    | none => rw [q] at h; exact h.elim
    | some lo =>
      cases lo with
      | none => rw [q] at h; exact h.elim
      | some l =>
        rw [q] at h
        cases l with
        | v p =>
          obtain ⟨v, e, rv⟩ := R.val i p q
          rw [r] at e; cases e
          exact conV_sound R h rv
        | ol xs =>
          obtain ⟨a, rfl, vs, e, rr⟩ := own_cur R q (fun _ z => nomatch z) r
          exact ⟨.list xs, ⟨a, vs, rfl, .inl e, rr⟩, h⟩
        | od kvs =>
          obtain ⟨a, rfl, vs, e, rr⟩ := own_cur R q (fun _ z => nomatch z) r
          exact ⟨.dict kvs, .inl ⟨a, vs, rfl, .inl e, rr⟩, h⟩
theorem conL_sound {a : Arg} {u : V} {Q : PyData → Prop} (R : Rel K G ρ S σ H) (h : conL ρ S a Q) (r : RpA K G ρ S σ H a u) : ∃ d, CurL K H d u ∧ Q d := by
  have go : con ρ S a Q → ∃ d, CurL K H d u ∧ Q d := fun h => by
    obtain ⟨d, c, q⟩ := con_sound R h r
    exact ⟨d, .inl c, q⟩
  cases a with
  | now v =>
    cases v with
    | s ns => exact ⟨_, .inr ⟨ns, rfl, r⟩, h⟩
    | d x => exact go h
    | r a => exact go h
  | late i =>
    have r' : σ[i]? = some (some u) := r
    unfold conL at h
    dsimp only at h
    cases q : ρ[i]? with
    | none => rw [q] at h; exact go h
    | some lo =>
      cases lo with
      | none => rw [q] at h; exact go h
      | some l =>
        rw [q] at h
        cases l with
        | ol xs => exact go h
        | od kvs => exact go h
        | v p =>
          cases p with
          | d x => exact go h
          | r a => exact go h
          | s ns =>
            obtain ⟨v, e, rv⟩ := R.val i _ q
            rw [r'] at e; cases e
            exact ⟨_, .inr ⟨ns, rfl, rv⟩, h⟩
theorem isD_of {v : PV} {Q : PyData → Prop} (h : isD v Q) : ∃ x, v = .d x ∧ Q x := by
  cases v with
  | d x => exact ⟨x, rfl, h⟩
  | r a => exact h.elim
  | s ns => exact h.elim
theorem isB_of {v : PV} {Q : Bool → Prop} (h : isB v Q) : ∃ b, v = .d (.bool b) ∧ Q b := by
  cases v with
  | d x =>
    cases x <;> first | exact ⟨_, rfl, h⟩ | exact (show False from h).elim
  | r a => exact h.elim
  | s ns => exact h.elim
end
/-! ### monotony -/
section
variable {Q Q' : PyData → Prop} {R R' : Bool → Prop}
theorem binP_mono {o : Bop} {d e : PyData} (i : ∀ r, Q r → Q' r) (h : binP o d e Q) : binP o d e Q' := by
  cases o <;> cases d <;> cases e <;> first
    | exact (show False from h).elim
    | exact i _ h
    | exact ⟨h.1, i _ h.2⟩
    | exact ⟨h.1, h.2.1, h.2.2.1, i _ h.2.2.2⟩
    | exact ⟨h.1, h.2.1, h.2.2.1, h.2.2.2.1, i _ h.2.2.2.2⟩
theorem eqDic_mono {d e : PyData} {R R' : Bool → Prop} (i : ∀ r, R r → R' r) (h : eqDic d e R) : eqDic d e R' := by
  obtain ⟨ks, ls, rfl, rfl, p1, p2, v1, v2, q⟩ := eqDic_of h
  exact ⟨p1, p2, v1, v2, i _ q⟩
theorem cmpP_mono {o : Cop} {d e : PyData} (i : ∀ r, R r → R' r) (h : cmpP o d e R) : cmpP o d e R' := by
  cases o
  · have h' : (match eqO d e with
      | some b => R b
      | none => eqDic d e R) := h
    show (match eqO d e with
      | some b => R' b
      | none => eqDic d e R')
    split at h' <;> first | exact i _ h' | exact eqDic_mono i h' | exact eqDic_mono (fun r q => i _ q) h'
  · have h' : (match eqO d e with
      | some b => R (!b)
      | none => eqDic d e fun b => R (!b)) := h
    show (match eqO d e with
      | some b => R' (!b)
      | none => eqDic d e fun b => R' (!b))
    split at h' <;> first | exact i _ h' | exact eqDic_mono i h' | exact eqDic_mono (fun r q => i _ q) h'
  all_goals
    cases e <;> cases d <;> first
      | exact (show False from h).elim
      | exact i _ h
      | exact ⟨h.1, h.2.1, h.2.2.1, i _ h.2.2.2⟩
      | exact ⟨h.1, h.2.1, i _ h.2.2⟩
      | exact ⟨h.1, i _ h.2⟩
theorem truP_sound {K : PySem.W.Frag} {H : Hp} {d : PyData} {u : V} (c : Cur K H d u) (h : truP d R) : ∃ k, (TruV K u H k ∨ ∃ kvs, ∃ a, u = .ref a ∧ Rd H a (.dK kvs) ∧ k = !kvs.isEmpty) ∧ R k := by
  have len : ∀ {ds : List PyData} {vs : List V}, Reps K H ds vs → (!ds.isEmpty) = !vs.isEmpty := fun {ds vs} r => by
    cases ds with
    | nil => rw [show vs = [] from r] <;> rfl
    | cons d ds => obtain ⟨v, t, rfl, _⟩ := r; rfl
  cases d with
  | none => cases (show u = .non from c); exact ⟨false, .inl rfl, h⟩
  | bool b => cases (show u = .bl b from c); exact ⟨b, .inl rfl, h⟩
  | int i => cases (show u = .int i from c); exact ⟨i != 0, .inl rfl, h⟩
  | str z =>
    cases (show u = .str z from c)
    refine ⟨_, .inl ⟨h.1, rfl⟩, ?_⟩
    have e : ((z.length : Int) != 0) = (z.length != 0) := by
      rw [Bool.eq_iff_iff]
      simp
    rw [e]
    exact h.2
  | list ds =>
    obtain ⟨a, vs, rfl, ha, r⟩ := c
    exact ⟨_, .inl (.inl ⟨vs, .inl ha, rfl⟩), by rw [← len r]; exact h⟩
  | tuple ds =>
    obtain ⟨a, vs, rfl, ha, r⟩ := c
    exact ⟨_, .inl (.inr (.inl ⟨vs, ha, rfl⟩)), by rw [← len r]; exact h⟩
  | dict kvs =>
    obtain ⟨hp, h⟩ := h
    obtain ⟨a, ks, rfl, ha, r⟩ := c.plain hp
    refine ⟨_, .inr ⟨ks, a, rfl, ha, rfl⟩, ?_⟩
    have e : (!kvs.isEmpty) = !ks.isEmpty := by
      cases kvs with
      | nil => rw [show ks = [] from r] <;> rfl
      | cons p kvs => obtain ⟨q, v, t, rfl, _⟩ := r; rfl
    rw [← e]
    exact h
theorem bfP_mono {f : Bf} {d : PyData} (i : ∀ r, Q r → Q' r) (h : bfP f d Q) : bfP f d Q' := by
  have hints : ∀ {xs : List PyData} {F : List Int → (PyData → Prop) → Prop}, (∀ ns, F ns Q → F ns Q') → (match intsOf xs with
      | some ns => F ns Q
      | none => False) → (match intsOf xs with
      | some ns => F ns Q'
      | none => False) := by
    intro xs F k z
    split at z
    · exact k _ z
    · exact z.elim
  have bools : ∀ {xs : List PyData} {F : List Bool → (PyData → Prop) → Prop}, (∀ ns, F ns Q → F ns Q') → (match boolsOf xs with
      | some ns => F ns Q
      | none => False) → (match boolsOf xs with
      | some ns => F ns Q'
      | none => False) := by
    intro xs F k z
    split at z
    · exact k _ z
    · exact z.elim
  cases f
  case all => cases d <;> first | exact (show False from h).elim | exact bools (F := fun bs Q => Q (.bool (bs.all id))) (fun _ z => i _ z) h
  case any => cases d <;> first | exact (show False from h).elim | exact bools (F := fun bs Q => Q (.bool (bs.any id))) (fun _ z => i _ z) h
  case sorted => cases d <;> first | exact (show False from h).elim | exact hints (F := fun ns Q => Q (.list ((sortI ns).map .int))) (fun _ z => i _ z) h | exact hints (F := fun ns Q => ns.length < 64 ∧ Q (.list ((sortI ns).map .int))) (fun _ z => ⟨z.1, i _ z.2⟩) h
  case dict =>
    cases d <;> try exact (show False from h).elim
    · rename_i xs
      have h' : (match pairsOf xs with
        | some ps => Q (.dict (mergeD ps))
        | none => False) := h
      show (match pairsOf xs with
        | some ps => Q' (.dict (mergeD ps))
        | none => False)
      split at h'
      · exact i _ h'
      · exact h'.elim
    · exact ⟨h.1, i _ h.2⟩
  case int =>
    cases d <;> try exact (show False from h).elim
    · exact i _ h
    · exact i _ h
    · rename_i a
      have h' : (match intText? a with
        | some n => a.length ≤ 640 ∧ Q (.int n)
        | none => False) := h
      show (match intText? a with
        | some n => a.length ≤ 640 ∧ Q' (.int n)
        | none => False)
      split at h'
      · exact ⟨h'.1, i _ h'.2⟩
      · exact h'.elim
  case sum => cases d <;> first | exact (show False from h).elim | exact hints (F := fun ns Q => Q (.int ns.sum)) (fun _ z => i _ z) h
  case max => cases d <;> first | exact (show False from h).elim | exact hints (F := fun ns Q => ns ≠ [] ∧ Q (.int (maxI ns))) (fun _ z => ⟨z.1, i _ z.2⟩) h
  case min => cases d <;> first | exact (show False from h).elim | exact hints (F := fun ns Q => ns ≠ [] ∧ Q (.int (minI ns))) (fun _ z => ⟨z.1, i _ z.2⟩) h
  all_goals
    cases d <;> first
      | exact (show False from h).elim
      | exact i _ h
      | exact ⟨h.1, i _ h.2⟩
      | exact h.1.elim
theorem rvP_mono {b : Bool} {d : PyData} (i : ∀ r, Q r → Q' r) (h : rvP b d Q) : rvP b d Q' := by
  cases d <;> first | exact (show False from h).elim | exact i _ h
theorem asL_mono {d : PyData} {A B : List PyData → Prop} (i : ∀ r, A r → B r) (h : asL d A) : asL d B := by
  cases d <;> first | exact (show False from h).elim | exact i _ h
theorem bfD_mono {d : PyData} {A B : PyData → Prop} (i : ∀ r, A r → B r) (h : bfP .dict d A) : bfP .dict d B := bfP_mono i h
theorem asD_mono {d : PyData} {A B : List (PyData × PyData) → Prop} (i : ∀ r, A r → B r) (h : asD d A) : asD d B := by
  cases d <;> first | exact (show False from h).elim | exact i _ h
theorem ixP_mono {d e : PyData} (i : ∀ r, Q r → Q' r) (h : ixP d e Q) : ixP d e Q' := by
  by_cases hdk : ∃ kvs, d = .dict kvs
  · obtain ⟨kvs, rfl⟩ := hdk
    have h' : plainK kvs = true ∧ isKey e = true ∧ (match lookD kvs e with
      | some x => Q x
      | none => False) := by cases e <;> exact h
    have g : plainK kvs = true ∧ isKey e = true ∧ (match lookD kvs e with
      | some x => Q' x
      | none => False) := by
      refine ⟨h'.1, h'.2.1, ?_⟩
      have h2 := h'.2.2
      split at h2
      · exact i _ h2
      · exact h2.elim
    cases e <;> exact g
  cases d <;> cases e <;> try exact (show False from h).elim
  all_goals try (exact absurd ⟨_, rfl⟩ hdk)
  · rename_i z j
    obtain ⟨h1, h2⟩ := h
    refine ⟨h1, ?_⟩
    split at h2 <;> first | exact i _ h2 | exact h2.elim
  · rename_i xs j
    have h' : (match L2.atI xs j with
      | some x => Q x
      | none => False) := h
    show (match L2.atI xs j with
      | some x => Q' x
      | none => False)
    split at h' <;> first | exact i _ h' | exact h'.elim
  · rename_i xs j
    have h' : (match L2.atI xs j with
      | some x => Q x
      | none => False) := h
    show (match L2.atI xs j with
      | some x => Q' x
      | none => False)
    split at h' <;> first | exact i _ h' | exact h'.elim
theorem slcP_mono {d : PyData} {l u : Option Int} (i : ∀ r, Q r → Q' r) (h : slcP d l u Q) : slcP d l u Q' := by
  cases d <;> first | exact (show False from h).elim | exact i _ h
end
/-! ### a def's promise -/
section
variable (K : PySem.W.Frag) (xr : XR)
def PostV (H : Hp) (S : Sto) (Q : PV → Sto → Prop) : VK := fun u H' => ∃ v S', RepV K H' v u ∧ Step K H S S' H' ∧ Q v S'
def PostX (H : Hp) (S : Sto) (E : Exc → Sto → Prop) : XK := fun cls od H' => ∃ x S', xr x cls od H' ∧ Step K H S S' H' ∧ E x S'
/-- a call of the def at f, at most k calls deep, does what φ asks -/
def FnG (P : Program) (w : World) (mg : Str → Option Value) (base : Heap) (k : Nat) (f : Addr) (fd : FuncData) (ps : List Str) (φ : List PV → Sto → (PV → Sto → Prop) → (Exc → Sto → Prop) → Prop) : Prop :=
  ∀ (A : Around) (outer : List Env) (s : Shared) (H : Hp) (us : List Value) (xs : List V) (vs : List PV) (S : Sto) (Q : PV → Sto → Prop) (E : Exc → Sto → Prop), Room (k + 2) A → A.guards = some [] → Env0 P w K mg base A outer s H →
    BindsTo s fd ⟨us, []⟩ (ps.zip us) → Vals xs us → RepVs K H vs xs → Step K H S S H → φ vs S Q E →
    codeAny (model P w) A (.call (.ref f) ⟨us, []⟩) (CR (CX P w) outer P w H s (PostV K H S Q) (PostX K xr H S E)) s
end
/-- what is known of a name that is called -/
structure FnAt (X : Cx) (xr : XR) (n : Nat) (x : Str) (φ : List PV → Sto → (PV → Sto → Prop) → (Exc → Sto → Prop) → Prop) (f : Addr) (fd : FuncData) (ps : List Str) : Prop where
  mg : X.mg x = some (.ref f)
  keep : PySem.W.keepIn X.K (.ref f) = true
  binds : Binds X.K fd ps []
  len : ∀ vs S Q E, φ vs S Q E → vs.length = ps.length
  runs : FnG X.K xr X.prog X.w X.mg X.base n f fd ps φ
section
variable {X : Cx} {xr : XR} {n : Nat} {f : Addr} {fd : FuncData} {ps : List Str} {x : Str} {φ : List PV → Sto → (PV → Sto → Prop) → (Exc → Sto → Prop) → Prop} {W : WX} {pins : List (Addr × Obj)} {σ : L2.St} {H : Hp} {s : Shared}
theorem run_fnG {us : List Value} {xs : List V} {vs : List PV} {S : Sto} {Q : PV → Sto → Prop} {E : Exc → Sto → Prop} (F : FnAt X xr n x φ f fd ps) (hr : Room (n + 2) X.A) (hg : X.A.guards = some []) (tk : Takes X W) (I : Inv X pins σ H s)
    (r : Vals xs us) (rv : RepVs X.K H vs xs) (T : Step X.K H S S H) (h : φ vs S Q E) (hx : ∀ cls od H', PostX X.K xr H S E cls od H' → W cls od σ H') :
    wpAny (model X.prog X.w) X.A (call (.ref f) us) (EP X pins σ (PostV X.K H S Q)) X.xe s := by
  have hl : us.length = ps.length := by
    rw [← r.length, ← rv.length]
    exact F.len _ _ _ _ h
  have hb := F.binds s us I.kIn (by rw [List.append_nil]; exact hl)
  rw [List.append_nil] at hb
  refine wpAny_call (codeAny_mono (F.runs X.A X.stack s H us xs vs S Q E hr hg I.env0 hb r rv T h) fun q s' hq => ?_)
  cases q with
  | error e => exact tk e s' (XE.of_call I hx hq)
  | ok fl =>
    cases fl with
    | ret u => exact I.after hq
    | next => exact False.elim hq
    | brk => exact False.elim hq
    | cont => exact False.elim hq
end
end Lk
/-! D5: the checker; expressions by the lifted semantics, but comprehensions. -/
namespace Lk
open PySem PySem.Spec PyProof.Rows L2
/-! ### the checker -/
structure Cfg where
  N : List Str
  sc : Scope
  fn : Str → Bool
  fns : List Str
  cst : List (Str × PyData)
  bl : List Str
  exs : List Str
  rai : List Str
def visB (sc : Scope) (x : Str) : Bool := match sc.names.lookup x with
  | some .local => true
  | some .cell => true
  | some .free => true
  | _ => false
def noS (x : Str) : Bool := !(x == ("__debug__" : Str)) && !(x == ("__classdict__" : Str)) && !(x == ("__name__" : Str))
def slotB (c : Cfg) (i : Nat) (x : Str) : Bool := decide (c.N[i]? = some x) && visB c.sc x && noS x
def gloB (c : Cfg) (x : Str) : Bool := decide (c.sc.names.lookup x = some .globalImplicit) && noS x
def bltB (c : Cfg) (x : Str) : Bool := gloB c x && c.bl.contains x
def stoB (c : Cfg) (i : Nat) (x : Str) : Bool := decide (c.N[i]? = some x) && (match c.sc.names.lookup x with
  | some .local => true
  | some .cell => c.fn x
  | _ => false)
def eqS : PyData → PyData → Bool
  | .none, .none => true
  | .bool a, .bool b => a == b
  | .int a, .int b => decide (a = b)
  | .str a, .str b => decide (a = b)
  | _, _ => false
theorem eqS_eq {a b : PyData} (h : eqS a b = true) : a = b := by
  cases a <;> cases b <;> first
    | rfl
    | exact absurd (show false = true from h) Bool.false_ne_true
    | (have q := of_decide_eq_true h; rw [q])
    | (have q := eq_of_beq (show (_ == _) = true from h); rw [q])
def kdB : PyData → Expr → Bool
  | .none, .Constant .none _ _ => true
  | .bool b, .Constant (.bool c) _ _ => b == c
  | .int i, .Constant (.int j) _ _ => decide (i = j)
  | .str x, .Constant (.str y) _ _ => decide (x = y)
  | .int i, .UnaryOp .USub (.Constant (.int j) _ _) _ => decide (i = -j)
  | _, _ => false
def nst : Expr → Bool
  | .Starred _ _ => false
  | _ => true
def nsl : Expr → Bool
  | .Slice _ _ _ _ => false
  | _ => true
def nset : Expr → Bool
  | .Set _ _ _ => false
  | _ => true
/-- an expression whose test is its value's truth -/
def tstB : Expr → Bool
  | .Name _ _ => true
  | .Call _ _ _ _ => true
  | .Subscript _ _ _ => true
  | .Constant _ _ _ => true
  | .Attribute _ _ _ => true
  | .BinOp _ _ _ _ => true
  | _ => false
def bfN : Bf → Str
  | .len => "len"
  | .list => "list"
  | .tuple => "tuple"
  | .repr => "repr"
  | .int => "int"
  | .abs => "abs"
  | .all => "all"
  | .any => "any"
  | .sorted => "sorted"
  | .max => "max"
  | .min => "min"
  | .sum => "sum"
  | .dict => "dict"
  | .str => "str"
def Cfg.blk (c : Cfg) (scope : Scope) : Cfg := { c with sc := relS scope c.sc, fn := fun x => scope.names.lookup x == some .cell }
def stosB (c : Cfg) : List Nat → List Expr → Bool
  | [], [] => true
  | i :: is, .Name x _ :: es => stoB c i x && stosB c is es
  | _, _ => false
def tgB (c : Cfg) : Tg → Expr → Bool
  | .nm i, .Name x _ => stoB c i x
  | .tup is, .Tuple es _ _ => stosB c is es
  | _, _ => false
def tgIn : Tg → List Nat → Bool
  | .nm i, l => l.contains i
  | .tup is, l => is.all l.contains
def isTup : Expr → Bool
  | .Tuple _ _ _ => true
  | _ => false
def isCmp : Expr → Bool
  | .Compare _ _ _ _ => true
  | _ => false
def isNm : Expr → Bool
  | .Name _ _ => true
  | _ => false
def skN : Sk → Str
  | .val => ""
  | .rng => "range"
  | .rngC => "range"
  | .enum => "enumerate"
  | .zip => "zip"
  | .items => ""
  | .values => ""
  | .zipS => ""
  | .enZ => ""
  | .itemsN => ""
def skL (tg : Expr) (es : List Expr) : Sk → Bool
  | .val => false
  | .rng => es.length == 1 || es.length == 2
  | .rngC => es.length == 3
  | .enum => es.length == 1 && isTup tg
  | .zip => es.length == 2 && isTup tg
  | .items => false
  | .values => false
  | .zipS => false
  | .enZ => false
  | .itemsN => false
def srcC (c : Cfg) (tg : Expr) (sk : Sk) : Expr → Option (List Expr)
  | .Call (.Name x _) es [] _ => if (x == skN sk && bltB c x && es.all nst && skL tg es sk) = true then some es else none
  | _ => none
/-- x.items(), x.values() -/
def srcM (m : Str) : Expr → Option (List Expr)
  | .Call (.Attribute e x ap) [] [] p => if (x == m && ap.endLine == p.line && isNm e && nst e) = true then some [e] else none
  | _ => none
/-- zip(*x) -/
def srcS (c : Cfg) : Expr → Option (List Expr)
  | .Call (.Name x _) [.Starred e _] [] _ => if (x == ("zip" : Str) && bltB c x) = true then some [e] else none
  | _ => none
/-- enumerate(zip(*x)) -/
def srcZ2 (c : Cfg) : Expr → Option (List Expr)
  | .Call (.Name y _) [.Call (.Name x _) [.Starred e _] [] _] [] _ => if (y == ("enumerate" : Str) && bltB c y && x == ("zip" : Str) && bltB c x) = true then some [e] else none
  | _ => none
/-- what stands in a loop's head, to be evaluated -/
def srcE (c : Cfg) (tg : Expr) (sk : Sk) (it : Expr) : Option (List Expr) := match sk with
  | .val => if (nset it && nst it) = true then some [it] else none
  | .items => if isTup tg = true then srcM "items" it else none
  | .values => srcM "values" it
  | .itemsN => if isNm tg = true then srcM "items" it else none
  | .zipS => if isNm tg = true then srcS c it else none
  | .enZ => if isTup tg = true then srcZ2 c it else none
  | sk => srcC c tg sk it
def isZero : Option Expr → Bool
  | some (.Constant (.int i) _ _) => i == 0
  | _ => false
def fnsB (c : Cfg) : List Str → List Expr → Bool
  | [], [] => true
  | f :: fs, .Name x _ :: es => x == f && gloB c x && c.fns.contains x && fnsB c fs es
  | _, _ => false
/-- the errors without an own __init__ -/
def errM : List Str := ["ShownError", "NoTree", "NoPattern", "NoPlace", "NoLesson", "NoPair", "NoStay", "NoMark", "Mismatch", "InvalidCommand"]
/-- a class, or three of them -/
def isxC (c : Cfg) : Xq → Expr → Bool
  | .own d, .Name x _ => x == d && gloB c x && errN.contains d
  | .val, .Name x _ => x == ("ValueError" : Str) && bltB c x
  | .oth, .Tuple [.Name x _, .Name y _, .Name z _] _ _ => x == ("KeyError" : Str) && y == ("IndexError" : Str) && z == ("TypeError" : Str) && bltB c x && bltB c y && bltB c z
  | _, _ => false
/-- what an attribute is read of: an item of a name -/
def atB : Expr → Bool
  | .Subscript (.Name _ _) _ _ => true
  | _ => false
mutual
def chkE : Cfg → Ex → Expr → Bool
  | _, .kd d, e => kdB d e
  | c, .var i, e => match e with
    | .Name x _ => slotB c i x
    | _ => false
  | c, .gl x d, e => match e with
    | .Name y _ => decide (x = y) && gloB c x && (c.cst.any fun p => decide (p.1 = x) && eqS p.2 d)
    | _ => false
  | c, .bin op a b, e => match e with
    | .BinOp l o r _ => decide (o = bopA op) && chkE c a l && chkE c b r
    | _ => false
  | c, .cmp op a b, e => match e with
    | .Compare l [o] [r] _ => decide (o = copA op) && nset r && chkE c a l && chkE c b r
    | _ => false
  | c, .chain op op' a b d, e => match e with
    | .Compare l [o, o'] [r, r'] _ => decide (o = copA op) && decide (o' = copA op') && nset r' && chkE c a l && chkE c b r && chkE c d r'
    | _ => false
  | c, .isk neg k a, e => match e with
    | .Compare l [o] [r] _ => decide (o = if neg then .IsNot else .Is) && eqS k .none && kdB k r && chkE c a l
    | _ => false
  | c, .inst T a, e => match e with
    | .Call (.Name x _) [l, .Name t _] [] _ => x == ("isinstance" : Str) && t == Str.ofString T && bltB c x && bltB c t && kinds.contains T && nst l && chkE c a l
    | _ => false
  | c, .andE as, e => match e with
    | .BoolOp .And es _ => chkAs c as es
    | _ => false
  | c, .orE as, e => match e with
    | .BoolOp .Or es _ => chkAs c as es
    | _ => false
  | c, .notE a, e => match e with
    | .UnaryOp .Not l _ => chkE c a l
    | _ => false
  | c, .ite t a b, e => match e with
    | .IfExp x l r _ => chkT c t x && chkE c a l && chkE c b r
    | _ => false
  | c, .fnc f a, e => match e with
    | .Call (.Name x _) [l] [] _ => x == bfN f && bltB c x && nst l && chkE c a l
    | _ => false
  | c, .call f as, e => match e with
    | .Call (.Name x _) es [] _ => x == f && gloB c x && c.fns.contains x && es.all nst && chkAs c as es
    | _ => false
  | c, .ix a b, e => match e with
    | .Subscript l r _ => nsl r && chkE c a l && chkE c b r
    | _ => false
  | c, .slc lo hi a as, e => match e with
    | .Subscript l (.Slice x y none _) _ => lo == x.isSome && hi == y.isSome && chkE c a l && chkAs c as (x.toList ++ y.toList)
    | _ => false
  | c, .tup as, e => match e with
    | .Tuple es _ _ => chkIs c as es
    | _ => false
  | c, .lst _ as, e => match e with
    | .List es _ => chkIs c as es
    | _ => false
  | _, .edic, e => match e with
    | .Dict [] [] _ => true
    | _ => false
  | c, .frz a, e => match e with
    | .Call f es ks p => chkE c a (.Call f es ks p)
    | _ => false
  | _, .edicS, e => match e with
    | .Dict [] [] _ => true
    | _ => false
  | c, .callB1 f a i, e => match e with
    | .Call (.Name x _) [e1, .Name y _] [] _ => x == f && gloB c x && c.fns.contains x && nst e1 && slotB c i y && chkE c a e1
    | _ => false
  | c, .callB2 f a b i, e => match e with
    | .Call (.Name x _) [e1, e2, .Name y _] [] _ => x == f && gloB c x && c.fns.contains x && nst e1 && nst e2 && slotB c i y && chkE c a e1 && chkE c b e2
    | _ => false
  | c, .comp own tg sk as cs w, e => match e with
    | .ListComp elt [⟨t, it, ifs, z⟩] scope _ => z == 0 && blkC c.N c.sc scope own && tgB (c.blk scope) tg t && tgIn tg (own.map (·.2)) && nset it && cs.length ≤ 1 && (match srcE c t sk it with
      | some es => chkAs c as es
      | none => false) && chkTs (c.blk scope) cs ifs && chkE (c.blk scope) w elt
    | _ => false
  | c, .popv i, e => match e with
    | .Call (.Attribute (.Name x _) m ap) [] [] p => slotB c i x && m == ("pop" : Str) && ap.endLine == p.line
    | _ => false
  | c, .isB neg b a, e => match e with
    | .Compare l [o] [r] _ => decide (o = if neg then .IsNot else .Is) && kdB (.bool b) r && nset r && chkE c a l
    | _ => false
  | c, .dget w k d, e => match e with
    | .Call (.Attribute y m ap) [e1, e2] [] p => m == ("get" : Str) && ap.endLine == p.line && isNm y && nst e1 && nst e2 && chkE c w y && chkE c k e1 && chkE c d e2
    | _ => false
  | c, .trng a, e => match e with
    | .Call (.Name x _) [.Call (.Name y _) [l] [] _] [] _ => x == ("tuple" : Str) && y == ("range" : Str) && bltB c x && bltB c y && nst l && chkE c a l
    | _ => false
  | c, .ddis k w, e => match e with
    | .Dict [some a] [b] _ => chkE c k a && chkE c w b
    | _ => false
  | c, .ddis2 k w k2 w2, e => match e with
    | .Dict [some a, some a2] [b, b2] _ => chkE c k a && chkE c w b && chkE c k2 a2 && chkE c w2 b2
    | _ => false
  | c, .litems a, e => match e with
    | .Call (.Name x _) [.Call (.Attribute l m ap) [] [] cp] [] _ => x == ("list" : Str) && bltB c x && m == ("items" : Str) && ap.endLine == cp.line && isNm l && chkE c a l
    | _ => false
  | c, .dctB a, e => match e with
    | .Call (.Name x _) [l] [] _ => x == ("dict" : Str) && bltB c x && nst l && chkE c a l
    | _ => false
  | c, .srtS a, e => match e with
    | .Call (.Name x _) [l] [] _ => x == ("sorted" : Str) && bltB c x && nst l && chkE c a l
    | _ => false
  | c, .lidx a w, e => match e with
    | .Call (.Attribute y m ap) [e1] [] p => m == ("index" : Str) && ap.endLine == p.line && isNm y && nst e1 && chkE c a y && chkE c w e1
    | _ => false
  | c, .lzip a b, e => match e with
    | .Call (.Name x _) [.Call (.Name y _) [e1, e2] [] _] [] _ => x == ("list" : Str) && y == ("zip" : Str) && bltB c x && bltB c y && nst e1 && nst e2 && chkE c a e1 && chkE c b e2
    | _ => false
  | c, .dcomp own tg sk as cs k w, e => match e with
    | .DictComp kx elt [⟨t, it, ifs, z⟩] scope _ => z == 0 && blkC c.N c.sc scope own && tgB (c.blk scope) tg t && tgIn tg (own.map (·.2)) && nset it && cs.length ≤ 1 && (match srcE c t sk it with
      | some es => chkAs c as es
      | none => false) && chkTs (c.blk scope) cs ifs && chkE (c.blk scope) k kx && chkE (c.blk scope) w elt
    | _ => false
  | c, .dcompS own tg sk as cs k w, e => match e with
    | .DictComp kx elt [⟨t, it, ifs, z⟩] scope _ => z == 0 && blkC c.N c.sc scope own && tgB (c.blk scope) tg t && tgIn tg (own.map (·.2)) && nset it && cs.length ≤ 1 && (match srcE c t sk it with
      | some es => chkAs c as es
      | none => false) && chkTs (c.blk scope) cs ifs && chkE (c.blk scope) k kx && chkE (c.blk scope) w elt
    | _ => false
  | c, .callL fs i as, e => match e with
    | .Call (.Subscript (.List ns _) r _) es [] _ => fnsB c fs ns && decide (fs.length ≤ 16) && nsl r && chkE c i r && es.all nst && !es.isEmpty && chkAs c as es
    | _ => false
  | c, .join sep a, e => match e with
    | .Call (.Attribute (.Constant (.str z) _ _) m ap) [l] [] p => z == sep && m == ("join" : Str) && ap.endLine == p.line && nst l && chkE c a l
    | _ => false
  | c, .comp2 own tg sk as cs own1 tg1 sk1 as1 cs1 w, e => match e with
    | .ListComp elt [⟨t, it, ifs, z⟩, ⟨t1, it1, ifs1, z1⟩] scope _ => z == 0 && z1 == 0 && blkC c.N c.sc scope own && tgB (c.blk scope) tg t && tgB (c.blk scope) tg1 t1 && tgIn tg (own.map (·.2)) && tgIn tg1 own1 && own1.all (own.map (·.2)).contains && nset it && nset it1 && cs.length ≤ 1 && cs1.length ≤ 1 && (match srcE c t sk it with
      | some es => chkAs c as es
      | none => false) && (match srcE (c.blk scope) t1 sk1 it1 with
      | some es => chkAs (c.blk scope) as1 es
      | none => false) && chkTs (c.blk scope) cs ifs && chkTs (c.blk scope) cs1 ifs1 && chkE (c.blk scope) w elt
    | _ => false
  | c, .rv all a, e => match e with
    | .Subscript l (.Slice none hi (some (.UnaryOp .USub (.Constant (.int 1) _ _) _)) _) _ => (if all then hi.isNone else isZero hi) && chkE c a l
    | _ => false
  | c, .mkE k a, e => match e with
    | .Call (.Name x _) [l] [] _ => x == k && gloB c x && errM.contains k && nst l && chkE c a l
    | _ => false
  | c, .mkI k as, e => match e with
    | .Call (.Name x _) (l :: es) [] _ => x == ikN k && gloB c x && (l :: es).all nst && chkAs c as (l :: es)
    | _ => false
  | c, .isx q a, e => match e with
    | .Call (.Name x _) [l, r] [] _ => x == ("isinstance" : Str) && bltB c x && nst l && chkE c a l && isxC c q r
    | _ => false
  | c, .fld f a, e => match e with
    | .Attribute l n _ => n == f && fldN.contains f && atB l && chkE c a l
    | _ => false
  | c, .catS a b, e => match e with
    | .BinOp l o r _ => decide (o = bopA .add) && chkE c a l && chkE c b r
    | _ => false
  | c, .fncS f a, e => match e with
    | .Call (.Name x _) [l] [] _ => bfNew f && x == bfN f && bltB c x && nst l && chkE c a l
    | _ => false
  | c, .compS own tg sk as cs w, e => match e with
    | .ListComp elt [⟨t, it, ifs, z⟩] scope _ => z == 0 && blkC c.N c.sc scope own && tgB (c.blk scope) tg t && tgIn tg (own.map (·.2)) && nset it && cs.length ≤ 1 && (match srcE c t sk it with
      | some es => chkAs c as es
      | none => false) && chkTs (c.blk scope) cs ifs && chkE (c.blk scope) w elt
    | _ => false
def chkT : Cfg → Te → Expr → Bool
  | c, .of w, e => (tstB e || isCmp e) && chkE c w e
  | c, .and ts, e => match e with
    | .BoolOp .And es _ => !ts.isEmpty && chkTs c ts es
    | _ => false
  | c, .or ts, e => match e with
    | .BoolOp .Or es _ => !ts.isEmpty && chkTs c ts es
    | _ => false
  | c, .not t, e => match e with
    | .UnaryOp .Not l _ => chkT c t l
    | _ => false
def chkIm : Cfg → Im → Expr → Bool
  | c, .one w, e => nst e && chkE c w e
  | c, .star w, e => match e with
    | .Starred x _ => chkE c w x
    | _ => false
def chkAs : Cfg → List Ex → List Expr → Bool
  | _, [], [] => true
  | c, w :: ws, e :: es => chkE c w e && chkAs c ws es
  | _, _, _ => false
def chkIs : Cfg → List Im → List Expr → Bool
  | _, [], [] => true
  | c, w :: ws, e :: es => chkIm c w e && chkIs c ws es
  | _, _, _ => false
def chkTs : Cfg → List Te → List Expr → Bool
  | _, [], [] => true
  | c, w :: ws, e :: es => chkT c w e && chkTs c ws es
  | _, _, _ => false
end
/-! ### the context -/
/-- the body of TooMany's __init__ -/
def initB : List Stmt → Bool
  | [.Expr (.Call (.Attribute (.Name a _) b ap) [.Name s1 _, .JoinedStr [.Constant (.str m) _ _, .FormattedValue (.Name l1 _) (-1) none _] _] [] cp) _, .Assign [.Attribute (.Name s2 _) f _] (.Name l2 _) _] =>
    a == ("ShownError" : Str) && b == ("__init__" : Str) && s1 == ("self" : Str) && l1 == ("limit" : Str) && decide (m.length ≤ 1000) && s2 == ("self" : Str) && f == ("limit" : Str) && l2 == ("limit" : Str) && ap.endLine == cp.line
  | _ => false
def ikP : Ik → List Str
  | .lim => ["self", "limit"]
  | .syn => ["self", "line", "column"]
  | .rul => ["self", "paper"]
def ikQ : Ik → Str
  | .lim => "TooMany.__init__"
  | .syn => "SyntaxProblem.__init__"
  | .rul => "NoRule.__init__"
def initS : List Stmt → Bool
  | [.Expr (.Call (.Attribute (.Name a _) b ap) [.Name s1 _, .JoinedStr [.Constant (.str m) _ _, .FormattedValue (.Name l1 _) (-1) none _, .Constant (.str m2) _ _, .FormattedValue (.Name l2 _) (-1) none _] _] [] cp) _, .Assign [.Attribute (.Name s2 _) f _] (.Name l3 _) _, .Assign [.Attribute (.Name s3 _) f2 _] (.Name l4 _) _] =>
    a == ("ShownError" : Str) && b == ("__init__" : Str) && s1 == ("self" : Str) && l1 == ("line" : Str) && l2 == ("column" : Str) && decide (m.length ≤ 1000) && decide (m2.length ≤ 1000) && s2 == ("self" : Str) && f == ("line" : Str) && l3 == ("line" : Str) && s3 == ("self" : Str) && f2 == ("column" : Str) && l4 == ("column" : Str) && ap.endLine == cp.line
  | _ => false
def initR : List Stmt → Bool
  | [.Expr (.Call (.Attribute (.Name a _) b ap) [.Name s1 _, .Constant (.str _) _ _] [] cp) _, .Assign [.Attribute (.Name s2 _) f _] (.Name l2 _) _] =>
    a == ("ShownError" : Str) && b == ("__init__" : Str) && s1 == ("self" : Str) && s2 == ("self" : Str) && f == ("paper" : Str) && l2 == ("paper" : Str) && ap.endLine == cp.line
  | _ => false
def ikB : Ik → List Stmt → Bool
  | .lim => initB
  | .syn => initS
  | .rul => initR
/-- what is known of an own __init__ -/
def IniAt (K : PySem.W.Frag) (k : Ik) : Prop := ∃ (fI : Addr) (fd : FuncData) (params : Arguments) (body : List Stmt) (scope : Scope), PySem.W.findIn K (.ref (He.ga K (ikN k))) "__init__" = some (some (.ref fI)) ∧ PySem.W.typeIn K (.ref fI) = some (.type "function") ∧
  FunD K "__init__" (ikQ k) params body scope [] [] fI fd ∧ Binds K fd (ikP k) [] ∧ FnScope (ikP k) (ikP k) scope ∧ scope.names.lookup ("ShownError" : Str) = some .globalImplicit ∧ ikB k body = true
/-- what is known of the classes of errors that are held as values -/
structure ErrOk (K : PySem.W.Frag) (mg : Str → Option Value) : Prop where
  glo : ∀ c, errN.contains c = true → mg c = some (.ref (He.ga K c))
  exc : ∀ c, errN.contains c = true → ExcC K (He.ga K c)
  mka : ∀ c, errM.contains c = true → PySem.W.excIn K (He.ga K c) He.veBase "ValueError.__new__" = true ∧ PySem.W.keepIn K (.ref (He.ga K c)) = true
  one : ∀ c d, errN.contains c = true → errN.contains d = true → PySem.W.kitOne K (.ref (He.ga K c)) (.ref (He.ga K d)) = some (isxB (.own d) c)
  val : ∀ c, errN.contains c = true → PySem.W.kitOne K (.ref (He.ga K c)) (.type "ValueError") = some true
  oth : ∀ c, errN.contains c = true → PySem.W.kitAny K (.ref (He.ga K c)) [.type "KeyError", .type "IndexError", .type "TypeError"] = some false
  fld : ∀ c f, errN.contains c = true → fldN.contains f = true → PySem.W.findIn K (.ref (He.ga K c)) f = some none
  oex : ∀ k, OexC K (He.ga K (ikN k))
  sho : PySem.W.specialIn K (.ref (He.ga K "ShownError")) "__getattribute__" = some (some (.builtin "type.__getattribute__")) ∧ PySem.W.readsIn K (He.ga K "ShownError") (.type "type") = true ∧
    PySem.W.findCls K (.ref (He.ga K "ShownError")) (.type "type") "__init__" = some (.val (.builtin "ValueError.__init__"))
  ini : ∀ k, IniAt K k
/-- what is known of TooMany -/
structure LimOk (K : PySem.W.Frag) (mg : Str → Option Value) (xr : XR) : Prop where
  ex : ∃ (C Sh fI : Addr) (fd : FuncData) (params : Arguments) (body : List Stmt) (scope : Scope), mg "TooMany" = some (.ref C) ∧ mg "ShownError" = some (.ref Sh) ∧ OexC K C ∧ XfC K C ∧
    PySem.W.findIn K (.ref C) "__init__" = some (some (.ref fI)) ∧ PySem.W.typeIn K (.ref fI) = some (.type "function") ∧ PySem.W.findIn K (.ref C) "limit" = some none ∧
    PySem.W.specialIn K (.ref Sh) "__getattribute__" = some (some (.builtin "type.__getattribute__")) ∧ PySem.W.readsIn K Sh (.type "type") = true ∧
    PySem.W.findCls K (.ref Sh) (.type "type") "__init__" = some (.val (.builtin "ValueError.__init__")) ∧
    FunD K "__init__" "TooMany.__init__" params body scope [] [] fI fd ∧ Binds K fd ["self", "limit"] [] ∧ FnScope ["self", "limit"] ["self", "limit"] scope ∧ scope.names.lookup ("ShownError" : Str) = some .globalImplicit ∧ initB body = true
  xinL : ∀ (C : Addr) (k : Int) (d : Addr) (H : Hp), mg "TooMany" = some (.ref C) → H d = some (.xd [(("limit" : Str), V.int k)]) → xr ⟨"TooMany", [(("limit" : Str), .int k)]⟩ (.ref C) (some d) H
  xoutL : ∀ (x : Exc) (cls : Value) (od : Option Addr) (H : Hp), xr x cls od H → ∀ (f : Str) (v : PyData), x.fs.lookup f = some v → ∃ (d : Addr) (fs : List (Str × V)) (u : V), od = some d ∧ H d = some (.xd fs) ∧ fs.lookup f = some u ∧ Rep K H v u
/-- what is known of the classes of errors -/
structure ExsOk (exs rai : List Str) (K : PySem.W.Frag) (mg : Str → Option Value) (xr : XR) : Prop where
  glo : ∀ x, exs.contains x = true → ∃ C, mg x = some (.ref C)
  cls : ∀ x, rai.contains x = true → ∃ C, mg x = some (.ref C) ∧ PySem.W.excIn K C He.veBase "ValueError.__new__" = true ∧ PySem.W.keepIn K (.ref C) = true ∧ PySem.W.subIn K (.ref C) (.type "BaseException") = some true ∧ PySem.W.typeIn K (.ref C) = some (.type "type")
  exm : ∀ x y C C', exs.contains x = true → exs.contains y = true → mg x = some (.ref C) → mg y = some (.ref C') → PySem.W.exmOne K (.ref C) (.ref C') = some (decide (x = y))
  xin : ∀ x C H, exs.contains x = true → mg x = some (.ref C) → xr ⟨x, []⟩ (.ref C) none H
  xout : ∀ (x : Exc) cls od H, xr x cls od H → ∃ C, mg x.cls = some (.ref C) ∧ cls = .ref C ∧ exs.contains x.cls = true
  lim : exs.contains "TooMany" = true → LimOk K mg xr
structure CxOk (c : Cfg) (Φ : Phi) (n : Nat) (xr : XR) (X : Cx) (W : WX) : Prop where
  N : X.N = c.N
  nd : c.N.Nodup
  sc : X.env.scope = c.sc
  fn : ∀ x, c.fn x = true → X.fn x = true
  calm : X.calm = true
  room : Room (n + 2) X.A
  gd : X.A.guards = some []
  tk : Takes X W
  sys : ∃ o, X.K.lookup sysModules = some o
  blt : ∀ x, c.bl.contains x = true → X.mg x = none
  cst : ∀ p ∈ c.cst, ∃ u v, X.mg p.1 = some u ∧ RelV v u ∧ ∀ H, Rep X.K H p.2 v
  fns : ∀ x, c.fns.contains x = true → ∃ f fd ps, FnAt X xr n x (Φ x) f fd ps
  exs : ExsOk c.exs c.rai X.K X.mg xr
  err : ErrOk X.K X.mg
section
variable {c : Cfg} {Φ : Phi} {n : Nat} {xr : XR} {X : Cx} {W : WX}
theorem CxOk.vis (o : CxOk c Φ n xr X W) {i : Nat} {x : Str} (h : slotB c i x = true) : X.N[i]? = some x ∧ Vis X.env.scope x ∧ (x == ("__debug__" : Str)) = false ∧ (x == ("__classdict__" : Str)) = false := by
  unfold slotB noS at h
  simp only [Bool.and_eq_true, decide_eq_true_eq, Bool.not_eq_true'] at h
  obtain ⟨⟨h1, h2⟩, ⟨h3, h4⟩, _⟩ := h
  refine ⟨by rw [o.N]; exact h1, ?_, h3, h4⟩
  unfold visB at h2
  rw [o.sc]
  unfold Vis
  split at h2 <;> first | (rename_i q; rw [q]; simp; done) | cases h2
theorem CxOk.glo (o : CxOk c Φ n xr X W) {x : Str} (h : gloB c x = true) : Gl X x ∧ (x == ("__debug__" : Str)) = false ∧ x ≠ "__name__" := by
  unfold gloB noS at h
  simp only [Bool.and_eq_true, decide_eq_true_eq, Bool.not_eq_true'] at h
  obtain ⟨h1, ⟨h3, _⟩, h5⟩ := h
  refine ⟨?_, h3, fun z => ?_⟩
  · show X.env.scope.names.lookup x = _
    rw [o.sc]; exact h1
  · rw [z] at h5
    simp at h5
theorem CxOk.bltn (o : CxOk c Φ n xr X W) {x : Str} (h : bltB c x = true) : Gl X x ∧ X.mg x = none ∧ (x == ("__debug__" : Str)) = false ∧ x ≠ "__name__" := by
  unfold bltB at h
  rw [Bool.and_eq_true] at h
  obtain ⟨g, d, e⟩ := o.glo h.1
  exact ⟨g, o.blt x h.2, d, e⟩
end
/-! ### expressions, one by one -/
theorem peI {X : Cx} {e : Expr} {t t' : TE} (h : PE X e t) (i : ∀ σ H Q, t' σ H Q → t σ H Q) : PE X e t' := ⟨fun pins s σ H Q I w => h.run pins s σ H Q I (i σ H Q w)⟩
theorem ptI {X : Cx} {e : Expr} {t t' : TT} (h : PT X e t) (i : ∀ σ H Q, t' σ H Q → t σ H Q) : PT X e t' := ⟨fun pins s σ H Q I w => h.run pins s σ H Q I (i σ H Q w)⟩
theorem paI {X : Cx} {e : List Expr} {t t' : TA} (h : PA X e t) (i : ∀ σ H Q, t' σ H Q → t σ H Q) : PA X e t' := ⟨fun pos pins s σ H Q I w => h.run pos pins s σ H Q I (i σ H Q w)⟩
theorem pwI {X : Cx} {e : Expr} {t t' : TT} (h : PW X e t) (i : ∀ σ H Q, t' σ H Q → t σ H Q) : PW X e t' := ⟨fun wh pins s σ H Q I w => h.run wh pins s σ H Q I (i σ H Q w)⟩
section
variable (Φ : Phi) (xr : XR) (W : WX) (K : PySem.W.Frag)
abbrev rE (w : Ex) : TE := rdg K xr W (RpV K) fun E => wpE Φ E w
abbrev rX (w : Ex) : TE := rdg K xr W (RpA K) fun E => wpX w (wpE Φ E w)
abbrev rT (w : Te) : TT := rdg K xr W RpB fun E => wpT Φ E w
abbrev rTA (ws : List Te) : TT := rdg K xr W RpB fun E => wpTAnd Φ E ws
abbrev rTO (ws : List Te) : TT := rdg K xr W RpB fun E => wpTOr Φ E ws
abbrev rAs (ws : List Ex) : TA := rdg K xr W (RpVs K) fun E => wpAs Φ E ws
abbrev rIs (ws : List Im) : TA := rdg K xr W (RpDs K) fun E => wpIs Φ E ws
abbrev rAnd (ws : List Ex) : TE := rdg K xr W (RpV K) fun E => wpAnd Φ E ws
abbrev rOr (ws : List Ex) : TE := rdg K xr W (RpV K) fun E => wpOr Φ E ws
end
section
variable {c : Cfg} {Φ : Phi} {n : Nat} {xr : XR} {X : Cx} {W : WX} {e l r : Expr} {a b d : Ex} {pos : Pos}
theorem snd_kd {k : PyData} (h : kdB k e = true) : PE X e (rE Φ xr W X.K (.kd k)) := by
  have fin : ∀ {v : V}, (∀ H, Rep X.K H k v) → ∀ σ H Q, rE Φ xr W X.K (.kd k) σ H Q → tC v σ H Q := fun hv σ H Q ⟨G, ρ, S, E, P, R, w, post, ex⟩ => post _ _ _ _ _ w R (hv H) (Le.refl H)
  unfold kdB at h
  split at h
  · exact peI pe_non (fin fun _ => rfl)
  · obtain rfl := eq_of_beq h
    exact peI pe_bl (fin fun _ => rfl)
  · obtain rfl := of_decide_eq_true h
    exact peI pe_int (fin fun _ => rfl)
  · obtain rfl := of_decide_eq_true h
    exact peI pe_str (fin fun _ => rfl)
  · rename_i i j _ _ _
    obtain rfl := of_decide_eq_true h
    exact peI (pe_un un_neg pe_int) fun σ H Q q => ⟨j, rfl, fin (v := .int (-j)) (fun _ => rfl) σ H Q q⟩
  · cases h
theorem snd_var (o : CxOk c Φ n xr X W) {i : Nat} {x : Str} (h : slotB c i x = true) : PE X (.Name x pos) (rE Φ xr W X.K (.var i)) := by
  obtain ⟨hN, hv, hd, hcd⟩ := o.vis h
  have pv : PE X (.Name x pos) (tVar i) := pe_var hN hv hd hcd
  refine ⟨fun pins s σ H Q I hw => ?_⟩
  obtain ⟨G, ρ, S, E, P, R, w, post, ex⟩ := hw
  have w : rdVar ρ S i P := w
  unfold rdVar at w
  cases q : ρ[i]? with
  | none => rw [q] at w; exact w.elim
  | some lo =>
    cases lo with
    | none => rw [q] at w; exact w.elim
    | some l =>
      rw [q] at w
      cases l with
      | v p =>
        obtain ⟨v, e1, rv⟩ := R.val i p q
        exact pv.run pins s σ H Q I ⟨v, e1, post _ _ _ _ _ w R rv (Le.refl H)⟩
      | ol xs =>
        obtain ⟨a, e1, ⟨vs, ha, rr⟩, _⟩ := R.own i _ q (fun _ z => nomatch z)
        refine thn (pv.run pins s σ H (Fz Q) I ⟨.ref a, e1, a, _, rfl, ha, trivial, fun ob => ?_⟩) fun w' s' q => ep_fz q
        have le : Le H (upd H a (.frz ob (.lst vs))) := Le.mut ha trivial
        have rp : Rep X.K (upd H a (.frz ob (.lst vs))) (.list xs) (.ref a) := ⟨a, vs, rfl, ⟨ob, upd_same⟩, Reps.le le _ rr⟩
        exact post _ _ _ _ _ w (R.freeze q (fun _ z => nomatch z) e1 ha trivial rp) rp le
      | od kvs =>
        obtain ⟨a, e1, ⟨ks, ha, rr⟩, _⟩ := R.own i _ q (fun _ z => nomatch z)
        refine thn (pv.run pins s σ H (Fz Q) I ⟨.ref a, e1, a, _, rfl, ha, trivial, fun ob => ?_⟩) fun w' s' q => ep_fz q
        have le : Le H (upd H a (.frz ob (.dK ks))) := Le.mut ha trivial
        have rp : Rep X.K (upd H a (.frz ob (.dK ks))) (.dict kvs) (.ref a) := .inl ⟨a, ks, rfl, ⟨ob, upd_same⟩, RepK.le le _ rr⟩
        exact post _ _ _ _ _ w (R.freeze q (fun _ z => nomatch z) e1 ha trivial rp) rp le
theorem snd_late (o : CxOk c Φ n xr X W) {i : Nat} {x : Str} (h : slotB c i x = true) : PE X (.Name x pos) (rX Φ xr W X.K (.var i)) := by
  obtain ⟨hN, hv, hd, hcd⟩ := o.vis h
  refine peI (pe_var hN hv hd hcd) fun σ H Q ⟨G, ρ, S, E, P, R, ⟨⟨lo, w1⟩, w⟩, post, ex⟩ => ?_
  have w1 : ρ[i]? = some (some lo) := w1
  have : ∃ v, σ[i]? = some (some v) := by
    cases lo with
    | v p => obtain ⟨v, e1, _⟩ := R.val i p w1; exact ⟨v, e1⟩
    | ol xs => obtain ⟨a, e1, _⟩ := R.own i _ w1 (fun _ z => nomatch z); exact ⟨_, e1⟩
    | od xs => obtain ⟨a, e1, _⟩ := R.own i _ w1 (fun _ z => nomatch z); exact ⟨_, e1⟩
  obtain ⟨v, e1⟩ := this
  exact ⟨v, e1, post _ _ _ _ _ w R e1 (Le.refl H)⟩
theorem sndX (o : CxOk c Φ n xr X W) (h : chkE c a e = true) (p : PE X e (rE Φ xr W X.K a)) : PE X e (rX Φ xr W X.K a) := by
  cases a
  case var i =>
    unfold chkE at h
    split at h
    · exact snd_late o h
    · cases h
  all_goals exact peI p fun σ H Q ⟨G, ρ, S, E, P, R, w, post, ex⟩ => ⟨G, ρ, S, E, fun v ρ' S' => P (.now v) ρ' S', R, w, fun v ρ' S' u H' pv R' rv le => post (.now v) _ _ _ _ pv R' (show RepV X.K H' v u from rv) le, ex⟩
theorem snd_gl (o : CxOk c Φ n xr X W) {x : Str} {k : PyData} (h : gloB c x = true) (hc : (c.cst.any fun p => decide (p.1 = x) && eqS p.2 k) = true) : PE X (.Name x pos) (rE Φ xr W X.K (.gl x k)) := by
  obtain ⟨g, dd, _⟩ := o.glo h
  obtain ⟨p, hp, q⟩ := List.any_eq_true.mp hc
  rw [Bool.and_eq_true] at q
  obtain rfl := of_decide_eq_true q.1
  obtain rfl := eqS_eq q.2
  obtain ⟨u, v, hm, r, rp⟩ := o.cst p hp
  exact peI (pe_glob g hm r dd) fun σ H Q ⟨G, ρ, S, E, P, R, w, post, ex⟩ => post _ _ _ _ _ w R (rp H) (Le.refl H)
/-- two operands and an operation -/
theorem snd_op2 {op : Value → Value → Sem Value} {rel : R2} {Z : PyData → PyData → (PyData → Prop) → Prop} (hz : ∀ {d e : PyData} {Q Q' : PyData → Prop}, (∀ r, Q r → Q' r) → Z d e Q → Z d e Q') {K : PySem.W.Frag}
    (hr : ∀ x y H Q, (∃ d e, Cur K H d x ∧ Cur K H e y ∧ Z d e (Giv K H Q)) → rel x y H Q) {σ : L2.St} {H : Hp} {Q : VK}
    (h : rdg K xr W (RpV K) (fun E ρ S P => wpX a (wpE Φ E a) ρ S fun x ρ1 S1 => wpX b (wpE Φ E b) ρ1 S1 fun y ρ2 S2 => con ρ2 S2 x fun d => con ρ2 S2 y fun e => Z d e fun r => P (.d r) ρ2 S2) σ H Q) :
    tOp rel (rX Φ xr W K a) (rX Φ xr W K b) σ H Q := by
  obtain ⟨G, ρ, S, E, P, R, w, post, ex⟩ := h
  refine ⟨G, ρ, S, E, _, R, w, fun x ρ1 S1 u H1 p1 R1 r1 l1 => ⟨G, ρ1, S1, E, _, R1, p1, fun y ρ2 S2 v H2 p2 R2 r2 l2 => ?_, ex.le l1⟩, ex⟩
  obtain ⟨d, cd, p3⟩ := con_sound R2 p2 (RpA.le r1 l2)
  obtain ⟨e, ce, p4⟩ := con_sound R2 p3 r2
  exact hr _ _ _ _ ⟨d, e, cd, ce, hz (fun r q v' H' sm rp => post (.d r) _ _ _ _ q (R2.ext sm) rp ((l1.trans l2).trans (Le.of_same sm))) p4⟩
theorem snd_bin {op : Bop} (ha : PE X l (rX Φ xr W X.K a)) (hb : PE X r (rX Φ xr W X.K b)) : PE X (.BinOp l (bopA op) r pos) (rE Φ xr W X.K (.bin op a b)) :=
  peI (pe_op (opBin op) ha hb) fun σ H Q h => snd_op2 (op := fun _ _ => pure .none) (Z := binP op) (fun i h => binP_mono i h) (fun _ _ _ _ z => z) h
theorem catP_mono {d e : PyData} {Q Q' : List PyData → Prop} (i : ∀ r, Q r → Q' r) (h : catP d e Q) : catP d e Q' := by
  obtain ⟨ms, ns, rfl, rfl, h1, h2⟩ := catP_of h
  exact ⟨h1, i _ h2⟩
theorem snd_catS (ha : PE X l (rX Φ xr W X.K a)) (hb : PE X r (rX Φ xr W X.K b)) : PE X (.BinOp l (bopA .add) r pos) (rE Φ xr W X.K (.catS a b)) :=
  peI (pe_op opCatS ha hb) fun σ H Q ⟨G, ρ, S, E, P, R, w, post, ex⟩ => by
    have w' : wpX a (wpE Φ E a) ρ S fun x ρ1 S1 => wpX b (wpE Φ E b) ρ1 S1 fun y ρ2 S2 => con ρ2 S2 x fun d => con ρ2 S2 y fun e => catP d e fun xs => ∀ a, S2 a = none → P (.r a) ρ2 (sput S2 a (.lst xs)) := w
    refine ⟨G, ρ, S, E, _, R, w', fun x ρ1 S1 u H1 p1 R1 r1 l1 => ⟨G, ρ1, S1, E, _, R1, p1, fun y ρ2 S2 v H2 p2 R2 r2 l2 => ?_, ex.le l1⟩, ex⟩
    obtain ⟨d, cd, p3⟩ := con_sound R2 p2 (RpA.le r1 l2)
    obtain ⟨e, ce, p4⟩ := con_sound R2 p3 r2
    refine ⟨d, e, cd, ce, catP_mono (fun ys z p vs hp rr => ?_) p4⟩
    have le : Le H2 (upd H2 p (.lst vs)) := Le.new hp
    exact post (.r p) _ _ (.ref p) _ (z p (R2.free hp).1) (R2.storeNew hp ⟨vs, upd_same, Reps.le le _ rr⟩) rfl ((l1.trans l2).trans le)
def cmpZ (o : Cop) (d e : PyData) (Q : PyData → Prop) : Prop := cmpP o d e fun b => Q (.bool b)
theorem nosetm {r : Expr} {o : CmpOp} (h : nset r = true) : behindInMarks o r = false := by cases r <;> first | rfl | cases h
theorem nosetl {r r' : Expr} {o o' : CmpOp} (h : nset r' = true) : lastMarks [o, o'] [r, r'] = false := nosetm h
theorem snd_cmp (o : CxOk c Φ n xr X W) {op : Cop} (hn : nset r = true) (ha : PE X l (rX Φ xr W X.K a)) (hb : PE X r (rX Φ xr W X.K b)) : PE X (.Compare l [copA op] [r] pos) (rE Φ xr W X.K (.cmp op a b)) :=
  peI (pe_cmpR (opCmp o.room.units op) ha hb (nosetm hn)) fun σ H Q h => snd_op2 (op := fun _ _ => pure .none) (Z := cmpZ op) (fun i h => cmpP_mono (fun b q => i _ q) h) (fun _ _ _ _ z => z) h
theorem snd_cmpT (o : CxOk c Φ n xr X W) {op : Cop} (hn : nset r = true) (ha : PE X l (rX Φ xr W X.K a)) (hb : PE X r (rX Φ xr W X.K b)) : PT X (.Compare l [copA op] [r] pos) (rT Φ xr W X.K (.of (.cmp op a b))) := by
  refine ptI (pt_cmpR (opCmp o.room.units op) ha hb (nosetm hn)) fun σ H Q ⟨G, ρ, S, E, P, R, w, post, ex⟩ => ?_
  have w' : wpX a (wpE Φ E a) ρ S fun x ρ1 S1 => wpX b (wpE Φ E b) ρ1 S1 fun y ρ2 S2 => con ρ2 S2 x fun d => con ρ2 S2 y fun e => cmpP op d e fun k => P k ρ2 S2 := w
  refine ⟨G, ρ, S, E, _, R, w', fun x ρ1 S1 u H1 p1 R1 r1 l1 => ⟨G, ρ1, S1, E, _, R1, p1, fun y ρ2 S2 v H2 p2 R2 r2 l2 => ?_, ex.le l1⟩, ex⟩
  obtain ⟨d, cd, p3⟩ := con_sound R2 p2 (RpA.le r1 l2)
  obtain ⟨e, ce, p4⟩ := con_sound R2 p3 r2
  exact ⟨d, e, cd, ce, cmpP_mono (fun k q v' H' sm rp => ⟨k, rp, post _ _ _ _ _ q (R2.ext sm) rfl ((l1.trans l2).trans (Le.of_same sm))⟩) p4⟩
/-! ### chains -/
theorem chain_go {op op' : Cop} {K : PySem.W.Frag} {rel rel' : R2} (hr : ∀ x y H Q, (∃ d e, Cur K H d x ∧ Cur K H e y ∧ cmpZ op d e (Giv K H Q)) → rel x y H Q) (hr' : ∀ x y H Q, (∃ d e, Cur K H d x ∧ Cur K H e y ∧ cmpZ op' d e (Giv K H Q)) → rel' x y H Q)
    {σ : L2.St} {H : Hp} {Q : VK} {G : Gh} {ρ : VE} {S : Sto} {E : EK} {P : Bool → VE → Sto → Prop} (R : Rel K G ρ S σ H) (ex : ExF K xr W G E σ H)
    (w : wpX a (wpE Φ E a) ρ S fun x ρ1 S1 => wpX b (wpE Φ E b) ρ1 S1 fun y ρ2 S2 => con ρ2 S2 x fun d1 => con ρ2 S2 y fun e => cmpP op d1 e fun r =>
      if r = true then wpX d (wpE Φ E d) ρ2 S2 fun z ρ3 S3 => con ρ3 S3 y fun e => con ρ3 S3 z fun f => cmpP op' e f fun r' => P r' ρ3 S3 else P false ρ2 S2)
    (post : ∀ k ρ' S' H', P k ρ' S' → Rel K G ρ' S' σ H' → Le H H' → Q (.bl k) H') : tChain rel rel' (rX Φ xr W K a) (rX Φ xr W K b) (rX Φ xr W K d) σ H Q := by
  refine ⟨G, ρ, S, E, _, R, w, fun x ρ1 S1 u H1 p1 R1 r1 l1 => ⟨G, ρ1, S1, E, _, R1, p1, fun y ρ2 S2 v H2 p2 R2 r2 l2 => ?_, ex.le l1⟩, ex⟩
  obtain ⟨d1, cd, p3⟩ := con_sound R2 p2 (RpA.le r1 l2)
  obtain ⟨e1, ce, p4⟩ := con_sound R2 p3 r2
  refine hr _ _ _ _ ⟨d1, e1, cd, ce, cmpP_mono (fun k q v' H3 sm rp => ⟨k, rp, ?_⟩) p4⟩
  have l3 : Le H H3 := (l1.trans l2).trans (Le.of_same sm)
  cases k with
  | false => exact post _ _ _ _ q (R2.ext sm) l3
  | true =>
    rw [if_pos rfl] at q
    refine ⟨G, ρ2, S2, E, _, R2.ext sm, q, fun z ρ3 S3 t H4 p5 R3 r3 l4 => ?_, ex.le l3⟩
    obtain ⟨d2, cd2, p6⟩ := con_sound R3 p5 (RpA.le r2 ((Le.of_same sm).trans l4))
    obtain ⟨e2, ce2, p7⟩ := con_sound R3 p6 r3
    refine hr' _ _ _ _ ⟨d2, e2, cd2, ce2, cmpP_mono (fun k q v'' H5 sm2 rp2 => ?_) p7⟩
    have e : v'' = .bl k := rp2
    subst e
    exact post _ _ _ _ q (R3.ext sm2) ((l3.trans l4).trans (Le.of_same sm2))
variable {r' : Expr}
theorem snd_chain (o : CxOk c Φ n xr X W) {op op' : Cop} (hn : nset r' = true) (ha : PE X l (rX Φ xr W X.K a)) (hb : PE X r (rX Φ xr W X.K b)) (hd : PE X r' (rX Φ xr W X.K d)) : PE X (.Compare l [copA op, copA op'] [r, r'] pos) (rE Φ xr W X.K (.chain op op' a b d)) :=
  peI (pe_chain (opCmp o.room.units op) (opCmp o.room.units op') ha hb hd (nosetl hn)) fun σ H Q ⟨G, ρ, S, E, P, R, w, post, ex⟩ =>
    chain_go (P := fun k => P (.d (.bool k))) (fun _ _ _ _ z => z) (fun _ _ _ _ z => z) R ex w fun k ρ' S' H' p R' l' => post (.d (.bool k)) _ _ (.bl k) _ p R' rfl l'
theorem snd_chainT (o : CxOk c Φ n xr X W) {op op' : Cop} (hn : nset r' = true) (ha : PE X l (rX Φ xr W X.K a)) (hb : PE X r (rX Φ xr W X.K b)) (hd : PE X r' (rX Φ xr W X.K d)) : PT X (.Compare l [copA op, copA op'] [r, r'] pos) (rT Φ xr W X.K (.of (.chain op op' a b d))) :=
  ptI (pt_chain (opCmp o.room.units op) (opCmp o.room.units op') ha hb hd (nosetl hn)) fun σ H Q ⟨G, ρ, S, E, P, R, w, post, ex⟩ =>
    chain_go (P := P) (fun _ _ _ _ z => z) (fun _ _ _ _ z => z) R ex w fun k ρ' S' H' p R' l' => ⟨k, rfl, post k _ _ _ _ p R' rfl l'⟩
/-! ### is None -/
def isNoneD : PyData → Bool
  | .none => true
  | _ => false
theorem rep_non {K : PySem.W.Frag} {H : Hp} {d : PyData} {u : V} (h : Rep K H d u) : decide (u = .non) = isNoneD d := by
  cases d with
  | none => cases (show u = .non from h); rfl
  | bool b => cases (show u = .bl b from h); rfl
  | int i => cases (show u = .int i from h); rfl
  | str i => cases (show u = .str i from h); rfl
  | list ds => obtain ⟨a, vs, rfl, _⟩ := h; rfl
  | tuple ds => obtain ⟨a, vs, rfl, _⟩ := h; rfl
  | dict ds => rcases h with ⟨a, vs, rfl, _⟩ | ⟨a, _, _, _, _, rfl, _⟩ | ⟨a, _, _, rfl, _⟩ <;> rfl
theorem isP_non {neg : Bool} {k : PyData} {Q : Bool → Prop} (h : isP neg .none k Q) : Q (if neg then !isNoneD k else isNoneD k) := by
  cases k <;> cases neg <;> exact h
theorem isK_non {K : PySem.W.Frag} {H : Hp} {neg : Bool} {v : PV} {u : V} {Q : Bool → Prop} (h : isK neg .none v Q) (r : RepV K H v u) : Q (if neg then !decide (u = .non) else decide (u = .non)) := by
  cases v with
  | d k =>
    have r : Rep K H k u := r
    rw [rep_non r]
    exact isP_non h
  | r a =>
    have r : u = .ref a := r
    subst r
    have h : Q neg := h
    cases neg <;> exact h
  | s ns =>
    obtain ⟨a, rfl, _⟩ := r
    have h : Q neg := h
    cases neg <;> exact h
theorem isk_go {neg : Bool} {K : PySem.W.Frag} {σ : L2.St} {H : Hp} {Q : VK} {G : Gh} {ρ : VE} {S : Sto} {E : EK} {P : Bool → VE → Sto → Prop} (R : Rel K G ρ S σ H) (ex : ExF K xr W G E σ H)
    (w : wpE Φ E a ρ S fun v ρ1 S1 => isK neg .none v fun b => P b ρ1 S1) (post : ∀ k ρ' S' H', P k ρ' S' → Rel K G ρ' S' σ H' → Le H H' → Q (.bl k) H') :
    rE Φ xr W K a σ H (fun x H1 => Q (.bl (if neg then !decide (x = .non) else decide (x = .non))) H1) :=
  ⟨G, ρ, S, E, _, R, w, fun v ρ' S' u H' p R' rv le => by
    exact post _ _ _ _ (isK_non p rv) R' le, ex⟩
/-- x is True, x is False -/
def rIsBl (neg : Bool) : R2 := fun x y H Q => ∃ a b : Bool, x = .bl a ∧ y = .bl b ∧ Q (.bl (if neg then !decide (a = b) else decide (a = b))) H
theorem opIsBl (neg : Bool) : OpR X (compareOp (if neg then .IsNot else .Is)) (rIsBl neg) := by
  intro pins s σ H x y v u Q I rx ry h
  obtain ⟨a, b, rfl, rfl, q⟩ := h
  cases neg with
  | false => exact op_isBl pins s σ H _ _ v u Q I rx ry ⟨a, b, rfl, rfl, q⟩
  | true => exact op_notBl pins s σ H _ _ v u Q I rx ry ⟨a, b, rfl, rfl, q⟩
theorem isBP_of {neg b : Bool} {v : PV} {Q : Bool → Prop} (h : isBP neg b v Q) : ∃ c : Bool, v = .d (.bool c) ∧ Q (if neg then !decide (c = b) else decide (c = b)) := by
  unfold isBP at h
  split at h
  · exact ⟨_, rfl, h⟩
  · exact h.elim
theorem snd_isB {neg b : Bool} {op : CmpOp} (ho : op = if neg then .IsNot else .Is) (hr : kdB (.bool b) r = true) (hn : nset r = true) (ha : PE X l (rE Φ xr W X.K a)) : PE X (.Compare l [op] [r] pos) (rE Φ xr W X.K (.isB neg b a)) := by
  subst ho
  refine peI (pe_cmpR (opIsBl neg) ha (snd_kd (Φ := Φ) (xr := xr) (W := W) hr) (nosetm hn)) fun σ H Q ⟨G, ρ, S, E, P, R, w, post, ex⟩ => ?_
  have w : wpE Φ E a ρ S fun v ρ1 S1 => isBP neg b v fun k => P (.d (.bool k)) ρ1 S1 := w
  refine ⟨G, ρ, S, E, _, R, w, fun v ρ1 S1 u H1 p R1 rv l1 => ?_, ex⟩
  obtain ⟨k, rfl, p⟩ := isBP_of p
  refine ⟨G, ρ1, S1, E, fun v ρ2 S2 => v = .d (.bool b) ∧ ρ2 = ρ1 ∧ S2 = S1, R1, ⟨rfl, rfl, rfl⟩, fun v2 ρ2 S2 u2 H2 p2 R2 rv2 l2 => ?_, ex.le l1⟩
  obtain ⟨rfl, rfl, rfl⟩ := p2
  exact ⟨k, b, rv, rv2, post _ _ _ (.bl _) _ p R2 rfl (l1.trans l2)⟩
theorem snd_isBT {neg b : Bool} {op : CmpOp} (ho : op = if neg then .IsNot else .Is) (hr : kdB (.bool b) r = true) (hn : nset r = true) (ha : PE X l (rE Φ xr W X.K a)) : PT X (.Compare l [op] [r] pos) (rT Φ xr W X.K (.of (.isB neg b a))) := by
  subst ho
  refine ptI (pt_cmpR (opIsBl neg) ha (snd_kd (Φ := Φ) (xr := xr) (W := W) hr) (nosetm hn)) fun σ H Q ⟨G, ρ, S, E, P, R, w, post, ex⟩ => ?_
  have w : wpE Φ E a ρ S fun v ρ1 S1 => isBP neg b v fun k => P k ρ1 S1 := w
  refine ⟨G, ρ, S, E, _, R, w, fun v ρ1 S1 u H1 p R1 rv l1 => ?_, ex⟩
  obtain ⟨k, rfl, p⟩ := isBP_of p
  refine ⟨G, ρ1, S1, E, fun v ρ2 S2 => v = .d (.bool b) ∧ ρ2 = ρ1 ∧ S2 = S1, R1, ⟨rfl, rfl, rfl⟩, fun v2 ρ2 S2 u2 H2 p2 R2 rv2 l2 => ?_, ex.le l1⟩
  obtain ⟨rfl, rfl, rfl⟩ := p2
  exact ⟨k, b, rv, rv2, _, rfl, post _ _ _ _ _ p R2 rfl (l1.trans l2)⟩
theorem snd_isk {neg : Bool} {k : PyData} {op : CmpOp} (ho : op = if neg then .IsNot else .Is) (hk : eqS k .none = true) (hr : kdB k r = true) (ha : PE X l (rE Φ xr W X.K a)) : PE X (.Compare l [op] [r] pos) (rE Φ xr W X.K (.isk neg k a)) := by
  obtain rfl := eqS_eq hk
  unfold kdB at hr
  split at hr <;> first | (rename_i z _; cases z; done) | (rename_i z; cases z; done) | skip
  all_goals try (exact absurd hr Bool.false_ne_true)
  cases neg with
  | false =>
    rw [if_neg Bool.false_ne_true] at ho
    subst ho
    exact peI (pe_cmp (pc_isN ha)) fun σ H Q ⟨G, ρ, S, E, P, R, w, post, ex⟩ => isk_go (neg := false) (P := fun k => P (.d (.bool k))) R ex w fun k ρ' S' H' p R' l' => post (.d (.bool k)) _ _ (.bl k) _ p R' rfl l'
  | true =>
    rw [if_pos rfl] at ho
    subst ho
    exact peI (pe_cmp (pc_notN ha)) fun σ H Q ⟨G, ρ, S, E, P, R, w, post, ex⟩ => isk_go (neg := true) (P := fun k => P (.d (.bool k))) R ex w fun k ρ' S' H' p R' l' => post (.d (.bool k)) _ _ (.bl k) _ p R' rfl l'
theorem snd_iskT {neg : Bool} {k : PyData} {op : CmpOp} (ho : op = if neg then .IsNot else .Is) (hk : eqS k .none = true) (hr : kdB k r = true) (ha : PE X l (rE Φ xr W X.K a)) : PT X (.Compare l [op] [r] pos) (rT Φ xr W X.K (.of (.isk neg k a))) := by
  obtain rfl := eqS_eq hk
  unfold kdB at hr
  split at hr <;> first | (rename_i z _; cases z; done) | (rename_i z; cases z; done) | skip
  all_goals try (exact absurd hr Bool.false_ne_true)
  cases neg with
  | false =>
    rw [if_neg Bool.false_ne_true] at ho
    subst ho
    exact ptI (pt_cmp (pc_isN ha)) fun σ H Q ⟨G, ρ, S, E, P, R, w, post, ex⟩ => isk_go (neg := false) (Q := fun x H1 => ∃ c, x = .bl c ∧ Q c H1) (P := P) R ex w fun k ρ' S' H' p R' l' => ⟨k, rfl, post k _ _ _ _ p R' rfl l'⟩
  | true =>
    rw [if_pos rfl] at ho
    subst ho
    exact ptI (pt_cmp (pc_notN ha)) fun σ H Q ⟨G, ρ, S, E, P, R, w, post, ex⟩ => isk_go (neg := true) (Q := fun x H1 => ∃ c, x = .bl c ∧ Q c H1) (P := P) R ex w fun k ρ' S' H' p R' l' => ⟨k, rfl, post k _ _ _ _ p R' rfl l'⟩
/-! ### calls of built-in functions -/
theorem star_cons {e : Expr} {es : List Expr} {env : Env} (h : nst e = true) : starEach (e :: es) env = (false, eval e env) :: starEach es env := by
  cases e <;> first | rfl | cases h
theorem star_plain {pos : Pos} {env : Env} : ∀ {es : List Expr}, es.all nst = true → (backTo pos (starEach es env)).any (·.1) = false
  | [], _ => rfl
  | e :: es, h => by
    rw [List.all_cons, Bool.and_eq_true] at h
    rw [star_cons h.1]
    show (false || (backTo pos (starEach es env)).any (·.1)) = false
    rw [star_plain h.2] <;> rfl
theorem boot_bf : ∀ f : Bf, bootBuiltins (bfN f) = some (bfV f) := by
  intro f
  cases f <;> decide +kernel
theorem boot_kind : ∀ T ∈ kinds, bootBuiltins (Str.ofString T) = some (.type T) := by decide +kernel
theorem boot_isi : bootBuiltins "isinstance" = some (.builtin "isinstance") := by decide +kernel
theorem pa_one (h : nst e = true) (ha : PE X e (rX Φ xr W X.K a)) : PA X [e] (tCons (rX Φ xr W X.K a) tNil) := pa_cons ha pa_nil (star_cons h)
theorem snd_inst (o : CxOk c Φ n xr X W) {T : String} {x t : Str} {p1 p2 : Pos} (hx : (x == ("isinstance" : Str)) = true) (ht : (t == Str.ofString T) = true) (bx : bltB c x = true) (bt : bltB c t = true) (hT : kinds.contains T = true) (hl : nst l = true) (ha : PE X l (rX Φ xr W X.K a)) :
    PE X (.Call (.Name x p1) [l, .Name t p2] [] pos) (rE Φ xr W X.K (.inst T a)) := by
  obtain rfl := eq_of_beq hx
  obtain rfl := eq_of_beq ht
  obtain ⟨g, hm, hd, hn⟩ := o.bltn bx
  obtain ⟨g', hm', hd', hn'⟩ := o.bltn bt
  have hT' : T ∈ kinds := List.contains_iff_mem.mp hT
  have pt : PE X (.Name (Str.ofString T) p2) (tC (.ty T)) := pe_bltn g' hm' (boot_kind T hT') rfl hn' hd'
  refine peI (pe_callB (opInst hT') g hm boot_isi (pa_cons ha (pa_cons pt pa_nil) (star_cons hl)) hn hd (star_cons hl) rfl) fun σ H Q ⟨G, ρ, S, E, P, R, w, post, ex⟩ => ⟨G, ρ, S, E, _, R, w, fun y ρ1 S1 u H1 p1 R1 r1 l1 => ?_, ex⟩
  obtain ⟨d, cd, p⟩ := con_sound R1 p1 r1
  exact ⟨u, d, rfl, cd, p.1, fun v H' sm rp => post (.d (.bool (instB T d))) _ _ v _ p.2 (R1.ext sm) rp (l1.trans (Le.of_same sm))⟩
theorem snd_fnc (o : CxOk c Φ n xr X W) {f : Bf} {x : Str} {p1 : Pos} (hx : (x == bfN f) = true) (bx : bltB c x = true) (hl : nst l = true) (ha : PE X l (rX Φ xr W X.K a)) : PE X (.Call (.Name x p1) [l] [] pos) (rE Φ xr W X.K (.fnc f a)) := by
  obtain rfl := eq_of_beq hx
  obtain ⟨g, hm, hd, hn⟩ := o.bltn bx
  have go : ∀ σ H Q, rE Φ xr W X.K (.fnc f a) σ H Q → tCB (fun xs H Q => ∃ x d, xs = [x] ∧ Cur X.K H d x ∧ bfP f d (Giv X.K H Q)) (tCons (rX Φ xr W X.K a) tNil) σ H Q := fun σ H Q ⟨G, ρ, S, E, P, R, w, post, ex⟩ => ⟨G, ρ, S, E, _, R, w, fun y ρ1 S1 u H1 p1 R1 r1 l1 => by
    obtain ⟨d, cd, p⟩ := con_sound R1 p1 r1
    exact ⟨u, d, rfl, cd, bfP_mono (fun r q v H' sm rp => post (.d r) _ _ v _ q (R1.ext sm) rp (l1.trans (Le.of_same sm))) p⟩, ex⟩
  have op := opFnc (X := X) o.sys o.gd o.room.units o.calm f
  have bt := boot_bf f
  have pa := pa_one (Φ := Φ) (xr := xr) (W := W) (a := a) hl ha
  cases f
  case list => exact peI (pe_callTy op g hm bt pa hn hd (star_cons hl) rfl) go
  case tuple => exact peI (pe_callTy op g hm bt pa hn hd (star_cons hl) rfl) go
  case int => exact peI (pe_callTy op g hm bt pa hn hd (star_cons hl) rfl) go
  case dict => exact peI (pe_callTy op g hm bt pa hn hd (star_cons hl) rfl) go
  case str => exact peI (pe_callTy op g hm bt pa hn hd (star_cons hl) rfl) go
  all_goals exact peI (pe_callB op g hm bt pa hn hd (star_cons hl) rfl) go
end
end Lk
/-! D6: further expressions. -/
namespace Lk
open PySem PySem.Spec PyProof.Rows L2
section
variable {c : Cfg} {Φ : Phi} {n : Nat} {xr : XR} {X : Cx} {W : WX} {e l r : Expr} {es : List Expr} {a b d : Ex} {as : List Ex} {pos : Pos}
/-! ### and, or, not, if -/
theorem rep_bl {K : PySem.W.Frag} {H : Hp} {k : Bool} {u : V} (h : RepV K H (.d (.bool k)) u) : u = .bl k := h
theorem snd_and0 : PE X (.BoolOp .And es pos) (rAnd Φ xr W X.K []) := ⟨fun _ _ _ _ _ _ ⟨_, _, _, _, _, _, w, _⟩ => (show False from w).elim⟩
theorem snd_or0 : PE X (.BoolOp .Or es pos) (rOr Φ xr W X.K []) := ⟨fun _ _ _ _ _ _ ⟨_, _, _, _, _, _, w, _⟩ => (show False from w).elim⟩
theorem snd_and1 (h : PE X e (rE Φ xr W X.K a)) : PE X (.BoolOp .And [e] pos) (rAnd Φ xr W X.K [a]) := peI (pe_one h) fun σ H Q ⟨G, ρ, S, E, P, R, w, post, ex⟩ => ⟨G, ρ, S, E, P, R, w, post, ex⟩
theorem snd_or1 (h : PE X e (rE Φ xr W X.K a)) : PE X (.BoolOp .Or [e] pos) (rOr Φ xr W X.K [a]) := peI (pe_one h) fun σ H Q ⟨G, ρ, S, E, P, R, w, post, ex⟩ => ⟨G, ρ, S, E, P, R, w, post, ex⟩
theorem snd_and2 {e2 : Expr} (h : PE X e (rE Φ xr W X.K a)) (h2 : PE X (.BoolOp .And (e2 :: es) pos) (rAnd Φ xr W X.K (b :: as))) : PE X (.BoolOp .And (e :: e2 :: es) pos) (rAnd Φ xr W X.K (a :: b :: as)) :=
  peI (pe_and h h2) fun σ H Q ⟨G, ρ, S, E, P, R, w, post, ex⟩ => ⟨G, ρ, S, E, _, R, w, fun v ρ1 S1 u H1 p R1 rv l1 => by
    obtain ⟨k, rfl, p'⟩ := isB_of p
    clear p
    have p := p'
    clear p'
    refine ⟨k, rep_bl rv, ?_⟩
    cases k with
    | true =>
      rw [if_pos rfl] at p
      exact ⟨G, ρ1, S1, E, P, R1, p, fun v ρ' S' u H' q R' rv l2 => post v ρ' S' u H' q R' rv (l1.trans l2), ex.le l1⟩
    | false => exact post (.d (.bool false)) _ _ (.bl false) _ p R1 rfl l1, ex⟩
/-- a value's truth -/
theorem opTru : TruR X (fun x H Q => ∃ d, Cur X.K H d x ∧ truP d fun k => Q k H) := by
  intro pins s σ H x v Q I rx h
  obtain ⟨d, cd, h⟩ := h
  obtain ⟨k, z, q⟩ := truP_sound cd h
  rcases z with z | ⟨kvs, a, rfl, hr, e⟩
  · exact tru_ok pins s σ H x v Q I rx ⟨k, z, q⟩
  · cases rx
    subst e
    have hz : kvs.length ≤ sizeLine ∧ (a == sysModules) = false ∧ ∃ vs, KV kvs vs ∧ s.heap.DictOf (mixKind X.prog X.w) a vs := hr.ok I.hok
    obtain ⟨z1, z2, vs, rv, m⟩ := hz
    have e1 : kvs.length = vs.length := Paired.length rv
    have e2 := sizeLine_eq
    exact wpAny_truthy_dict z2 m (by omega) ⟨H, I.tok _, by rw [isEmpty_kv rv]; exact q⟩
theorem orW_of {v : PV} {A : PV → Prop} {R : Prop} (h : orW v A R) : ∃ d, v = .d d ∧ truP d fun k => if k = true then A (.d d) else R := by
  cases v with
  | s ns => exact (show False from h).elim
  | r b => exact (show False from h).elim
  | d k =>
    cases k <;> try exact (show False from h).elim
    · exact ⟨_, rfl, h⟩
    · rename_i b
      refine ⟨_, rfl, ?_⟩
      cases b
      · exact h
      · exact h
    · rename_i xs
      refine ⟨_, rfl, ?_⟩
      cases xs
      · exact h
      · exact h
    · rename_i kvs
      obtain ⟨hp, h⟩ := h
      refine ⟨_, rfl, hp, ?_⟩
      cases kvs
      · exact h
      · exact h
theorem snd_or2 {e2 : Expr} (h : PE X e (rE Φ xr W X.K a)) (h2 : PE X (.BoolOp .Or (e2 :: es) pos) (rOr Φ xr W X.K (b :: as))) : PE X (.BoolOp .Or (e :: e2 :: es) pos) (rOr Φ xr W X.K (a :: b :: as)) := by
  refine ⟨fun pins s σ H Q I ⟨G, ρ, S, E, P, R, w, post, ex⟩ => ?_⟩
  have w : wpE Φ E a ρ S fun v ρ1 S1 => orW v (fun w => P w ρ1 S1) (wpOr Φ E (b :: as) ρ1 S1 P) := w
  refine BoolOp_or (thn (h.run pins s σ H (fun x H1 => ∃ v ρ1 S1, Rel X.K G ρ1 S1 σ H1 ∧ RepV X.K H1 v x ∧ Le H H1 ∧ orW v (fun w => P w ρ1 S1) (wpOr Φ E (b :: as) ρ1 S1 P)) I ⟨G, ρ, S, E, _, R, w, fun v ρ1 S1 u H1 p R1 r1 l1 => ⟨v, ρ1, S1, R1, r1, l1, p⟩, ex⟩) fun u s1 ⟨x, H1, I1, rx, v, ρ1, S1, R1, rv, l1, p⟩ => ?_)
  obtain ⟨d, rfl, p2⟩ := orW_of p
  obtain ⟨d', cd, p'⟩ := con_sound (a := .now (.d d)) (Q := fun z => truP z fun k => if k = true then P (.d d) ρ1 S1 else wpOr Φ E (b :: as) ρ1 S1 P) R1 p2 rv
  have mono : ∀ {A B : Bool → Prop}, (∀ k, A k → B k) → truP d' A → truP d' B := fun i t => by
    cases d' <;> first | exact i _ t | exact ⟨t.1, i _ t.2⟩
  refine thn (opTru pins s1 σ H1 x u (fun k H2 => H2 = H1 ∧ (if k = true then P (.d d) ρ1 S1 else wpOr Φ E (b :: as) ρ1 S1 P)) I1 rx ⟨d', cd, mono (fun k q => ⟨rfl, q⟩) p'⟩) fun k s2 ⟨H2, I2, e, q⟩ => ?_
  subst e
  cases k with
  | true => exact ⟨x, H2, I2, rx, post (.d d) ρ1 S1 x H2 q R1 rv l1⟩
  | false => exact h2.run pins s2 σ H2 Q I2 ⟨G, ρ1, S1, E, P, R1, q, fun v ρ' S' u H' q R' rv l2 => post v ρ' S' u H' q R' rv (l1.trans l2), ex.le l1⟩
theorem snd_not (h : PE X l (rX Φ xr W X.K a)) : PE X (.UnaryOp .Not l pos) (rE Φ xr W X.K (.notE a)) := by
  refine ⟨fun pins s σ H Q I ⟨G, ρ, S, E, P, R, w, post, ex⟩ => ?_⟩
  refine UnaryOp_ (thn (h.run pins s σ H (fun x H1 => ∃ d, Cur X.K H1 d x ∧ truP d fun k => Q (.bl (!k)) H1) I ⟨G, ρ, S, E, _, R, w, fun x ρ1 S1 u H1 p R1 r1 l1 => ?_, ex⟩) fun v s1 ⟨x, H1, I1, rx, d, cd, q⟩ => ?_)
  · obtain ⟨d, cd, p⟩ := con_sound R1 p r1
    refine ⟨d, cd, ?_⟩
    have mono : ∀ {A B : Bool → Prop}, (∀ k, A k → B k) → truP d A → truP d B := fun i t => by
      cases d <;> first | exact i _ t | exact ⟨t.1, i _ t.2⟩
    exact mono (fun k z => post (.d (.bool (!k))) _ _ (.bl (!k)) _ z R1 rfl l1) p
  · exact not_of (thn (opTru pins s1 σ H1 x v (fun k H2 => Q (.bl (!k)) H2) I1 rx ⟨d, cd, q⟩) fun k s2 ⟨H2, I2, q2⟩ => ⟨.bl (!k), H2, I2, rfl, q2⟩)
theorem snd_of (ht : tstB e = true) (h : PE X e (rX Φ xr W X.K a)) : PT X e (rT Φ xr W X.K (.of a)) := by
  have he : ∀ whole, isTrue e X.env whole = (do let v ← whole; standAt e.pos; holding [v] (truthy v)) := by
    intro wh
    cases e <;> first | rfl | cases ht
  refine ⟨fun pins s σ H Q I ⟨G, ρ, S, E, P, R, w, post, ex⟩ => ?_⟩
  refine isTrue_plain (thn (h.run pins s σ H (fun x H1 => ∃ d, Cur X.K H1 d x ∧ truP d fun k => Q k H1) I ⟨G, ρ, S, E, _, R, w, fun x ρ1 S1 u H1 p R1 r1 l1 => ?_, ex⟩) fun v s1 ⟨x, H1, I1, rx, q⟩ => opTru pins s1 σ H1 x v Q I1 rx q) (he _)
  obtain ⟨d, cd, p⟩ := con_sound R1 p r1
  refine ⟨d, cd, ?_⟩
  have mono : ∀ {A B : Bool → Prop}, (∀ k, A k → B k) → truP d A → truP d B := fun i t => by
    cases d <;> first | exact i _ t | exact ⟨t.1, i _ t.2⟩
  exact mono (fun k z => post k _ _ k _ z R1 rfl l1) p
variable {t t2 : Te} {ts : List Te}
theorem snd_tnot (h : PT X l (rT Φ xr W X.K t)) : PT X (.UnaryOp .Not l pos) (rT Φ xr W X.K (.not t)) :=
  ptI (pt_not h) fun σ H Q ⟨G, ρ, S, E, P, R, w, post, ex⟩ => ⟨G, ρ, S, E, _, R, w, fun k ρ1 S1 k' H1 p R1 e l1 => by
    have e : k = k' := e
    subst e
    exact post (!k) _ _ (!k) _ p R1 rfl l1, ex⟩
theorem snd_tand1 (h : PT X e (rT Φ xr W X.K t)) : PW X (.BoolOp .And [e] pos) (rTA Φ xr W X.K [t]) :=
  pwI (pw_and1 h) fun σ H Q ⟨G, ρ, S, E, P, R, w, post, ex⟩ => ⟨G, ρ, S, E, _, R, w, fun k ρ1 S1 k' H1 p R1 e l1 => by
    have e : k = k' := e
    subst e
    cases k with
    | true => exact post true _ _ _ _ (show P true ρ1 S1 by rw [if_pos rfl] at p; exact p) R1 rfl l1
    | false => exact post false _ _ _ _ (show P false ρ1 S1 by rw [if_neg Bool.false_ne_true] at p; exact p) R1 rfl l1, ex⟩
theorem snd_tor1 (h : PT X e (rT Φ xr W X.K t)) : PW X (.BoolOp .Or [e] pos) (rTO Φ xr W X.K [t]) :=
  pwI (pw_or1 h) fun σ H Q ⟨G, ρ, S, E, P, R, w, post, ex⟩ => ⟨G, ρ, S, E, _, R, w, fun k ρ1 S1 k' H1 p R1 e l1 => by
    have e : k = k' := e
    subst e
    cases k with
    | true => exact post true _ _ _ _ (show P true ρ1 S1 by rw [if_pos rfl] at p; exact p) R1 rfl l1
    | false => exact post false _ _ _ _ (show P false ρ1 S1 by rw [if_neg Bool.false_ne_true] at p; exact p) R1 rfl l1, ex⟩
theorem snd_tand2 {e2 : Expr} (h : PT X e (rT Φ xr W X.K t)) (h2 : PW X (.BoolOp .And (e2 :: es) pos) (rTA Φ xr W X.K (t2 :: ts))) : PW X (.BoolOp .And (e :: e2 :: es) pos) (rTA Φ xr W X.K (t :: t2 :: ts)) :=
  pwI (pw_and h h2) fun σ H Q ⟨G, ρ, S, E, P, R, w, post, ex⟩ => ⟨G, ρ, S, E, _, R, w, fun k ρ1 S1 k' H1 p R1 e l1 => by
    have e : k = k' := e
    subst e
    cases k with
    | true =>
      rw [if_pos rfl] at p
      exact ⟨G, ρ1, S1, E, P, R1, p, fun v ρ' S' u H' q R' rv l2 => post v ρ' S' u H' q R' rv (l1.trans l2), ex.le l1⟩
    | false => exact post false _ _ _ _ (show P false ρ1 S1 by rw [if_neg Bool.false_ne_true] at p; exact p) R1 rfl l1, ex⟩
theorem snd_tor2 {e2 : Expr} (h : PT X e (rT Φ xr W X.K t)) (h2 : PW X (.BoolOp .Or (e2 :: es) pos) (rTO Φ xr W X.K (t2 :: ts))) : PW X (.BoolOp .Or (e :: e2 :: es) pos) (rTO Φ xr W X.K (t :: t2 :: ts)) :=
  pwI (pw_or h h2) fun σ H Q ⟨G, ρ, S, E, P, R, w, post, ex⟩ => ⟨G, ρ, S, E, _, R, w, fun k ρ1 S1 k' H1 p R1 e l1 => by
    have e : k = k' := e
    subst e
    cases k with
    | true => exact post true _ _ _ _ (show P true ρ1 S1 by rw [if_pos rfl] at p; exact p) R1 rfl l1
    | false =>
      rw [if_neg Bool.false_ne_true] at p
      exact ⟨G, ρ1, S1, E, P, R1, p, fun v ρ' S' u H' q R' rv l2 => post v ρ' S' u H' q R' rv (l1.trans l2), ex.le l1⟩, ex⟩
theorem snd_ite {x : Expr} (hc : PT X x (rT Φ xr W X.K t)) (ha : PE X l (rE Φ xr W X.K a)) (hb : PE X r (rE Φ xr W X.K b)) : PE X (.IfExp x l r pos) (rE Φ xr W X.K (.ite t a b)) :=
  peI (pe_ifExp hc ha hb) fun σ H Q ⟨G, ρ, S, E, P, R, w, post, ex⟩ => ⟨G, ρ, S, E, _, R, w, fun k ρ1 S1 k' H1 p R1 e l1 => by
    have e : k = k' := e
    subst e
    cases k with
    | true =>
      rw [if_pos rfl] at p
      exact ⟨G, ρ1, S1, E, P, R1, p, fun v ρ' S' u H' q R' rv l2 => post v ρ' S' u H' q R' rv (l1.trans l2), ex.le l1⟩
    | false =>
      rw [if_neg Bool.false_ne_true] at p
      exact ⟨G, ρ1, S1, E, P, R1, p, fun v ρ' S' u H' q R' rv l2 => post v ρ' S' u H' q R' rv (l1.trans l2), ex.le l1⟩, ex⟩
/-! ### arguments, calls -/
theorem snd_as0 : PA X [] (rAs Φ xr W X.K []) := paI pa_nil fun σ H Q ⟨G, ρ, S, E, P, R, w, post, ex⟩ => post [] _ _ [] _ w R .nil (Le.refl H)
theorem snd_as1 (hn : nst e = true) (h : PE X e (rE Φ xr W X.K a)) (h2 : PA X es (rAs Φ xr W X.K as)) : PA X (e :: es) (rAs Φ xr W X.K (a :: as)) :=
  paI (pa_cons h h2 (star_cons hn)) fun σ H Q ⟨G, ρ, S, E, P, R, w, post, ex⟩ => ⟨G, ρ, S, E, _, R, w, fun v ρ1 S1 u H1 p R1 rv l1 =>
    ⟨G, ρ1, S1, E, _, R1, p, fun vs ρ2 S2 us H2 p2 R2 rvs l2 => post (v :: vs) _ _ (u :: us) _ p2 R2 (.cons (RepV.le l2 rv) rvs) (l1.trans l2), ex.le l1⟩, ex⟩
theorem snd_call (o : CxOk c Φ n xr X W) {f x : Str} {p1 : Pos} (hx : (x == f) = true) (hg : gloB c x = true) (hf : c.fns.contains x = true) (hs : es.all nst = true) (hl : as.length = es.length) (ha : PA X es (rAs Φ xr W X.K as)) : PE X (.Call (.Name x p1) es [] pos) (rE Φ xr W X.K (.call f as)) := by
  obtain rfl := eq_of_beq hx
  obtain ⟨g, dd, _⟩ := o.glo hg
  obtain ⟨fa, fd, ps, F⟩ := o.fns x hf
  refine ⟨fun pins s σ H Q I ⟨G, ρ, S, E, P, R, w, post, ex⟩ => ?_⟩
  have done : ∀ {us : List Value} {xs : List V} {vs : List PV} {ρ1 : VE} {S1 : Sto} {H1 : Hp} {s1 : Shared}, Inv X pins σ H1 s1 → Vals xs us → RepVs X.K H1 vs xs → Rel X.K G ρ1 S1 σ H1 → Le H H1 →
      Φ x vs S1 (fun v S2 => P v ρ1 S2) (fun y S2 => E y ρ1 S2) → wpAny (model X.prog X.w) X.A (call (.ref fa) us) (EP X pins σ Q) X.xe s1 := fun {us xs vs ρ1 S1 H1 s1} I1 rv rp R1 l1 w1 => by
    refine thn (run_fnG F o.room o.gd o.tk I1 rv rp (Step.start R1) w1 fun cls od H' z => ?_) fun u s2 q => ep_imp q fun v H2 ⟨v', S2, rv2, T, p2⟩ => ?_
    · obtain ⟨y, S2, hx, T, he⟩ := z
      exact ex y ρ1 S2 cls od H' he (R1.called T) hx (l1.trans (Step.le R1 T))
    · exact post v' ρ1 S2 v H2 p2 (R1.called T) rv2 (l1.trans (Step.le R1 T))
  refine wpAny_Call_Name_kw (ld_glob I g F.mg ?_ dd)
  cases es with
  | nil =>
    cases as with
    | nil => exact PySem.W.callWith_K0 I.kIn F.keep (done I .nil .nil R (Le.refl H) w)
    | cons a as => cases hl
  | cons e es =>
    rw [List.all_cons, Bool.and_eq_true] at hs
    have hA := ha.run pos pins s σ H (fun xs H1 => ∃ vs ρ1 S1, RepVs X.K H1 vs xs ∧ Rel X.K G ρ1 S1 σ H1 ∧ Le H H1 ∧ Φ x vs S1 (fun v S2 => P v ρ1 S2) (fun y S2 => E y ρ1 S2)) I
      ⟨G, ρ, S, E, _, R, w, fun vs ρ1 S1 us H1 p1 R1 rp l1 => ⟨vs, ρ1, S1, rp, R1, l1, p1⟩, ex⟩
    refine PySem.W.callWith_K (h₀ := X.base) I.ok.mod.kin F.keep (thn hA fun us s1 ⟨xs, H1, I1, rv, vs, ρ1, S1, rp, R1, l1, w1⟩ => ⟨I1.kIn, ?_⟩) (star_cons hs.1) (star_plain hs.2)
    exact done I1 rv rp R1 l1 w1
/-! ### places, slices -/
theorem snd_ix (o : CxOk c Φ n xr X W) (hs : nsl r = true) (ha : PE X l (rX Φ xr W X.K a)) (hb : PE X r (rX Φ xr W X.K b)) : PE X (.Subscript l r pos) (rE Φ xr W X.K (.ix a b)) :=
  peI (pe_ix (opIx (by have := o.room.units; omega)) ha hb fun _ _ => by cases r <;> first | rfl | cases hs) fun σ H Q h => snd_op2 (op := fun _ _ => pure .none) (Z := ixP) (fun i h => ixP_mono i h) (fun _ _ _ _ z => z) h
theorem rep_int {K : PySem.W.Frag} {H : Hp} {i : Int} {u : V} (h : RepV K H (.d (.int i)) u) : u = .int i := h
variable {p2 : Pos}
theorem snd_slc00 (ha : PE X l (rX Φ xr W X.K a)) : PE X (.Subscript l (.Slice none none none p2) pos) (rE Φ xr W X.K (.slc false false a [])) :=
  peI (pe_slice opSl ha po_none po_none) fun σ H Q ⟨G, ρ, S, E, P, R, w, post, ex⟩ => ⟨G, ρ, S, E, _, R, w, fun x ρ1 S1 u H1 p R1 r1 l1 => by
    have p : conL ρ1 S1 x fun d => slcP d none none fun r => P (.d r) ρ1 S1 := p
    obtain ⟨d, cd, p⟩ := conL_sound R1 p r1
    exact ⟨d, cd, slcP_mono (fun k q v H' sm rp => post (.d k) _ _ v _ q (R1.ext sm) rp (l1.trans (Le.of_same sm))) p⟩, ex⟩
theorem slcQ1 {d : PyData} {v : PV} {Q : PyData → Prop} (h : slcQ true false [v] d Q) : ∃ i, v = .d (.int i) ∧ slcP d (some i) none Q := by
  unfold slcQ at h
  split at h <;> first | exact h.elim | skip
  all_goals (rename_i e; simp_all)
theorem slcQ2 {d : PyData} {v : PV} {Q : PyData → Prop} (h : slcQ false true [v] d Q) : ∃ i, v = .d (.int i) ∧ slcP d none (some i) Q := by
  unfold slcQ at h
  split at h <;> first | exact h.elim | skip
  all_goals (rename_i e; simp_all)
theorem slcQ3 {d : PyData} {v u : PV} {Q : PyData → Prop} (h : slcQ true true [v, u] d Q) : ∃ i j, v = .d (.int i) ∧ u = .d (.int j) ∧ slcP d (some i) (some j) Q := by
  unfold slcQ at h
  split at h <;> first | exact h.elim | skip
  all_goals (rename_i e; simp_all)
theorem snd_slc10 (ha : PE X l (rX Φ xr W X.K a)) (hb : PE X r (rE Φ xr W X.K b)) : PE X (.Subscript l (.Slice (some r) none none p2) pos) (rE Φ xr W X.K (.slc true false a [b])) :=
  peI (pe_slice opSl ha (po_some hb) po_none) fun σ H Q ⟨G, ρ, S, E, P, R, w, post, ex⟩ => ⟨G, ρ, S, E, _, R, w, fun x ρ1 S1 u H1 p R1 r1 l1 => ⟨G, ρ1, S1, E, fun v ρ2 S2 => conL ρ2 S2 x fun d => slcQ true false [v] d fun r => P (.d r) ρ2 S2, R1, p, fun v ρ2 S2 u2 H2 q R2 rv l2 => by
    obtain ⟨d, cd, q⟩ := conL_sound R2 q (RpA.le r1 l2)
    obtain ⟨i, rfl, q⟩ := slcQ1 q
    exact ⟨i, rep_int rv, d, cd, slcP_mono (fun k q v H' sm rp => post (.d k) _ _ v _ q (R2.ext sm) rp ((l1.trans l2).trans (Le.of_same sm))) q⟩, ex.le l1⟩, ex⟩
theorem snd_slc01 (ha : PE X l (rX Φ xr W X.K a)) (hb : PE X r (rE Φ xr W X.K b)) : PE X (.Subscript l (.Slice none (some r) none p2) pos) (rE Φ xr W X.K (.slc false true a [b])) :=
  peI (pe_slice opSl ha po_none (po_some hb)) fun σ H Q ⟨G, ρ, S, E, P, R, w, post, ex⟩ => ⟨G, ρ, S, E, _, R, w, fun x ρ1 S1 u H1 p R1 r1 l1 => ⟨G, ρ1, S1, E, fun v ρ2 S2 => conL ρ2 S2 x fun d => slcQ false true [v] d fun r => P (.d r) ρ2 S2, R1, p, fun v ρ2 S2 u2 H2 q R2 rv l2 => by
    obtain ⟨d, cd, q⟩ := conL_sound R2 q (RpA.le r1 l2)
    obtain ⟨i, rfl, q⟩ := slcQ2 q
    exact ⟨i, rep_int rv, d, cd, slcP_mono (fun k q v H' sm rp => post (.d k) _ _ v _ q (R2.ext sm) rp ((l1.trans l2).trans (Le.of_same sm))) q⟩, ex.le l1⟩, ex⟩
/-- an int within a value -/
def isInt (v : PV) : Prop := ∃ i : Int, v = .d (.int i)
variable {r2 : Expr}
theorem snd_slc11 (ha : PE X l (rX Φ xr W X.K a)) (hb : PE X r (rE Φ xr W X.K b)) (hd : PE X r2 (rE Φ xr W X.K d)) : PE X (.Subscript l (.Slice (some r) (some r2) none p2) pos) (rE Φ xr W X.K (.slc true true a [b, d])) := by
  refine ⟨fun pins s σ H Q I ⟨G, ρ, S, E, P, R, w, post, ex⟩ => ?_⟩
  refine Subscript_ (thn (ha.run pins s σ H (fun x H1 => ∃ x' ρ1 S1, Rel X.K G ρ1 S1 σ H1 ∧ RpA X.K G ρ1 S1 σ H1 x' x ∧ Le H H1 ∧ wpAs Φ E [b, d] ρ1 S1 fun vs ρ2 S2 => conL ρ2 S2 x' fun d => slcQ true true vs d fun r => P (.d r) ρ2 S2) I
    ⟨G, ρ, S, E, _, R, w, fun x ρ1 S1 u H1 p R1 r1 l1 => ⟨x, ρ1, S1, R1, r1, l1, p⟩, ex⟩) fun v s1 ⟨x, H1, I1, rx, x', ρ1, S1, R1, ar, l1, w1⟩ => ?_)
  have w1 : wpE Φ E b ρ1 S1 fun u ρ2 S2 => wpE Φ E d ρ2 S2 fun u2 ρ3 S3 => conL ρ3 S3 x' fun d => slcQ true true [u, u2] d fun r => P (.d r) ρ3 S3 := w1
  refine wpAny_Slice ?_
  rw [evalPart_some, evalPart_some]
  refine thn (hb.run pins s1 σ H1 (fun y H2 => ∃ y' ρ2 S2, Rel X.K G ρ2 S2 σ H2 ∧ RepV X.K H2 y' y ∧ Le H1 H2 ∧ wpE Φ E d ρ2 S2 fun u2 ρ3 S3 => conL ρ3 S3 x' fun d => slcQ true true [y', u2] d fun r => P (.d r) ρ3 S3) I1
    ⟨G, ρ1, S1, E, _, R1, w1, fun y ρ2 S2 u H2 p R2 r2 l2 => ⟨y, ρ2, S2, R2, r2, l2, p⟩, ex.le l1⟩) fun vl s2 ⟨y, H2, I2, ry, y', ρ2, S2, R2, yr, l2, w2⟩ => ?_
  refine thn (hd.run pins s2 σ H2 (fun z H3 => ∃ z' ρ3 S3, Rel X.K G ρ3 S3 σ H3 ∧ RepV X.K H3 z' z ∧ Le H2 H3 ∧ conL ρ3 S3 x' fun d => slcQ true true [y', z'] d fun r => P (.d r) ρ3 S3) I2
    ⟨G, ρ2, S2, E, _, R2, w2, fun z ρ3 S3 u H3 p R3 r3 l3 => ⟨z, ρ3, S3, R3, r3, l3, p⟩, ex.le (l1.trans l2)⟩) fun vu s3 ⟨z, H3, I3, rz, z', ρ3, S3, R3, zr, l3, w3⟩ => ?_
  obtain ⟨dd, cd, w3⟩ := conL_sound R3 w3 (RpA.le ar (l2.trans l3))
  obtain ⟨i, j, rfl, rfl, w3⟩ := slcQ3 w3
  cases (show y = .int i from yr)
  cases (show z = .int j from zr)
  obtain ⟨t1, rfl⟩ := ry
  obtain ⟨t2, rfl⟩ := rz
  rw [evalPart_none]
  refine wpAny_pure ?_
  have I4 : Inv X pins σ H3 { s3 with heap := s3.heap.push { cls := .type "slice", data := .fields #[.int i t1, .int j t2, .none] } } := I3.kept (t' := s3.toks) fun b' ob q => Heap.get?_push_of_some _ q
  obtain ⟨T, id, hT, ht, hg⟩ := opSl (X := X) pins { s3 with heap := s3.heap.push { cls := .type "slice", data := .fields #[.int i t1, .int j t2, .none] } } σ H3 x v (.int i t1) (.int j t2) (some i) (some j) s3.heap.objs.size Q I4 rx (Heap.IsSliceOf.new ..) (.int i t1) (.int j t2)
    ⟨dd, cd, slcP_mono (fun k q v H' sm rp => post (.d k) _ _ v _ q (R3.ext sm) rp (((l1.trans l2).trans l3).trans (Le.of_same sm))) w3⟩
  exact tail_any (ops := [.ref s3.heap.objs.size, v]) ht hT hg (by with_unfolding_all rfl)
/-! ### displays -/
variable {ms : List Im}
theorem snd_is0 : PA X [] (rIs Φ xr W X.K []) := paI pa_nil fun σ H Q ⟨G, ρ, S, E, P, R, w, post, ex⟩ => post [] _ _ [] _ w R Reps.nil (Le.refl H)
theorem snd_is1 (hn : nst e = true) (h : PE X e (rE Φ xr W X.K a)) (h2 : PA X es (rIs Φ xr W X.K ms)) : PA X (e :: es) (rIs Φ xr W X.K (.one a :: ms)) :=
  paI (pa_cons h h2 (star_cons hn)) fun σ H Q ⟨G, ρ, S, E, P, R, w, post, ex⟩ => by
    have w : wpE Φ E a ρ S fun v ρ1 S1 => isD v fun x => wpIs Φ E ms ρ1 S1 fun ys ρ2 S2 => P ([x] ++ ys) ρ2 S2 := w
    refine ⟨G, ρ, S, E, _, R, w, fun v ρ1 S1 u H1 p R1 rv l1 => ?_, ex⟩
    obtain ⟨x, rfl, p⟩ := isD_of p
    exact ⟨G, ρ1, S1, E, _, R1, p, fun vs ρ2 S2 us H2 p2 R2 rvs l2 => post ([x] ++ vs) _ _ (u :: us) _ p2 R2 ⟨u, us, rfl, Rep.le l2 x rv, rvs⟩ (l1.trans l2), ex.le l1⟩
theorem snd_is2 (h : PE X e (rX Φ xr W X.K a)) (h2 : PA X es (rIs Φ xr W X.K ms)) : PA X (.Starred e p2 :: es) (rIs Φ xr W X.K (.star a :: ms)) :=
  paI (StX.pa_star h h2 rfl) fun σ H Q ⟨G, ρ, S, E, P, R, w, post, ex⟩ => by
    have w : wpX a (wpE Φ E a) ρ S fun x ρ1 S1 => con ρ1 S1 x fun d => itemsP d fun xs => wpIs Φ E ms ρ1 S1 fun ys ρ2 S2 => P (xs ++ ys) ρ2 S2 := w
    refine ⟨G, ρ, S, E, _, R, w, fun v ρ1 S1 u H1 p R1 rv l1 => ?_, ex⟩
    obtain ⟨d, cd, p⟩ := con_sound R1 p rv
    have go : ∀ {xs : List PyData} {vs : List V}, Reps X.K H1 xs vs → (wpIs Φ E ms ρ1 S1 fun ys ρ2 S2 => P (xs ++ ys) ρ2 S2) → rIs Φ xr W X.K ms σ H1 (fun ys H2 => Q (vs ++ ys) H2) := fun {xs vs} rr p =>
      ⟨G, ρ1, S1, E, _, R1, p, fun ys ρ2 S2 us H2 p2 R2 rvs l2 => post (xs ++ ys) _ _ (vs ++ us) _ p2 R2 ((Reps.le l2 _ rr).append rvs) (l1.trans l2), ex.le l1⟩
    cases d <;> try exact (show False from p).elim
    · obtain ⟨a', vs, rfl, ha, rr⟩ := cd
      exact ⟨a', vs, rfl, .inr (.inl ha), go rr p⟩
    · obtain ⟨a', vs, rfl, ha, rr⟩ := cd
      exact ⟨a', vs, rfl, .inl ha, go rr p⟩
/-- frozen when it has come -/
theorem pe_fz {t : TE} (h : PE X e t) : PE X e (fun σ H Q => t σ H (Fz Q)) := ⟨fun pins s σ H Q I w => thn (h.run pins s σ H (Fz Q) I w) fun w' s' q => ep_fz q⟩
theorem snd_tup {kk : Nat} (h : PA X es (rIs Φ xr W X.K ms)) : PE X (.Tuple es kk pos) (rE Φ xr W X.K (.tup ms)) :=
  peI (pe_tup h) fun σ H Q ⟨G, ρ, S, E, P, R, w, post, ex⟩ => by
    have w : wpIs Φ E ms ρ S fun ds ρ1 S1 => ds.length ≤ sizeLine ∧ P (.d (.tuple ds)) ρ1 S1 := w
    refine ⟨G, ρ, S, E, _, R, w, fun ds ρ1 S1 us H1 p R1 rr l1 => ⟨by rw [Reps.length rr]; exact p.1, fun q hq => ?_⟩, ex⟩
    exact of_new_tup (Q := fun v H' => Q v H') rr (fun v H' sm rp => post (.d (.tuple ds)) _ _ v _ p.2 (R1.ext sm) rp (l1.trans (Le.of_same sm))) q hq
theorem snd_lst (h : PA X es (rIs Φ xr W X.K ms)) : PE X (.List es pos) (rE Φ xr W X.K (.lst false ms)) :=
  peI (pe_fz (pe_lst h)) fun σ H Q ⟨G, ρ, S, E, P, R, w, post, ex⟩ => by
    have w : wpIs Φ E ms ρ S fun ds ρ1 S1 => ds.length ≤ sizeLine ∧ P (.d (.list ds)) ρ1 S1 := w
    refine ⟨G, ρ, S, E, _, R, w, fun ds ρ1 S1 us H1 p R1 rr l1 => ⟨by rw [Reps.length rr]; exact p.1, fun q hq => ?_⟩, ex⟩
    exact fz_list rr (fun v H' sm rp => post (.d (.list ds)) _ _ v _ p.2 (R1.ext sm) rp (l1.trans (Le.of_same sm))) hq
theorem snd_lstS (h : PA X es (rIs Φ xr W X.K ms)) : PE X (.List es pos) (rE Φ xr W X.K (.lst true ms)) :=
  peI (pe_lst h) fun σ H Q ⟨G, ρ, S, E, P, R, w, post, ex⟩ => by
    have w : wpIs Φ E ms ρ S fun ds ρ1 S1 => ds.length ≤ sizeLine ∧ ∀ a, S1 a = none → P (.r a) ρ1 (sput S1 a (.lst ds)) := w
    refine ⟨G, ρ, S, E, _, R, w, fun ds ρ1 S1 us H1 p R1 rr l1 => ⟨by rw [Reps.length rr]; exact p.1, fun q hq => ?_⟩, ex⟩
    have le : Le H1 (upd H1 q (.lst us)) := Le.new hq
    exact post (.r q) _ _ (.ref q) _ (p.2 q (R1.free hq).1) (R1.storeNew hq ⟨us, upd_same, Reps.le le _ rr⟩) rfl (l1.trans le)
theorem snd_edic : PE X (.Dict [] [] pos) (rE Φ xr W X.K .edic) :=
  peI (pe_fz pe_dnewK) fun σ H Q ⟨G, ρ, S, E, P, R, w, post, ex⟩ q hq => ⟨q, _, rfl, upd_same, trivial, fun ob => by
    rw [upd_upd]
    exact post (.d (.dict [])) _ _ (.ref q) _ w (R.ext (Same.upd hq)) (.inl ⟨q, [], rfl, ⟨ob, upd_same⟩, rfl⟩) (Le.new hq)⟩
theorem Rel.leave {K : PySem.W.Frag} {G : Gh} {ρ : VE} {S : Sto} {σ : L2.St} {H : Hp} {p : Addr} {q : SO} (R : Rel K G ρ S σ H) (hS : S p = some q) (g2 : G.S0 p = none) : Rel K G ρ (sdel S p) σ H ∧ Out G ρ (sdel S p) σ p := by
  refine ⟨⟨R.val, fun j l e nl => ?_, fun a o e => ?_, R.old, fun a e => ?_, fun a e => ?_, R.len⟩, ⟨?_, ?_, fun ⟨j, l, e, nl, es⟩ => ?_⟩⟩
  · obtain ⟨a, h1, o, f1, f2, ap⟩ := R.own j l e nl
    exact ⟨a, h1, o, f1, by unfold sdel; split; rfl; exact f2, ap⟩
  · unfold sdel at e
    split at e
    · cases e
    · exact R.sto a o e
  · unfold sdel at e
    split at e
    · exact absurd rfl e
    · exact R.new a e
  · have hap : a ≠ p := fun z => e (z ▸ g2)
    unfold sdel
    rw [if_neg hap]
    exact R.mon a e
  · rcases R.new p (by rw [hS]; simp) with z | z
    · exact absurd g2 z
    · exact z
  · unfold sdel
    rw [if_pos rfl]
  · obtain ⟨a, h1, o, f1, f2, ap⟩ := R.own j l e nl
    rw [es] at h1
    cases h1
    rw [hS] at f2
    cases f2
theorem snd_frz {e : Expr} {a : Ex} (h : PE X e (rE Φ xr W X.K a)) : PE X e (rE Φ xr W X.K (.frz a)) :=
  peI (pe_fz h) fun σ H Q ⟨G, ρ, S, E, P, R, w, post, ex⟩ => by
    have w : wpE Φ E a ρ S fun v ρ1 S1 => ∃ p xs, v = .r p ∧ S p = none ∧ S1 p = some (.lst xs) ∧ P (.d (.list xs)) ρ1 (sdel S1 p) := w
    refine ⟨G, ρ, S, E, _, R, w, fun v ρ1 S1 u H1 q R1 rv l1 => ?_, ex⟩
    obtain ⟨p, xs, rfl, h0, h1, q⟩ := q
    obtain rfl : u = .ref p := rv
    have g2 : G.S0 p = none := by
      cases z : G.S0 p with
      | none => rfl
      | some y => exact absurd h0 (R.mon p (by rw [z]; simp))
    obtain ⟨R2, out⟩ := R1.leave h1 g2
    obtain ⟨vs, hv, rr⟩ := R1.sto p _ h1
    refine ⟨p, _, rfl, hv, trivial, fun ob => ?_⟩
    have lm : Le H1 (upd H1 p (.frz ob (.lst vs))) := Le.mut hv trivial
    exact post (.d (.list xs)) _ _ (.ref p) _ q (R2.bump hv trivial out) ⟨p, vs, rfl, ⟨ob, upd_same⟩, Reps.le lm _ rr⟩ (l1.trans lm)
theorem snd_edicS : PE X (.Dict [] [] pos) (rE Φ xr W X.K .edicS) :=
  peI pe_dnewK fun σ H Q ⟨G, ρ, S, E, P, R, w, post, ex⟩ q hq => by
    have w : ∀ a, S a = none → P (.r a) ρ (sput S a (.dic [])) := w
    exact post (.r q) _ _ (.ref q) _ (w q (R.free hq).1) (R.storeNew hq ⟨[], upd_same, rfl⟩) rfl (Le.new hq)
/-! ### a call that is lent an own dict -/
theorem set_same {α : Type} {l : List α} {i : Nat} {x : α} (h : l[i]? = some x) : l.set i x = l := by
  apply List.ext_getElem?
  intro j
  by_cases e : i = j
  · subst e
    have := (List.getElem?_eq_some_iff.mp h).1
    rw [List.getElem?_set_self this, h]
  · rw [List.getElem?_set_ne e]
theorem Rel.forgetS {K : PySem.W.Frag} {G : Gh} {ρ : VE} {S : Sto} {σ : L2.St} {H : Hp} (R : Rel K G ρ S σ H) (i : Nat) : Rel K G (ρ.set i none) S σ H := by
  have keep : ∀ {j : Nat} {l : Lo}, (ρ.set i none)[j]? = some (some l) → ρ[j]? = some (some l) := fun {j l} e => by
    by_cases hj : i = j
    · subst hj
      by_cases hi : i < ρ.length
      · rw [List.getElem?_set_self hi] at e; cases e
      · rw [List.getElem?_eq_none (by simpa using hi)] at e; cases e
    · rw [List.getElem?_set_ne hj] at e
      exact e
  refine ⟨fun j p e => R.val j p (keep e), fun j l e nl => ?_, R.sto, R.old, R.new, R.mon, by rw [List.length_set]; exact R.len⟩
  obtain ⟨a, h1, o, f1, f2, ap⟩ := R.own j l (keep e) nl
  exact ⟨a, h1, o, f1, f2, fun k l' hk ek nk => ap k l' hk (keep ek) nk⟩
theorem Rel.regain {K : PySem.W.Frag} {G : Gh} {ρ : VE} {S : Sto} {σ : L2.St} {H : Hp} {i : Nat} {p : Addr} {kvs : List (PyData × PyData)} (R : Rel K G (ρ.set i none) S σ H) (ei : σ[i]? = some (some (V.ref p))) (hS : S p = some (.dic kvs)) (hg : G.H0 p = none) (hg2 : G.S0 p = none)
    (ap : ∀ (j : Nat) l', j ≠ i → ρ[j]? = some (some l') → (∀ q, l' ≠ .v q) → σ[j]? ≠ some (some (V.ref p))) : Rel K G (ρ.set i (some (.od kvs))) (sdel S p) σ H := by
  have old : ∀ {j : Nat} {l : Lo}, j ≠ i → (ρ.set i (some (.od kvs)))[j]? = some (some l) → ρ[j]? = some (some l) ∧ (ρ.set i none)[j]? = some (some l) := fun {j l} hj e => by
    rw [List.getElem?_set_ne (Ne.symm hj)] at e ⊢
    exact ⟨e, e⟩
  have self : ∀ {l : Lo}, (ρ.set i (some (.od kvs)))[i]? = some (some l) → l = .od kvs := fun {l} e => by
    by_cases hi : i < ρ.length
    · rw [List.getElem?_set_self hi] at e
      cases e
      rfl
    · rw [List.getElem?_eq_none (by simpa using hi)] at e
      cases e
  refine ⟨fun j q e => ?_, fun j l e nl => ?_, fun a o e => ?_, R.old, fun a e => ?_, fun a e => ?_, ?_⟩
  · by_cases hj : j = i
    · subst hj
      cases self e
    · exact R.val j q (old hj e).2
  · by_cases hj : j = i
    · subst hj
      obtain rfl := self e
      exact ⟨p, ei, R.sto p _ hS, hg, by unfold sdel; rw [if_pos rfl], fun k l' hk ek nk => ap k l' hk (old hk ek).1 nk⟩
    · obtain ⟨a, h1, o, f1, f2, ap2⟩ := R.own j l (old hj e).2 nl
      have hap : a ≠ p := fun z => by rw [z, hS] at f2; cases f2
      refine ⟨a, h1, o, f1, by unfold sdel; rw [if_neg hap]; exact f2, fun k l' hk ek nk => ?_⟩
      by_cases hki : k = i
      · subst hki
        rw [ei]
        intro z
        injection z with z
        injection z with z
        injection z with z
        exact hap z.symm
      · exact ap2 k l' hk (old hki ek).2 nk
  · unfold sdel at e
    split at e
    · cases e
    · exact R.sto a o e
  · unfold sdel at e
    split at e
    · exact absurd rfl e
    · exact R.new a e
  · have hap : a ≠ p := fun z => e (z ▸ hg2)
    unfold sdel
    rw [if_neg hap]
    exact R.mon a e
  · have := R.len
    rw [List.length_set] at this ⊢
    exact this
theorem Rel.adopt' {K : PySem.W.Frag} {G : Gh} {ρ : VE} {S : Sto} {σ : L2.St} {H : Hp} {a : Addr} {q : SO} (R : Rel K G ρ S σ H) (f : Out G ρ S σ a) (h : RepO K H a q) : Rel K G ρ (sput S a q) σ H := by
  refine ⟨R.val, fun i l e n => ?_, fun b z e => ?_, R.old, fun b hb => ?_, fun b hb => ?_, R.len⟩
  · obtain ⟨b, e1, ob, f1, f2, ap⟩ := R.own i l e n
    have hb : b ≠ a := fun z => by subst z; exact f.own ⟨i, l, e, n, e1⟩
    exact ⟨b, e1, ob, f1, by rw [sput_ne hb]; exact f2, ap⟩
  · by_cases hb : b = a
    · subst hb
      rw [sput_same] at e
      cases e
      exact h
    · rw [sput_ne hb] at e
      exact R.sto b z e
  · by_cases hba : b = a
    · subst hba
      exact .inr f.gh
    · rw [sput_ne hba] at hb
      exact R.new b hb
  · by_cases hba : b = a
    · subst hba
      rw [sput_same]
      simp
    · rw [sput_ne hba]
      exact R.mon b hb
theorem bor_run (o : CxOk c Φ n xr X W) {f : Str} {fa : Addr} {fd : FuncData} {ps : List Str} (F : FnAt X xr n f (Φ f) fa fd ps) {i : Nat} {G : Gh} {H : Hp} {σ : L2.St} {P : PV → VE → Sto → Prop} {Q : VK} {pins : List (Addr × Obj)} {us : List Value} {xs : List V} {vs : List PV} {ρ1 : VE} {S1 : Sto} {H1 : Hp} {s1 : Shared}
    (post : ∀ v ρ1 S1 u H1, P v ρ1 S1 → Rel X.K G ρ1 S1 σ H1 → RepV X.K H1 v u → Le H H1 → Q u H1) (I1 : Inv X pins σ H1 s1) (rv : Vals xs us) (R1 : Rel X.K G ρ1 S1 σ H1) (l1 : Le H H1) (w1 : borW Φ f vs i ρ1 S1 P)
    {y : V} (hy : σ[i]? = some (some y)) (rp : RepVs X.K H1 vs (xs.dropLast)) (hx : xs = xs.dropLast ++ [y]) : wpAny (model X.prog X.w) X.A (call (.ref fa) us) (EP X pins σ Q) X.xe s1 := by
  unfold borW at w1
  split at w1
  · rename_i kvs e
    obtain ⟨p, e1, ob, f1, f2, ap⟩ := R1.own i _ e (fun _ z => nomatch z)
    rw [hy] at e1
    cases e1
    have ob : RepO X.K H1 p (.dic kvs) := ob
    have hil : i < ρ1.length := (List.getElem?_eq_some_iff.mp e).1
    have R2 := R1.forgetS i
    have out : Out G (ρ1.set i none) S1 σ p := ⟨f1, f2, fun ⟨j, l, ej, nl, es⟩ => by
      by_cases hj : i = j
      · subst hj
        rw [List.getElem?_set_self hil] at ej
        cases ej
      · rw [List.getElem?_set_ne hj] at ej
        exact ap j l (Ne.symm hj) ej nl es⟩
    have R3 := R2.adopt' out ob
    have g2 : G.S0 p = none := by
      cases q : G.S0 p with
      | none => rfl
      | some z => exact absurd f2 (R1.mon p (by rw [q]; simp))
    have rp2 : RepVs X.K H1 (vs ++ [.r p]) xs := by
      rw [hx]
      exact rp.snoc rfl
    refine thn (run_fnG F o.room o.gd o.tk I1 rv rp2 (Step.start R3) (w1 p f2) fun cls od H' z => ?_) fun u s2 q => ep_imp q fun v H2 ⟨v', S2, rv2, T, kvs2, hS2, p2⟩ => ?_
    · obtain ⟨y, S2, hx, T, he⟩ := z
      exact he.elim
    · have R4 := (R3.called T).regain (ρ := ρ1) hy hS2 f1 g2 ap
      exact post v' _ _ v H2 p2 R4 rv2 (l1.trans (Step.le R3 T))
  · exact w1.elim
theorem snd_callB1 (o : CxOk c Φ n xr X W) {f x y : Str} {i : Nat} {e : Expr} {a : Ex} {p1 p2 : Pos} (hx : (x == f) = true) (hg : gloB c x = true) (hf : c.fns.contains x = true) (hn : nst e = true) (hi : slotB c i y = true) (ha : PE X e (rE Φ xr W X.K a)) :
    PE X (.Call (.Name x p1) [e, .Name y p2] [] pos) (rE Φ xr W X.K (.callB1 f a i)) := by
  obtain rfl := eq_of_beq hx
  obtain ⟨g, dd, _⟩ := o.glo hg
  obtain ⟨fa, fd, ps, F⟩ := o.fns x hf
  obtain ⟨hN, hv, hd, hcd⟩ := o.vis hi
  have pv : PE X (.Name y p2) (tVar i) := pe_var hN hv hd hcd
  refine ⟨fun pins s σ H Q I ⟨G, ρ, S, E, P, R, w, post, ex⟩ => ?_⟩
  have w : wpE Φ E a ρ S fun v ρ1 S1 => borW Φ x [v] i ρ1 S1 P := w
  refine wpAny_Call_Name_kw (ld_glob I g F.mg ?_ dd)
  have hA := (pa_cons ha (pa_cons pv pa_nil) (star_cons hn)).run pos pins s σ H (fun xs H1 => ∃ v ρ1 S1 u z, xs = [u, z] ∧ σ[i]? = some (some z) ∧ RepV X.K H1 v u ∧ Rel X.K G ρ1 S1 σ H1 ∧ Le H H1 ∧ borW Φ x [v] i ρ1 S1 P) I
    ⟨G, ρ, S, E, _, R, w, fun v ρ1 S1 u H1 p1 R1 rp l1 => by
      have hz : ∃ z, σ[i]? = some (some z) := by
        have p1' := p1
        unfold borW at p1'
        split at p1'
        · rename_i kvs e2
          obtain ⟨q, e3, _⟩ := R1.own i _ e2 (fun _ z => nomatch z)
          exact ⟨_, e3⟩
        · exact p1'.elim
      obtain ⟨z, hz⟩ := hz
      exact ⟨z, hz, v, ρ1, S1, u, z, rfl, hz, rp, R1, l1, p1⟩, ex⟩
  refine PySem.W.callWith_K (h₀ := X.base) I.ok.mod.kin F.keep (thn hA fun us s1 ⟨xs, H1, I1, rv, v, ρ1, S1, u, z, ex2, hz, rp, R1, l1, w1⟩ => ⟨I1.kIn, ?_⟩) (star_cons hn) rfl
  subst ex2
  exact bor_run o F post I1 rv R1 l1 w1 hz (.cons rp .nil) rfl
theorem snd_callB2 (o : CxOk c Φ n xr X W) {f x y : Str} {i : Nat} {e e2 : Expr} {a b : Ex} {p1 p2 : Pos} (hx : (x == f) = true) (hg : gloB c x = true) (hf : c.fns.contains x = true) (hn : nst e = true) (hn2 : nst e2 = true) (hi : slotB c i y = true) (ha : PE X e (rE Φ xr W X.K a)) (hb : PE X e2 (rE Φ xr W X.K b)) :
    PE X (.Call (.Name x p1) [e, e2, .Name y p2] [] pos) (rE Φ xr W X.K (.callB2 f a b i)) := by
  obtain rfl := eq_of_beq hx
  obtain ⟨g, dd, _⟩ := o.glo hg
  obtain ⟨fa, fd, ps, F⟩ := o.fns x hf
  obtain ⟨hN, hv, hd, hcd⟩ := o.vis hi
  have pv : PE X (.Name y p2) (tVar i) := pe_var hN hv hd hcd
  refine ⟨fun pins s σ H Q I ⟨G, ρ, S, E, P, R, w, post, ex⟩ => ?_⟩
  have w : wpE Φ E a ρ S fun v ρ1 S1 => wpE Φ E b ρ1 S1 fun u ρ2 S2 => borW Φ x [v, u] i ρ2 S2 P := w
  refine wpAny_Call_Name_kw (ld_glob I g F.mg ?_ dd)
  have hA := (pa_cons ha (pa_cons hb (pa_cons pv pa_nil) (star_cons hn2)) (star_cons hn)).run pos pins s σ H (fun xs H1 => ∃ v v2 ρ1 S1 u u2 z, xs = [u, u2, z] ∧ σ[i]? = some (some z) ∧ RepV X.K H1 v u ∧ RepV X.K H1 v2 u2 ∧ Rel X.K G ρ1 S1 σ H1 ∧ Le H H1 ∧ borW Φ x [v, v2] i ρ1 S1 P) I
    ⟨G, ρ, S, E, _, R, w, fun v ρ1 S1 u H1 p1 R1 rp l1 => ⟨G, ρ1, S1, E, _, R1, p1, fun v2 ρ2 S2 u2 H2 p2 R2 rp2 l2 => by
      have hz : ∃ z, σ[i]? = some (some z) := by
        have p1' := p2
        unfold borW at p1'
        split at p1'
        · rename_i kvs e2
          obtain ⟨q, e3, _⟩ := R2.own i _ e2 (fun _ z => nomatch z)
          exact ⟨_, e3⟩
        · exact p1'.elim
      obtain ⟨z, hz⟩ := hz
      exact ⟨z, hz, v, v2, ρ2, S2, u, u2, z, rfl, hz, rp.le l2, rp2, R2, l1.trans l2, p2⟩, ex.le l1⟩, ex⟩
  refine PySem.W.callWith_K (h₀ := X.base) I.ok.mod.kin F.keep (thn hA fun us s1 ⟨xs, H1, I1, rv, v, v2, ρ1, S1, u, u2, z, ex2, hz, rp, rp2, R1, l1, w1⟩ => ⟨I1.kIn, ?_⟩) (star_cons hn) ?_
  · subst ex2
    exact bor_run o F post I1 rv R1 l1 w1 hz (.cons rp (.cons rp2 .nil)) rfl
  · exact star_plain (es := [e2, .Name y p2]) (by rw [List.all_cons, hn2]; rfl)
/-! ### x.pop() -/
theorem snd_pop (o : CxOk c Φ n xr X W) {i : Nat} {x m : Str} {p1 ap : Pos} (hx : slotB c i x = true) (hm : (m == ("pop" : Str)) = true) (hl : (ap.endLine == pos.line) = true) : PE X (.Call (.Attribute (.Name x p1) m ap) [] [] pos) (rE Φ xr W X.K (.popv i)) := by
  obtain rfl := eq_of_beq hm
  obtain ⟨hN, hv, hd, hcd⟩ := o.vis hx
  have pv : PE X (.Name x p1) (tVar i) := pe_var hN hv hd hcd
  refine peI (pe_bm0 (r := rPop) F.plainAttrs_list F.slot_list_pop F.type_list_pop mt_pop pv rfl hl) fun σ H Q ⟨G, ρ, S, E, P, R, w, post, ex⟩ => ?_
  have w : (match ρ[i]? with
    | some (some (.ol xs)) => match xs.getLast? with
      | some x => P (.d x) (ρ.set i (some (.ol xs.dropLast))) S
      | none => False
    | _ => False) := w
  split at w
  · rename_i xs e
    split at w
    · rename_i y ey
      obtain ⟨a, e1, ⟨vs, ha, rr⟩, _⟩ := R.own i _ e (fun _ z => nomatch z)
      rw [List.getLast?_eq_getElem?] at ey
      obtain ⟨v, ev, rv⟩ := rr.get ey
      rw [← rr.length] at ev
      have le : Le H (upd H a (.lst vs.dropLast)) := Le.mut ha trivial
      refine ⟨.ref a, e1, .inl ⟨rfl, vs, .inl (.inl ha)⟩, a, vs, v, rfl, rfl, ha, ev, ?_⟩
      exact post (.d y) _ _ v _ w (R.change e (fun _ z => nomatch z) (fun _ z => nomatch z) e1 ⟨_, upd_same, Reps.le le _ rr.dropLast⟩) (Rep.le le _ rv) le
    · exact w.elim
  · exact w.elim
end
/-! ### x[::-1], x[:0:-1] -/
theorem rev_adjust (n : Nat) : Builtin.Slice.sliceAdjust none none (-1) (n : Int) = ((n : Int) - 1, -1) := by
  unfold Builtin.Slice.sliceAdjust
  simp
theorem rev0_adjust (n : Nat) : Builtin.Slice.sliceAdjust none (some 0) (-1) (n : Int) = ((n : Int) - 1, min 0 ((n : Int) - 1)) := by
  unfold Builtin.Slice.sliceAdjust
  simp
theorem rev_places (n : Nat) (hi : Int) (h : hi = -1 ∨ hi = min 0 ((n : Int) - 1)) : Builtin.Slice.slicePlaces ((n : Int) - 1) hi (-1) = if hi = -1 then n else n - 1 := by
  unfold Builtin.Slice.slicePlaces
  have h1 : ¬ ((-1 : Int) > 0) := by omega
  have h2 : (-(-1) : Int) = 1 := by omega
  simp only [h1, if_false, h2, Int.ediv_one]
  split <;> split <;> omega
theorem rev_pick (xs : Array Value) (n : Nat) (hn : n ≤ xs.size) : ((List.range n).filterMap fun (k : Nat) => xs[((xs.size : Int) - 1 + (k : Int) * (-1)).toNat]?) = xs.toList.reverse.take n := by
  have e : ∀ (l : List Value) (n : Nat), (List.range n).filterMap (fun k => l[k]?) = l.take n := by
    intro l n
    induction n with
    | zero => simp
    | succ n ih =>
      rw [List.range_succ, List.filterMap_append, ih, List.take_succ]
      congr 1
  rw [← e]
  have : ∀ (ks : List Nat), (∀ k ∈ ks, k < n) → ks.filterMap (fun (k : Nat) => xs[((xs.size : Int) - 1 + (k : Int) * (-1)).toNat]?) = ks.filterMap fun k => xs.toList.reverse[k]? := by
    intro ks hk
    induction ks with
    | nil => rfl
    | cons k ks ih =>
      have h1 := hk k List.mem_cons_self
      have e1 : xs[((xs.size : Int) - 1 + (k : Int) * (-1)).toNat]? = xs.toList.reverse[k]? := by
        rw [List.getElem?_reverse (by rw [Array.length_toList]; omega), Array.getElem?_toList, Array.length_toList]
        congr 1
        omega
      rw [List.filterMap_cons, List.filterMap_cons, e1, ih fun j hj => hk j (List.mem_cons_of_mem _ hj)]
  exact this _ fun k hk => List.mem_range.mp hk
def rvL {α : Type} (all : Bool) (xs : List α) : List α := if all then xs.reverse else xs.tail.reverse
theorem rvL_take {α : Type} (all : Bool) (xs : List α) : xs.reverse.take (if all then xs.length else xs.length - 1) = rvL all xs := by
  unfold rvL
  cases all with
  | true => simp [List.take_of_length_le]
  | false =>
    cases xs with
    | nil => rfl
    | cons x xs => simp [List.take_left']
theorem Reps.rv {K : PySem.W.Frag} {H : Hp} {ds : List PyData} {vs : List V} (all : Bool) (h : Reps K H ds vs) : Reps K H (rvL all ds) (rvL all vs) := by
  rw [← rvL_take, ← rvL_take, h.length]
  exact (h.reverse).take _
theorem Vals.rv {vs : List V} {us : List Value} (all : Bool) (h : Vals vs us) : Vals (rvL all vs) (rvL all us) := by
  rw [← rvL_take, ← rvL_take, h.length]
  exact (h.reverse).take _
theorem rvL_len {α : Type} (all : Bool) (xs : List α) : (rvL all xs).length ≤ xs.length := by
  unfold rvL
  split <;> simp
section
variable {prog : Program} {w : World} {A : Around} {E : Value → Shared → Prop} {s : Shared}
theorem applied_rev {sl : Addr} {vl vu vs : Value} {hi : Option Int} {n : Nat} {Q : Int × Int × Nat → Shared → Prop} (all : Bool) (hs : s.heap.IsSliceOf sl vl vu vs) (pl : IsPart vl none) (pu : IsPart vu (if all then none else some 0)) (ps : IsPart vs (some (-1)))
    (h : Q ((n : Int) - 1, -1, if all then n else n - 1) s) : wpAny (model prog w) A (Builtin.Slice.sliceApplied (.ref sl) (pure (n : Int))) Q E s := by
  obtain ⟨os, hos, hcs, hds⟩ := id hs
  unfold Builtin.Slice.sliceApplied Builtin.Slice.sliceFields
  refine wpAny_bind (wpAny_bind (wpAny_field hos hds (x := vl) rfl (wpAny_bind (wpAny_field hos hds (x := vu) rfl (wpAny_bind (wpAny_field hos hds (x := vs) rfl (wpAny_pure ?_)))))))
  refine wpAny_bind (HT.slicePart_ ps ?_)
  show wpAny _ _ (if ((-1 : Int) == 0) = true then _ else _) _ _ s
  rw [if_neg (by decide)]
  cases all with
  | true =>
    refine wpAny_bind (HT.slicePart_ pl (wpAny_bind (HT.slicePart_ pu (wpAny_bind (wpAny_pure ?_)))))
    show wpAny _ _ (match Builtin.Slice.sliceAdjust none none (-1) (n : Int) with | (lo, hi) => pure (lo, (-1 : Int), Builtin.Slice.slicePlaces lo hi (-1))) _ _ s
    rw [rev_adjust]
    show wpAny _ _ (pure ((n : Int) - 1, (-1 : Int), Builtin.Slice.slicePlaces ((n : Int) - 1) (-1) (-1))) _ _ s
    rw [rev_places n (-1) (.inl rfl), if_pos rfl]
    exact wpAny_pure h
  | false =>
    refine wpAny_bind (HT.slicePart_ pl (wpAny_bind (HT.slicePart_ pu (wpAny_bind (wpAny_pure ?_)))))
    show wpAny _ _ (match Builtin.Slice.sliceAdjust none (some 0) (-1) (n : Int) with | (lo, hi) => pure (lo, (-1 : Int), Builtin.Slice.slicePlaces lo hi (-1))) _ _ s
    rw [rev0_adjust]
    show wpAny _ _ (pure ((n : Int) - 1, (-1 : Int), Builtin.Slice.slicePlaces ((n : Int) - 1) (min 0 ((n : Int) - 1)) (-1))) _ _ s
    rw [rev_places n _ (.inr rfl)]
    have e : (if (min 0 ((n : Int) - 1)) = -1 then n else n - 1) = n - 1 := by
      split <;> omega
    rw [e]
    exact wpAny_pure h
theorem getItem_tuple_rev {t sl : Addr} {items : Array Value} {vl vu vs : Value} {Q : Value → Shared → Prop} (all : Bool) (ht : IsTup s.heap t items) (hs : s.heap.IsSliceOf sl vl vu vs) (pl : IsPart vl none) (pu : IsPart vu (if all then none else some 0)) (ps : IsPart vs (some (-1)))
    (h : Q (.ref s.heap.objs.size) { s with heap := s.heap.push { cls := .type "tuple", data := .seq (rvL all items.toList).toArray } })
    (hsz : items.size ≤ sizeLine) : wpAny (model prog w) A (getItem (.ref t) (.ref sl)) Q E s := by
  have htake : sizeOk (.seq (rvL all items.toList).toArray) := by
    have h1 := rvL_len all items.toList
    have h2 : items.toList.length = items.size := Array.length_toList
    show (rvL all items.toList).length ≤ sizeLine
    omega
  obtain ⟨os, hos, hcs, hds⟩ := id hs
  have hTs : s.TypeIs (.ref sl) "slice" := ⟨os, hos, hcs⟩
  unfold getItem
  try with_reducible refine wpAny_holding ?_
  first | refine wpAny_bind (wpAny_pure ?_) | skip
  refine wpAny_bind (wpAny_sequenceKey ht.typeIs (by decide) ?_)
  refine wpAny_bind (wpAny_callSpecial?_slot (name := Str.ofString "__getitem__") ht.typeIs PyProof.Rows.slot_tuple_getitem
    (wpAny_call_entry PyProof.Rows.slot_tuple_getitem ht.typeIs PyProof.Rows.entry_tuple_getitem ?_ (PyProof.Rows.args_tuple_getitem _ _)))
  show wpAny _ _ (Builtin.Tuple.tupleItemsOf (.ref t) >>= _) _ _ s
  refine wpAny_bind (PyProof.Rows.tupleItemsOf_ ht ?_)
  refine wpAny_bind (wpAny_typeOf hTs ?_)
  rw [if_pos (by decide)]
  refine wpAny_bind (applied_rev (hi := none) all hs pl pu ps ?_)
  have hno : ¬ ((((items.size : Int) - 1) == 0 && (-1 : Int) == 1 && (if all then items.size else items.size - 1) == items.size) = true) := by
    intro q
    rw [Bool.and_eq_true, Bool.and_eq_true] at q
    exact absurd q.1.2 (by decide)
  show wpAny _ _ (if (((items.size : Int) - 1) == 0 && (-1 : Int) == 1 && (if all then items.size else items.size - 1) == items.size) = true then _ else _) _ _ s
  have hp : ((List.range (if all then items.size else items.size - 1)).filterMap fun (k : Nat) => items[((items.size : Int) - 1 + (k : Int) * (-1)).toNat]?) = rvL all items.toList := by
    rw [rev_pick _ _ (by split <;> omega), ← rvL_take, Array.length_toList]
  rw [if_neg hno, hp]
  first
    | exact wpAny_bind (m := Builtin.Tuple.tupleExact _) (wpAny_newObj_type (wpAny_pure ⟨_, rfl, wpAny_pure h⟩) htake)
    | exact wpAny_bind (m := Builtin.Tuple.tupleExact _) (wpAny_newObj_type (wpAny_bind (wpAny_pure (wpAny_pure ⟨_, rfl, wpAny_pure h⟩))) htake)
    | exact wpAny_bind (wpAny_bind (m := Builtin.Tuple.tupleExact _) (wpAny_newObj_type (wpAny_pure (wpAny_pure ⟨_, rfl, wpAny_pure h⟩)) htake))
    | exact wpAny_bind (wpAny_bind (m := Builtin.Tuple.tupleExact _) (wpAny_newObj_type (wpAny_pure ⟨_, rfl, wpAny_pure h⟩) htake))
theorem slicePick_rev (all : Bool) (items : Array Value) : slicePick items none (if all then none else some 0) (some (-1)) = (rvL all items.toList).toArray := by
  cases all with
  | true =>
    show slicePick items none none (some (-1)) = _
    rw [PySem.W.krv_pick]
    rfl
  | false =>
    show slicePick items none (some 0) (some (-1)) = _
    have b : sliceBounds none (some 0) (some (-1)) items.size = ((items.size : Int) - 1, max (-1) (min 0 ((items.size : Int) - 1)), -1) := by
      unfold sliceBounds
      simp
    unfold slicePick
    rw [b]
    congr 1
    rw [← rvL_take false, ← rev_pick _ _ (by simp), Array.length_toList]
    unfold sliceRange
    have h1 : ¬ ((-1 : Int) > 0) := by decide
    simp only [h1, if_false, List.filterMap_map]
    by_cases h : (items.size : Int) - 1 > max (-1) (min 0 ((items.size : Int) - 1))
    · rw [if_pos h]
      have e : (((items.size : Int) - 1 - max (-1) (min 0 ((items.size : Int) - 1)) - -1 - 1) / (- -1)).toNat = items.size - 1 := by
        rw [show (- -1 : Int) = 1 by decide, Int.ediv_one]
        omega
      rw [e]
      refine congrArg (fun f => List.filterMap f _) (funext fun k => ?_)
      have e2 : (items.size : Int) - 1 + -1 * (k : Int) = (items.size : Int) - 1 + (k : Int) * -1 := by omega
      show items[((items.size : Int) - 1 + -1 * (k : Int)).toNat]? = _
      rw [e2]
    · rw [if_neg h]
      have e : items.size - 1 = 0 := by omega
      simp [e]
end
section
variable {X : Cx} {l : Expr} {pos p1 p2 p3 : Pos} {kk : Nat}
theorem pe_rv {te : TE} (all : Bool) {hi : Option Expr} (hh : PO X hi fun _ H Q => Q (if all then none else some 0) H) (he : PE X l te) :
    PE X (.Subscript l (.Slice none hi (some (.UnaryOp .USub (.Constant (.int 1) kk p1) p2)) p3) pos) (fun σ H Q => te σ H fun x H1 => ∃ d, Cur X.K H1 d x ∧ rvP all d (Giv X.K H1 Q)) := by
  refine ⟨fun pins s σ H Q I h => ?_⟩
  refine Subscript_ (thn (he.run pins s σ H _ I h) fun v s1 ⟨x, H1, I1, r1, q1⟩ => ?_)
  obtain ⟨d, cd, q⟩ := q1
  have hst : PO X (some (.UnaryOp .USub (.Constant (.int 1) kk p1) p2)) (tPart (tUn (rU fun i => .int (-i)) (tC (.int 1)))) := po_some (pe_un un_neg pe_int)
  refine wpAny_Slice (thn (po_none.run pins s1 σ H1 (fun o H2 => o = none ∧ H2 = H1) I1 ⟨rfl, rfl⟩) fun vl s2 ⟨l', H2, I2, pl, el, e2⟩ => ?_)
  subst el e2
  refine thn (hh.run pins s2 σ H2 (fun o H3 => o = (if all then none else some 0) ∧ H3 = H2) I2 ⟨rfl, rfl⟩) fun vu s3 ⟨u, H3, I3, pu, eu, e3⟩ => ?_
  subst eu e3
  refine thn (hst.run pins s3 σ H3 (fun o H4 => o = some (-1) ∧ H4 = H3) I3 ⟨1, rfl, -1, rfl, rfl, rfl⟩) fun vs s4 ⟨o, H4, I4, ps, eo, e4⟩ => ?_
  subst eo e4
  have I5 : Inv X pins σ H4 { s4 with heap := s4.heap.push { cls := .type "slice", data := .fields #[vl, vu, vs] } } := I4.kept (t' := s4.toks) fun b ob q => Heap.get?_push_of_some _ q
  cases d <;> try exact (show False from q).elim
  · rename_i ds
    obtain ⟨a, xs, rfl, ha, ra⟩ := cd
    cases r1
    obtain ⟨z, its, n, rv, hl, e⟩ := lstR I5 ha
    have hil : Heap.IsList (s4.heap.push { cls := .type "slice", data := .fields #[vl, vu, vs] }) a its.toArray := ⟨_, e, rfl, n, rfl⟩
    show wpAny (model X.prog X.w) X.A (subscriptTail l (.Slice none hi (some (.UnaryOp .USub (.Constant (.int 1) kk p1) p2)) p3) (.ref a) (.ref s4.heap.objs.size)) (EP X pins σ Q) X.xe { s4 with heap := s4.heap.push { cls := .type "slice", data := .fields #[vl, vu, vs] } }
    refine tail_any (ops := [.ref a, .ref s4.heap.objs.size]) hil.typeIs (PySem.slot_list_getitem.lookup) ?_ (by with_unfolding_all rfl)
    refine wpAny_getItem_list_slice hil (Heap.IsSliceOf.new _ vl vu vs) pl pu ps (by decide) ?_ (by rw [List.size_toArray]; omega)
    rw [slicePick_rev]
    exact ep_list (t' := s4.toks) I5 (Vals.rv all rv) (ra.rv all) (Nat.le_trans (rvL_len all xs) z) q
  · rename_i ds
    obtain ⟨a, xs, rfl, ha, ra⟩ := cd
    cases r1
    obtain ⟨its, rv, ht, hz⟩ := I5.tuple ha
    show wpAny (model X.prog X.w) X.A (subscriptTail l (.Slice none hi (some (.UnaryOp .USub (.Constant (.int 1) kk p1) p2)) p3) (.ref a) (.ref s4.heap.objs.size)) (EP X pins σ Q) X.xe { s4 with heap := s4.heap.push { cls := .type "slice", data := .fields #[vl, vu, vs] } }
    refine tail_any (ops := [.ref a, .ref s4.heap.objs.size]) ht.typeIs PyProof.Rows.slot_tuple_getitem.lookup ?_ (by with_unfolding_all rfl)
    refine getItem_tuple_rev all ht (Heap.IsSliceOf.new _ vl vu vs) pl pu ps ?_ (by rw [List.size_toArray, ← rv.length]; exact hz)
    exact ep_tup (t' := s4.toks) I5 (Vals.rv all rv) (ra.rv all) (Nat.le_trans (rvL_len all xs) hz) q
end
section
variable {c : Cfg} {Φ : Phi} {n : Nat} {xr : XR} {X : Cx} {W : WX} {l : Expr} {a : Ex} {pos p1 p2 p3 : Pos} {kk : Nat}
theorem snd_rv (all : Bool) {hi : Option Expr} (hh : (if all then hi.isNone else isZero hi) = true) (ha : PE X l (rX Φ xr W X.K a)) : PE X (.Subscript l (.Slice none hi (some (.UnaryOp .USub (.Constant (.int 1) kk p1) p2)) p3) pos) (rE Φ xr W X.K (.rv all a)) := by
  have go : PO X hi fun _ H Q => Q (if all then none else some 0) H := by
    cases all with
    | true =>
      cases hi with
      | none => exact po_none
      | some e => cases hh
    | false =>
      have hh : isZero hi = true := hh
      unfold isZero at hh
      split at hh
      · rename_i i _ _
        obtain rfl := eq_of_beq hh
        refine ⟨fun pins s σ H Q I h => (po_some pe_int).run pins s σ H Q I ⟨0, rfl, h⟩⟩
      · cases hh
  exact peI (pe_rv all go ha) fun σ H Q ⟨G, ρ, S, E, P, R, w, post, ex⟩ => ⟨G, ρ, S, E, _, R, w, fun y ρ1 S1 u H1 p1 R1 r1 l1 => by
    obtain ⟨d, cd, p⟩ := con_sound R1 p1 r1
    exact ⟨d, cd, rvP_mono (fun r q v H' sm rp => post (.d r) _ _ v _ q (R1.ext sm) rp (l1.trans (Le.of_same sm))) p⟩, ex⟩
theorem snd_fncS (o : CxOk c Φ n xr X W) {f : Bf} {x : Str} (hf : bfNew f = true) (hx : (x == bfN f) = true) (bx : bltB c x = true) (hl : nst l = true) (ha : PE X l (rX Φ xr W X.K a)) : PE X (.Call (.Name x p1) [l] [] pos) (rE Φ xr W X.K (.fncS f a)) := by
  obtain rfl := eq_of_beq hx
  obtain ⟨g, hm, hd, hn⟩ := o.bltn bx
  have go : ∀ σ H Q, rE Φ xr W X.K (.fncS f a) σ H Q → tCB (fun xs H Q => ∃ x d, xs = [x] ∧ Cur X.K H d x ∧ bfP f d fun r => asL r (NewL X.K H Q)) (tCons (rX Φ xr W X.K a) tNil) σ H Q := fun σ H Q ⟨G, ρ, S, E, P, R, w, post, ex⟩ => ⟨G, ρ, S, E, _, R, w, fun y ρ1 S1 u H1 p1 R1 r1 l1 => by
    obtain ⟨d, cd, p⟩ := con_sound R1 p1 r1
    refine ⟨u, d, rfl, cd, bfP_mono (fun r q => asL_mono (fun ys z p vs hp rr => ?_) q) p⟩
    have le : Le H1 (upd H1 p (.lst vs)) := Le.new hp
    exact post (.r p) _ _ (.ref p) _ (z p (R1.free hp).1) (R1.storeNew hp ⟨vs, upd_same, Reps.le le _ rr⟩) rfl (l1.trans le), ex⟩
  have op := opNew (X := X) o.calm f hf
  have bt := boot_bf f
  have pa := pa_one (Φ := Φ) (xr := xr) (W := W) (a := a) hl ha
  cases f <;> try (cases hf; done)
  case list => exact peI (pe_callTy op g hm bt pa hn hd (star_cons hl) rfl) go
  case sorted => exact peI (pe_callB op g hm bt pa hn hd (star_cons hl) rfl) go
end
theorem and_of' {a b : Bool} (h : (a && b) = true) : a = true ∧ b = true := Bool.and_eq_true_iff.mp h
section
variable {c : Cfg} {Φ : Phi} {n : Nat} {xr : XR} {X : Cx} {W : WX} {r : Expr} {es : List Expr} {as : List Ex} {pos : Pos}
/-! ### an element of a list of defs, called -/
theorem names_vals (o : CxOk c Φ n xr X W) : ∀ {fs : List Str} {es : List Expr}, fnsB c fs es = true → ∃ as : List Addr, as.length = fs.length ∧ (∀ (i : Nat) (f : Str), fs[i]? = some f → ∃ fa fd ps, as[i]? = some fa ∧ FnAt X xr n f (Φ f) fa fd ps) ∧ PA X es (fun σ H Q => Q (as.map V.ref) H)
  | [], [], _ => ⟨[], rfl, fun i f h => by simp at h, paI pa_nil fun σ H Q h => h⟩
  | [], _ :: _, h => nomatch h
  | f :: fs, [], h => nomatch h
  | f :: fs, .Name x p :: es, h => by
    have h : (x == f && gloB c x && c.fns.contains x && fnsB c fs es) = true := h
    obtain ⟨h, h4⟩ := and_of' h
    obtain ⟨h, h3⟩ := and_of' h
    obtain ⟨h1, h2⟩ := and_of' h
    obtain rfl := eq_of_beq h1
    obtain ⟨as, hl, hg, pa⟩ := names_vals o h4
    obtain ⟨g, dd, _⟩ := o.glo h2
    obtain ⟨fa, fd, ps, F⟩ := o.fns x h3
    refine ⟨fa :: as, by rw [List.length_cons, List.length_cons, hl], fun i f hi => ?_, paI (pa_cons (pe_glob (v := .ref fa) g F.mg rfl dd) pa (star_cons rfl)) fun σ H Q h => h⟩
    cases i with
    | zero =>
      simp only [List.getElem?_cons_zero, Option.some.injEq] at hi
      subst hi
      exact ⟨fa, fd, ps, rfl, F⟩
    | succ i =>
      obtain ⟨fa', fd', ps', e, F'⟩ := hg i f (by simpa using hi)
      exact ⟨fa', fd', ps', by simpa using e, F'⟩
theorem fnP_of {fs : List Str} {d : PyData} {Q : Str → Prop} (h : fnP fs d Q) : ∃ k f, d = .int k ∧ L2.atI fs k = some f ∧ Q f := by
  cases d <;> try exact (show False from h).elim
  rename_i k
  have h' : (match L2.atI fs k with
    | some f => Q f
    | none => False) := h
  split at h'
  · exact ⟨k, _, rfl, by assumption, h'⟩
  · exact h'.elim
theorem atI_refs {as : List Addr} {fs : List Str} {k : Int} {f : Str} (hl : as.length = fs.length) (h : L2.atI fs k = some f) : ∃ i : Nat, fs[i]? = some f ∧ L2.atI (as.map V.ref) k = (as[i]?).map V.ref := by
  unfold L2.atI at h ⊢
  rw [List.length_map, hl]
  cases q : L2.ixN fs.length k with
  | none => rw [q] at h; cases h
  | some i =>
    rw [q] at h
    exact ⟨i, h, by simp⟩
theorem snd_callL (o : CxOk c Φ n xr X W) {fs : List Str} {ns : List Expr} {i : Ex} {lp sp : Pos} (h1 : fnsB c fs ns = true) (hle : fs.length ≤ 16) (h2 : nsl r = true) (pi : PE X r (rE Φ xr W X.K i)) (hs : es.all nst = true) (hne : es ≠ []) (ha : PA X es (rAs Φ xr W X.K as)) :
    PE X (.Call (.Subscript (.List ns lp) r sp) es [] pos) (rE Φ xr W X.K (.callL fs i as)) := by
  refine ⟨fun pins s σ H Q I ⟨G, ρ, S, E, P, R, w, post, ex⟩ => ?_⟩
  have w : wpE Φ E i ρ S fun v ρ1 S1 => isD v fun d => fnP fs d fun f => wpAs Φ E as ρ1 S1 fun vs ρ2 S2 => Φ f vs S2 (fun v S3 => P v ρ2 S3) fun x S3 => E x ρ2 S3 := w
  obtain ⟨ads, hl, hget, hpa⟩ := names_vals o h1
  have hL := pe_fz (pe_lst (pos := lp) hpa)
  have hc := pe_ix (pos := sp) (ix_list (X := X)) hL pi fun _ _ => by cases r <;> first | rfl | cases h2
  have hz : (ads.map V.ref).length ≤ sizeLine := by
    have := sizeLine_eq
    rw [List.length_map]
    omega
  refine Call_ (thn (hc.run pins s σ H (fun u H1 => ∃ fa f fd ps ρ1 S1, u = V.ref fa ∧ FnAt X xr n f (Φ f) fa fd ps ∧ Rel X.K G ρ1 S1 σ H1 ∧ Le H H1 ∧ wpAs Φ E as ρ1 S1 fun vs ρ2 S2 => Φ f vs S2 (fun v S3 => P v ρ2 S3) fun x S3 => E x ρ2 S3) I
    ⟨hz, fun q hq => ⟨q, _, rfl, upd_same, trivial, fun ob => ?_⟩⟩) fun u s1 ⟨y, H1, I1, ry, fa, f, fd, ps, ρ1, S1, ey, F, R1, l1, w1⟩ => ?_) rfl
  · rw [upd_upd]
    have le : Le H (upd H q (.frz ob (.lst (ads.map V.ref)))) := Le.new hq
    refine ⟨G, ρ, S, E, _, R.ext (Same.upd hq), w, fun v ρ1 S1 u H2 p R1 rv l1 => ?_, ex.le le⟩
    obtain ⟨d, rfl, p⟩ := isD_of p
    obtain ⟨k, f, rfl, hk, p⟩ := fnP_of p
    obtain ⟨j, hj, ej⟩ := atI_refs hl hk
    obtain ⟨fa, fd, ps, ea, F⟩ := hget j f hj
    rw [ea] at ej
    exact ⟨q, ads.map V.ref, k, .ref fa, rfl, rv, .inl (.inr ⟨ob, l1.frz _ _ _ upd_same⟩), ej, fa, f, fd, ps, ρ1, S1, rfl, F, R1, le.trans l1, p⟩
  · subst ey
    obtain rfl : u = Value.ref fa := ry
    cases es with
    | nil => exact absurd rfl hne
    | cons e es =>
      rw [List.all_cons, Bool.and_eq_true] at hs
      have hA := ha.run pos pins s1 σ H1 (fun xs H2 => ∃ vs ρ2 S2, RepVs X.K H2 vs xs ∧ Rel X.K G ρ2 S2 σ H2 ∧ Le H H2 ∧ Φ f vs S2 (fun v S3 => P v ρ2 S3) (fun y S3 => E y ρ2 S3)) I1
        ⟨G, ρ1, S1, E, _, R1, w1, fun vs ρ2 S2 us H2 p2 R2 rp l2 => ⟨vs, ρ2, S2, rp, R2, l1.trans l2, p2⟩, ex.le l1⟩
      refine PySem.W.callWith_K (h₀ := X.base) I1.ok.mod.kin F.keep (thn hA fun us s2 ⟨xs, H2, I2, rv, vs, ρ2, S2, rp, R2, l2, w2⟩ => ⟨I2.kIn, ?_⟩) (star_cons hs.1) (star_plain hs.2)
      refine thn (run_fnG F o.room o.gd o.tk I2 rv rp (Step.start R2) w2 fun cls od H' z => ?_) fun u s3 q => ep_imp q fun v H3 ⟨v', S3, rv3, T, p3⟩ => ?_
      · obtain ⟨y, S3, hx, T, he⟩ := z
        exact ex y ρ2 S3 cls od H' he (R2.called T) hx (l2.trans (Step.le R2 T))
      · exact post v' ρ2 S3 v H3 p3 (R2.called T) rv3 (l2.trans (Step.le R2 T))
end
end Lk
/-! D7: what a loop walks. -/
namespace Lk
open PySem PySem.Spec PyProof.Rows L2
open AutoSeq1 (wpAny_loadPart')
/-! ### enumerate(tuple) -/
theorem meets_enumT (l : Addr) (items : Array Value) (k : Nat) (dct : Option Addr) (sl : Array (Option Value)) :
    Meets (Builtin.«enumerate.__new__» ⟨[.type "enumerate", .ref l], []⟩) (fun _ R s => s.heap.get? l = some { cls := .type "tuple", dict := dct, data := .seq items k, slots := sl } ∧
      R (.ok (.ret (.ref (s.heap.push { cls := .type "tuple_iterator", data := .fields #[.ref l, .int 0 0] }).objs.size)))
        { s with heap := (s.heap.push { cls := .type "tuple_iterator", data := .fields #[.ref l, .int 0 0] }).push { cls := .type "enumerate", data := .fields #[.none, .bool false, .ref s.heap.objs.size, rawInt 0, .none, .none] } }) :=
  .of_wp fun prog w A R s hw => by
    obtain ⟨hp, g, d, tk, os⟩ := s
    obtain ⟨hl, hw⟩ := hw
    have hsb := sub_enumerate
    have hT : Heap.IsTuple (Shared.heap ⟨hp, g, d, tk, os⟩) l items := ⟨_, hl, rfl, k, rfl⟩
    wp_walk using wpAny_loadPart' hl
    refine wpAny_stack_any fun st => wpAny_pure ?_
    split
    · rename_i q _ _ _ _ _
      cases (q == Value.type "enumerate")
      all_goals
        wp_walk using wpAny_loadPart' hl, wpAny_pyIter_tuple hT
        exact ⟨_, rfl, hw⟩
    · wp_walk using wpAny_loadPart' hl, wpAny_pyIter_tuple hT
      exact ⟨_, rfl, hw⟩
section
variable {prog : Program} {w : World} {A : Around} {E : Value → Shared → Prop} {s : Shared}
theorem call_enumT {l : Addr} {items : Array Value} {Q : Value → Shared → Prop} (hL : IsTup s.heap l items)
    (hq : ∀ h', IsEnum h' (s.heap.objs.size + 1) s.heap.objs.size 0 .none → h'.IsTupleIter s.heap.objs.size l 0 → h'.objs.size = s.heap.objs.size + 2 →
      (∀ b o, s.heap.get? b = some o → h'.get? b = some o) → Q (.ref (s.heap.objs.size + 1)) { s with heap := h' }) :
    wpAny (model prog w) A (call (.type "enumerate") [.ref l]) Q E s := by
  obtain ⟨⟨q, dct, dt, sl⟩, hl, hc, k, hd⟩ := hL
  replace hc : q = .type "tuple" := hc
  replace hd : dt = .seq items k := hd
  subst hc hd
  refine callType_new F.called_enumerate (by decide) (F.typeCall_enumerate_1 _) (F.newCall_enumerate_1 _) (fun obj => F.args_object_init_2 obj _) F.entry_enumerate_new (meets_enumT l items k dct sl) ⟨hl, ?_⟩
  have hz : (s.heap.push { cls := .type "tuple_iterator", data := .fields #[.ref l, .int 0 0] }).objs.size = s.heap.objs.size + 1 := Heap.size_push ..
  show _ ∧ _
  rw [hz]
  have he : IsEnum ((s.heap.push { cls := .type "tuple_iterator", data := .fields #[.ref l, .int 0 0] }).push
      { cls := .type "enumerate", data := .fields #[.none, .bool false, .ref s.heap.objs.size, rawInt 0, .none, .none] }) (s.heap.objs.size + 1) s.heap.objs.size 0 .none := by
    have e := Heap.get?_push_size (s.heap.push { cls := .type "tuple_iterator", data := .fields #[.ref l, .int 0 0] })
      (o := { cls := .type "enumerate", data := .fields #[.none, .bool false, .ref s.heap.objs.size, rawInt 0, .none, .none] }) rfl
    rw [hz] at e
    exact e
  exact ⟨⟨_, he, rfl⟩, hq _ he ⟨_, Heap.get?_push_of_some _ (Heap.get?_push_size _ rfl), rfl, rfl⟩ (by rw [Heap.size_push, hz]) fun b o z => Heap.get?_push_of_some _ (Heap.get?_push_of_some _ z)⟩
end
/-- the tuple at a, each item in a new pair -/
def ItEt (K : PySem.W.Frag) (a : Addr) : It :=
  ⟨fun i H => ∃ (xs : List V) (x : V), SqT K H a xs ∧ xs[i]? = some x, fun i H v H' => ∃ T x, v = .ref T ∧ H T = none ∧ H' = upd H T (.tup [.int (i : Nat), x]) ∧ ∀ xs, SqT K H a xs → xs[i]? = some x, fun i H => ∃ xs : List V, SqT K H a xs ∧ xs.length ≤ i⟩
theorem turn_enumT {P : Program} {w : World} {K : PySem.W.Frag} {elts : List Expr} {kk : Nat} {tpos : Pos} (a e it : Addr) :
    Turn P w K (.Tuple elts kk tpos) (ItEt K a) [e, it] e (fun i h => (∃ old, IsEnum h e it ((i : Nat) : Int) old) ∧ h.IsTupleIter it a i ∧ e ≠ it) where
  mem := by simp
  obj := fun i h st b hb => by
    obtain ⟨⟨old, he⟩, ⟨o, ho, hc, hd⟩, _⟩ := st
    rcases List.mem_cons.mp hb with z | z
    · rw [z]; exact ⟨_, he, fun v q => nomatch q⟩
    · rw [List.mem_singleton.mp z]; exact ⟨o, ho, fun v q => by rw [hd] at q; cases q⟩
  keep := fun i h h' st k => by
    obtain ⟨⟨old, he⟩, hi, hne⟩ := st
    exact ⟨⟨old, k e (by simp) _ he⟩, hi.at fun o q => k it (by simp) o q, hne⟩
  item := by
    intro X hP hw hK hc i pins s σ H E I hf st hg
    subst hP hw hK
    obtain ⟨⟨old, he⟩, hit, hne⟩ := st
    obtain ⟨xs, x, hq, hx⟩ := hg
    obtain ⟨its, rv, p, hz⟩ := I.tuple hq
    have hil : i < its.toArray.size := by
      have e1 := (List.getElem?_eq_some_iff.mp hx).1
      rw [List.size_toArray, ← rv.length]
      exact e1
    have hel : e < s.heap.objs.size := Heap.lt_size he
    have hitl : it < s.heap.objs.size := by obtain ⟨_, q, _⟩ := hit; exact Heap.lt_size q
    have ptu : s.heap.IsTuple a its.toArray := p
    have hea : e ≠ a := fun z => by
      obtain ⟨oa, ha, hca, _⟩ := p
      rw [← z, show s.heap.get? e = some _ from he] at ha
      cases ha
      simp at hca
    have hia : a ≠ it := fun z => by
      obtain ⟨oa, ha, hca, _⟩ := p
      obtain ⟨oi, hi', hci, _⟩ := id hit
      rw [z, hi'] at ha
      cases ha
      rw [hci] at hca
      simp at hca
    refine wpAny_pyNext_enum_itemD (Draws.tuple (prog := X.prog) (w := X.w) (A := X.A.in1) (I.ok.hd hc) it a hia its.toArray) he ⟨hit, ptu⟩ hil hne (by simp [hne, hea]) fun u h' tk hu ho hit' hT hsz hk => ?_
    have hu : its.toArray[i]? = some u := hu
    obtain ⟨u', hu', ru⟩ := rv.get hx
    have eu : u' = u := by
      rw [List.getElem?_toArray, hu'] at hu
      exact Option.some.inj hu
    subst eu
    refine ⟨_, rfl, wpAny_letOwnedTupleGo_enum (s := { s with heap := h', toks := tk + 1 }) ho fun h'' he' sb => ?_⟩
    have hT2 : h''.get? s.heap.objs.size = some { cls := .type "tuple", data := .seq #[.int i tk, u'] } := (sb.2 _ (Nat.ne_of_gt hel)).trans hT
    have new : ObjOk X.prog X.w (upd H s.heap.objs.size (.tup [.int (i : Nat), x])) h'' s.heap.objs.size (.tup [.int (i : Nat), x]) :=
      ⟨by show 2 ≤ sizeLine; decide, [.int i tk, u'], .cons ⟨_, rfl⟩ (.cons ru .nil), ⟨_, hT2, rfl, _, rfl⟩⟩
    have I1 : Inv X pins σ (upd H s.heap.objs.size (.tup [.int (i : Nat), x])) { s with heap := h'', toks := tk + 1 } :=
      I.turnedNew (ch := [e, it]) (fun b ob hb q => by
        have b1 : b ≠ e := fun z => hb (by simp [z])
        have b2 : b ≠ it := fun z => hb (by simp [z])
        exact (sb.2 b b1).trans (hk b ob b1 b2 q)) hf (Nat.le_refl _) new
    refine ⟨.ref s.heap.objs.size, _, I1, rfl, ⟨_, x, rfl, I.hok.fresh (Nat.le_refl _), rfl, fun ys hy => by rw [I.tuple_inj hy hq]; exact hx⟩, ⟨⟨u', ?_⟩, hit'.1.at fun o q => (sb.2 it (Ne.symm hne)).trans q, hne⟩, fun b hb => ?_⟩
    · have e1 : ((i + 1 : Nat) : Int) = (i : Int) + 1 := by omega
      rw [e1]
      exact he'
    · have hb' : b < s.heap.objs.size := by
        rcases List.mem_cons.mp hb with z | z
        · rw [z]; exact hel
        · rw [List.mem_singleton.mp z]; exact hitl
      rw [upd_ne (Nat.ne_of_lt hb')]
      exact (hf b hb).1
  done := by
    intro X hP hw hK hc i pins s σ H E I hf st hg
    subst hP hw hK
    obtain ⟨⟨old, he⟩, hit, hne⟩ := st
    obtain ⟨xs, hq, hx⟩ := hg
    obtain ⟨its, rv, p, hz⟩ := I.tuple hq
    obtain ⟨f0, f1, f2, f3, f4, f5⟩ := hf it (by simp)
    have hl := rv.length
    have ptu : s.heap.IsTuple a its.toArray := p
    have hT : s.TypeIs (.ref e) "enumerate" := ⟨_, he, rfl⟩
    unfold pyNext
    refine wpAny_bind (wpAny_attempt (wpAny_callSpecial?_slot (name := Str.ofString "__next__") hT F.slot_enumerate_next (wpAny_call_entry F.slot_enumerate_next hT F.entry_enumerate_next ?_ (F.args_enumerate_next_1 _))))
    show wpAny _ _ (field (.ref e) 2 >>= _) _ _ _
    refine wpAny_bind (wpAny_field he rfl (x := .ref it) rfl ?_)
    refine wpAny_bind (wpAny_nextOf_tuple_end (I.ok.hd hc) hit ptu (by simp; omega) fun h' y eb hy => ?_)
    obtain ⟨o, ho, hcls⟩ := hy
    refine wpAny_bind (wpAny_isInstance (T := "StopIteration") (b := true) ⟨o, ho, hcls⟩ isSubtype_stop ?_)
    exact wpAny_pure ⟨rfl, I.turned (t' := s.toks) (fun b o hb q => eb b o hb q) f0 f1 f3 f4 f5⟩
  self := fun A i s Q E st h => by
    obtain ⟨⟨_, he⟩, _⟩ := st
    exact wpAny_pyIter_enum he h
end Lk
/-! DZ: list(zip(a, b)). -/
namespace Lk
open PySem PySem.Spec PyProof.Rows L2
open Sem (wp)
/-- a zip whose last pair somebody holds -/
abbrev ZipHeld (h : Heap) (z TI TO a : Addr) (f : Bool) : Prop := h.get? z = some { cls := .type "zip", dict := none, data := .fields #[rawInt a, .bool f, .bool false, .ref TI, .ref TO], slots := #[] }
section
variable {prog : Program} {w : World} {A : Around} {E : Value → Shared → Prop} {s : Shared} {z TI TO i1 i2 a : Addr} {fp1 fp2 : List Addr} {n1 n2 i : Nat} {P1 P2 : Nat → Value → Prop} {St1 St2 : Nat → Heap → Prop} {f : Bool} {oa : Obj}
theorem held_free {Q : Bool → Shared → Prop} (hz : ZipHeld s.heap z TI TO a f) (ha : s.heap.get? a = some oa) (hQ : ∀ h', ZipHeld h' z TI TO a true → Heap.SameBut z s.heap h' → Q false { s with heap := h' }) :
    wpAny (model prog w) A (Builtin.SmallTypes.ownedTupleIsFree (.ref z)) Q E s := by
  unfold Builtin.SmallTypes.ownedTupleIsFree
  refine wpAny_bind (wpAny_field hz rfl (x := rawInt a) rfl ?_)
  show wpAny _ _ (loadIfAlive ((a : Int).toNat) >>= _) _ _ _
  rw [Int.toNat_natCast]
  have alive : ∀ {R : Option Obj → Shared → Prop} {E' : Value → Shared → Prop}, R (some oa) s → wpAny (model prog w) A (loadIfAlive a) R E' s := fun {R E'} r => by
    have r' : R (s.heap.get? a) s := by rw [ha]; exact r
    exact fun _ _ _ => r'
  refine wpAny_bind (alive ?_)
  simp only [Option.isNone_some, Bool.false_eq_true, if_false]
  refine wpAny_bind (wpAny_field hz rfl (x := .bool f) rfl ?_)
  cases f with
  | true =>
    rw [if_neg (show ¬ ((Value.bool true != Value.bool true) = true) from Bool.false_ne_true)]
    exact wpAny_pure (hQ s.heap hz (Heap.SameBut.refl _ _))
  | false =>
    rw [if_pos (show (Value.bool false != Value.bool true) = true from rfl)]
    refine wpAny_bind (wpAny_setField_rec hz (by simp) fun g hg hs => ?_)
    exact wpAny_pure (hQ g hg hs)
theorem held_item {Q : Value → Shared → Prop} (S : ZipSep2 z TI TO i1 i2 fp1 fp2) (D1 : Draws prog w A i1 fp1 n1 P1 St1) (D2 : Draws prog w A i2 fp2 n2 P2 St2)
    (hz : ZipHeld s.heap z TI TO a f) (hTI : IsTupOf2 s.heap TI (.ref i1) (.ref i2)) (ha : s.heap.get? a = some oa) (st1 : St1 i s.heap) (st2 : St2 i s.heap) (h1 : i < n1) (h2 : i < n2)
    (hQ : ∀ x1 x2 h' tk, P1 i x1 → P2 i x2 → ZipHeld h' z TI TO a true → St1 (i + 1) h' → St2 (i + 1) h' → IsTupOf2 h' s.heap.objs.size x1 x2 → h'.objs.size = s.heap.objs.size + 1 →
      (∀ c o, c ≠ z → c ≠ i1 → c ≠ i2 → s.heap.get? c = some o → h'.get? c = some o) → Q (.ref s.heap.objs.size) { s with heap := h', toks := tk }) :
    wpAny (model prog w) A (Builtin.«zip.__next__» ⟨[.ref z], []⟩) (fun fin s' => ∃ v, fin = .done (.ret v) ∧ Q v s') E s := by
  obtain ⟨hp, g, d, tk0, os⟩ := s
  show wpAny _ _ (field (.ref z) 2 >>= _) _ _ _
  refine wpAny_bind (wpAny_field hz rfl (x := .bool false) rfl ?_)
  show wpAny _ _ (field (.ref z) 3 >>= _) _ _ _
  refine wpAny_bind (wpAny_field hz rfl (x := .ref TI) rfl ?_)
  refine wpAny_bind (wpAny_seqItems hTI rfl ?_)
  show wpAny _ _ (Builtin.SmallTypes.ownedTupleIsFree (.ref z) >>= _) _ _ _
  refine wpAny_bind (held_free hz ha fun g0 hz0 hs0 => ?_)
  simp only [Bool.false_eq_true, if_false]
  simp only [← Array.forIn_toList, List.forIn_cons, List.forIn_nil]
  refine wpAny_bind (wpAny_bind (wpAny_bind (wpAny_holding ?_)))
  show wpAny _ _ (Builtin.SmallTypes.nextOf (.ref i1) >>= _) _ _ ⟨g0, g, d, tk0, os⟩
  refine wpAny_bind (D1.item i _ _ _ h1 (D1.over st1 hs0 S.zf1) fun x1 p1 tk1 hx1 sn1 hp1 => wpAny_pure ?_)
  replace hp1 : Heap.SameBut i1 g0 p1 := hp1
  refine wpAny_pure ?_
  refine wpAny_bind (wpAny_bind (wpAny_holding ?_))
  show wpAny _ _ (Builtin.SmallTypes.nextOf (.ref i2) >>= _) _ _ ⟨p1, g, d, tk1, os⟩
  refine wpAny_bind (D2.item i _ _ _ h2 (D2.over (D2.over st2 hs0 S.zf2) hp1 S.sep1_2) fun x2 p2 tk2 hx2 sn2 hp2 => wpAny_pure ?_)
  replace hp2 : Heap.SameBut i2 p1 p2 := hp2
  refine wpAny_pure ?_
  refine wpAny_pure ?_
  show wpAny _ _ (newTuple [x1, x2] >>= _) _ _ ⟨p2, g, d, tk2, os⟩
  refine wpAny_bind (wpAny_newTuple ?_)
  have hsz : p2.objs.size = hp.objs.size := by rw [hp2.1, hp1.1, hs0.1]
  have up : ∀ c o, c ≠ z → c ≠ i1 → c ≠ i2 → hp.get? c = some o → (p2.push { cls := .type "tuple", data := .seq #[x1, x2] }).get? c = some o := fun c o cz c1 c2 e =>
    Heap.get?_push_of_some _ (hp2.extBut _ _ c2 (hp1.extBut _ _ c1 (hs0.extBut _ _ cz e)))
  have keep1 : ∀ {n : Nat} {P : Nat → Value → Prop} {St : Nat → Heap → Prop} {it : Addr} {fp : List Addr} {j : Nat}, Draws prog w A it fp n P St → St j p2 → St j (p2.push { cls := .type "tuple", data := .seq #[x1, x2] }) := fun D st =>
    D.frame _ _ _ st fun b _ o e => Heap.get?_push_of_some _ e
  refine wpAny_pure ⟨_, rfl, ?_⟩
  show Q (.ref p2.objs.size) ⟨_, g, d, tk2, os⟩
  rw [hsz]
  refine hQ x1 x2 _ tk2 hx1 hx2 (Heap.get?_push_of_some _ (hp2.extBut _ _ S.zi2 (hp1.extBut _ _ S.zi1 hz0))) (keep1 D1 (D1.over sn1 hp2 S.sep2_1)) (keep1 D2 sn2) ?_ ?_ up
  · show (p2.push _).get? hp.objs.size = _
    rw [← hsz]
    exact Heap.get?_push_size _ rfl
  · rw [Heap.size_push, hsz]
theorem held_end {Q : Fin → Shared → Prop} (S : ZipSep2 z TI TO i1 i2 fp1 fp2) (D1 : Draws prog w A i1 fp1 n1 P1 St1)
    (hz : ZipHeld s.heap z TI TO a f) (hTI : IsTupOf2 s.heap TI (.ref i1) (.ref i2)) (ha : s.heap.get? a = some oa) (st1 : St1 n1 s.heap)
    (hE : ∀ h' e, (∀ c o, c ≠ z → c ≠ i1 → s.heap.get? c = some o → h'.get? c = some o) → (∃ o, h'.get? e = some o ∧ o.cls = .type "StopIteration") → E (.ref e) { s with heap := h' }) :
    wpAny (model prog w) A (Builtin.«zip.__next__» ⟨[.ref z], []⟩) Q E s := by
  obtain ⟨hp, g, d, tk0, os⟩ := s
  show wpAny _ _ (field (.ref z) 2 >>= _) _ _ _
  refine wpAny_bind (wpAny_field hz rfl (x := .bool false) rfl ?_)
  show wpAny _ _ (field (.ref z) 3 >>= _) _ _ _
  refine wpAny_bind (wpAny_field hz rfl (x := .ref TI) rfl ?_)
  refine wpAny_bind (wpAny_seqItems hTI rfl ?_)
  show wpAny _ _ (Builtin.SmallTypes.ownedTupleIsFree (.ref z) >>= _) _ _ _
  refine wpAny_bind (held_free hz ha fun g0 hz0 hs0 => ?_)
  simp only [Bool.false_eq_true, if_false]
  simp only [← Array.forIn_toList, List.forIn_cons, List.forIn_nil]
  refine wpAny_bind (wpAny_bind (wpAny_bind (wpAny_holding ?_)))
  show wpAny _ _ (Builtin.SmallTypes.nextOf (.ref i1) >>= _) _ _ ⟨g0, g, d, tk0, os⟩
  refine wpAny_bind (D1.done _ _ _ (D1.over st1 hs0 S.zf1) fun p1 e hp1 he => ?_)
  exact hE p1 e (fun c o cz c1 x => hp1 _ _ c1 (hs0.extBut _ _ cz x)) he
/-! ### the zip's states, drawn out -/
structure ZState (h : Heap) (z TI TO i1 i2 S : Addr) (St1 St2 : Nat → Heap → Prop) (i : Nat) : Prop where
  ti : IsTupOf2 h TI (.ref i1) (.ref i2)
  st1 : St1 i h
  st2 : St2 i h
  hd : (IsZip h z TI TO .none ∧ ∃ a1 a2, IsTupOf2 h TO a1 a2) ∨ ∃ (a : Addr) (f : Bool) (oa : Obj), ZipHeld h z TI TO a f ∧ h.get? a = some oa ∧ a ≠ z ∧ a ≠ i1 ∧ a ≠ i2 ∧ a ≠ S
theorem zs_item {S' : Addr} {Q : Option Value → Shared → Prop} (S : ZipSep2 z TI TO i1 i2 fp1 fp2) (D1 : Draws prog w A.in1 i1 fp1 n1 P1 St1) (D2 : Draws prog w A.in1 i2 fp2 n2 P2 St2) (st : ZState s.heap z TI TO i1 i2 S' St1 St2 i) (hS' : S' < s.heap.objs.size) (h1 : i < n1) (h2 : i < n2)
    (hQ : ∀ x1 x2 h' tk, P1 i x1 → P2 i x2 → ZState h' z TI TO i1 i2 S' St1 St2 (i + 1) → IsTupOf2 h' s.heap.objs.size x1 x2 → h'.objs.size = s.heap.objs.size + 1 →
      (∀ c o, c ≠ z → c ≠ TO → c ≠ i1 → c ≠ i2 → s.heap.get? c = some o → h'.get? c = some o) → Q (some (.ref s.heap.objs.size)) { s with heap := h', toks := tk }) :
    wpAny (model prog w) A (pyNext (.ref z)) Q E s := by
  obtain ⟨hTI, st1, st2, hd⟩ := st
  have lt : ∀ {c o}, s.heap.get? c = some o → s.heap.objs.size ≠ c := fun e => Nat.ne_of_gt (Heap.lt_size e)
  have l1 : s.heap.objs.size ≠ i1 := by obtain ⟨_, e⟩ := D1.live _ _ st1; exact lt e
  have l2 : s.heap.objs.size ≠ i2 := by obtain ⟨_, e⟩ := D2.live _ _ st2; exact lt e
  rcases hd with ⟨hz, a1, a2, hTO⟩ | ⟨a, f, oa, hz, ha, na, na1, na2, naS⟩
  · refine wpAny_pyNext_zipD2_item S D1 D2 hz hTI hTO st1 st2 h1 h2 fun x1 x2 h' tk y1 y2 b1 b2 d1 d2 b5 b6 hk => ?_
    exact hQ x1 x2 h' tk y1 y2 ⟨hk _ _ S.TIz S.TITO S.TIi1 S.TIi2 hTI, d1, d2, .inr ⟨_, false, _, b1, b5, lt hz, l1, l2, Nat.ne_of_gt hS'⟩⟩ b5 b6 hk
  · have hT : s.TypeIs (.ref z) "zip" := ⟨_, hz, rfl⟩
    unfold pyNext
    refine wpAny_bind (wpAny_attempt (wpAny_callSpecial?_slot (name := Str.ofString "__next__") hT PySem.F.slot_zip_next
      (wpAny_call_entry PySem.F.slot_zip_next hT PySem.F.entry_zip_next (held_item S D1 D2 hz hTI ha st1 st2 h1 h2 fun x1 x2 h' tk y1 y2 b1 d1 d2 b5 b6 hk => ?_) (PySem.F.args_zip_next_1 _))))
    exact wpAny_pure (hQ x1 x2 h' tk y1 y2 ⟨hk _ _ S.TIz S.TIi1 S.TIi2 hTI, d1, d2, .inr ⟨a, true, oa, b1, hk a oa na na1 na2 ha, na, na1, na2, naS⟩⟩ b5 b6 fun c o cz _ c1 c2 e => hk c o cz c1 c2 e)
theorem zs_done {S' : Addr} {Q : Option Value → Shared → Prop} (S : ZipSep2 z TI TO i1 i2 fp1 fp2) (D1 : Draws prog w A.in1 i1 fp1 n1 P1 St1) (D2 : Draws prog w A.in1 i2 fp2 n1 P2 St2) (st : ZState s.heap z TI TO i1 i2 S' St1 St2 n1)
    (hQ : ∀ h' tk, (∀ c o, c ≠ z → c ≠ TO → c ≠ i1 → c ≠ i2 → s.heap.get? c = some o → h'.get? c = some o) → Q none { s with heap := h', toks := tk }) : wpAny (model prog w) A (pyNext (.ref z)) Q E s := by
  obtain ⟨hTI, st1, st2, hd⟩ := st
  rcases hd with ⟨hz, a1, a2, hTO⟩ | ⟨a, f, oa, hz, ha, na, na1, na2, naS⟩
  · exact wpAny_pyNext_zipD2_end S D1 D2 hz hTI hTO st1 st2 (Nat.le_refl _) (Nat.le_refl _) (.inl rfl) hQ
  · have hT : s.TypeIs (.ref z) "zip" := ⟨_, hz, rfl⟩
    unfold pyNext
    refine wpAny_bind (wpAny_attempt (wpAny_callSpecial?_slot (name := Str.ofString "__next__") hT PySem.F.slot_zip_next
      (wpAny_call_entry PySem.F.slot_zip_next hT PySem.F.entry_zip_next (held_end S D1 hz hTI ha st1 fun h' e hk he => ?_) (PySem.F.args_zip_next_1 _))))
    obtain ⟨o, ho, hc⟩ := he
    refine wpAny_bind (wpAny_isInstance (T := "StopIteration") (b := true) ⟨o, ho, hc⟩ isSubtype_stop ?_)
    exact wpAny_pure (hQ h' s.toks fun c o cz _ c1 _ e => hk c o cz c1 e)
theorem ZState.keep {h h' : Heap} {S' : Addr} (S : ZipSep2 z TI TO i1 i2 fp1 fp2) (D1 : Draws prog w A.in1 i1 fp1 n1 P1 St1) (D2 : Draws prog w A.in1 i2 fp2 n2 P2 St2) (st : ZState h z TI TO i1 i2 S' St1 St2 i) (hS : S' ∉ z :: TI :: TO :: (fp1 ++ fp2))
    (hk : ∀ b o, b ≠ S' → h.get? b = some o → h'.get? b = some o) : ZState h' z TI TO i1 i2 S' St1 St2 i := by
  have nz : z ≠ S' := fun e => hS (by rw [← e]; simp)
  have nTI : TI ≠ S' := fun e => hS (by rw [← e]; simp)
  have nTO : TO ≠ S' := fun e => hS (by rw [← e]; simp)
  have nf : ∀ b, b ∈ fp1 ∨ b ∈ fp2 → b ≠ S' := fun b hb e => hS (by rw [← e]; rcases hb with hb | hb <;> simp [hb])
  obtain ⟨hTI, st1, st2, hd⟩ := st
  refine ⟨hk _ _ nTI hTI, D1.frame _ _ _ st1 fun b hb o e => hk b o (nf b (.inl hb)) e, D2.frame _ _ _ st2 fun b hb o e => hk b o (nf b (.inr hb)) e, ?_⟩
  rcases hd with ⟨hz, a1, a2, hTO⟩ | ⟨a, f, oa, hz, ha, na, na1, na2, naS⟩
  · exact .inl ⟨hk _ _ nz hz, a1, a2, hk _ _ nTO hTO⟩
  · exact .inr ⟨a, f, oa, hk _ _ nz hz, hk _ _ naS ha, na, na1, na2, naS⟩
/-! ### the list's tuples -/
structure Tups (P1 P2 : Nat → Value → Prop) (lo : Addr) (h : Heap) (as : List Addr) : Prop where
  rise : as.Pairwise (· < ·)
  above : ∀ t ∈ as, lo < t
  pairs : ∀ (j : Nat) (t : Addr), as[j]? = some t → ∃ x y, P1 j x ∧ P2 j y ∧ IsTupOf2 h t x y
theorem Tups.there {lo : Addr} {h : Heap} {as : List Addr} (g : Tups P1 P2 lo h as) {t : Addr} (ht : t ∈ as) : t < h.objs.size := by
  obtain ⟨j, hj⟩ := List.mem_iff_getElem?.mp ht
  obtain ⟨_, _, _, _, e⟩ := g.pairs j t hj
  exact Heap.lt_size e
theorem zl_loop {S' : Addr} {n : Nat} (hn : n ≤ sizeLine) (S : ZipSep2 z TI TO i1 i2 fp1 fp2) (D1 : Draws prog w A.in1.in1 i1 fp1 n P1 St1) (D2 : Draws prog w A.in1.in1 i2 fp2 n P2 St2) (hS : S' ∉ z :: TI :: TO :: (fp1 ++ fp2)) (hz : z < S') (hTO : TO < S') (hi1 : i1 < S') (hi2 : i2 < S') (res : Value) {h0 : Heap}
    {R : Result → Shared → Prop}
    (hR : ∀ h' tk acc c as, (∀ b o, b ≠ S' → b ≠ z → b ≠ TO → b ≠ i1 → b ≠ i2 → h0.get? b = some o → h'.get? b = some o) → h'.get? S' = some { cls := .type "list", dict := none, data := .seq acc c, slots := #[] } → as.length = n → Tups P1 P2 S' h' as →
      acc.toList = as.map Value.ref → R (.ok (.ret res)) { s with heap := h', toks := tk }) :
    ∀ (k i : Nat) (h : Heap) (tk c : Nat) (acc : Array Value) (as : List Addr), n - i = k → i ≤ n → ZState h z TI TO i1 i2 S' St1 St2 i → (∀ b o, b ≠ S' → b ≠ z → b ≠ TO → b ≠ i1 → b ≠ i2 → h0.get? b = some o → h.get? b = some o) →
      h.get? S' = some { cls := .type "list", dict := none, data := .seq acc c, slots := #[] } → acc.toList = as.map Value.ref → as.length = i → Tups P1 P2 S' h as →
      codeAny (model prog w) A (.builtin "list.extend.loop" ⟨[.ref S', .ref z, res], []⟩) R { s with heap := h, toks := tk } := by
  have nz : S' ≠ z := Nat.ne_of_gt hz
  have nTO : S' ≠ TO := Nat.ne_of_gt hTO
  have n1' : S' ≠ i1 := Nat.ne_of_gt hi1
  have n2' : S' ≠ i2 := Nat.ne_of_gt hi2
  have off : ∀ {b : Addr}, S' < b → b ≠ S' ∧ b ≠ z ∧ b ≠ TO ∧ b ≠ i1 ∧ b ≠ i2 := fun {b} q => ⟨Nat.ne_of_gt q, Nat.ne_of_gt (Nat.lt_trans hz q), Nat.ne_of_gt (Nat.lt_trans hTO q), Nat.ne_of_gt (Nat.lt_trans hi1 q), Nat.ne_of_gt (Nat.lt_trans hi2 q)⟩
  intro k
  induction k with
  | zero =>
    intro i h tk c acc as hk hi hst hkeep hSo hacc hal hG
    have hin : i = n := by omega
    subst hin
    refine codeAny_builtin PySem.F.entry_extend_loop ?_
    rw [Around.under_plainId PySem.F.plain_extend_loop _]
    show wpAny _ A.in1 (pyNext (.ref z) >>= _) _ _ _
    refine wpAny_bind (zs_done (s := { s with heap := h, toks := tk }) S D1 D2 hst fun h' tk' he => ?_)
    refine wpAny_pure (hR h' tk' acc c as (fun b o b0 b1 b2 b3 b4 e => he b o b1 b2 b3 b4 (hkeep b o b0 b1 b2 b3 b4 e)) (he S' _ nz nTO n1' n2' hSo) hal ⟨hG.rise, hG.above, fun j t hj => ?_⟩ hacc)
    obtain ⟨x, y, e1, e2, e3⟩ := hG.pairs j t hj
    obtain ⟨q0, q1, q2, q3, q4⟩ := off (hG.above t (List.mem_of_getElem? hj))
    exact ⟨x, y, e1, e2, he t _ q1 q2 q3 q4 e3⟩
  | succ k ih =>
    intro i h tk c acc as hk hi hst hkeep hSo hacc hal hG
    have hlt : i < n := by omega
    have hsz : acc.size = i := by rw [← Array.length_toList, hacc, List.length_map, hal]
    have hSl : S' < h.objs.size := Heap.lt_size hSo
    refine codeAny_builtin PySem.F.entry_extend_loop ?_
    rw [Around.under_plainId PySem.F.plain_extend_loop _]
    show wpAny _ A.in1 (pyNext (.ref z) >>= _) _ _ _
    refine wpAny_bind (zs_item (s := { s with heap := h, toks := tk }) S D1 D2 hst hSl hlt hlt fun x1 x2 h' tk' y1 y2 hst' ht hsz' hkp => ?_)
    dsimp only at ht hsz' hkp ⊢
    have hS2 := hkp S' _ nz nTO n1' n2' hSo
    have up : ∀ b o, b ≠ S' → h'.get? b = some o → (h'.update S' (Obj.mapSeq (·.push (Value.ref h.objs.size)))).get? b = some o := fun b o hb e => (Heap.get?_update_other _ _ (Ne.symm hb)).trans e
    show wpAny _ A.in1 (updateSeq S' (·.push (Value.ref h.objs.size)) >>= _) _ _ _
    refine wpAny_bind ?_
    refine wpAny_updateSeq hS2 rfl (wpAny_pure ⟨plainId_quiet PySem.F.plain_extend_loop _, ih (i + 1) _ tk' _ (acc.push (Value.ref h.objs.size)) (as ++ [h.objs.size]) (by omega) hlt (hst'.keep S D1 D2 hS up)
      (fun b o b0 b1 b2 b3 b4 e => up b o b0 (hkp b o b1 b2 b3 b4 (hkeep b o b0 b1 b2 b3 b4 e))) (Heap.get?_update_self _ hS2 rfl) (by rw [Array.toList_push, hacc, List.map_append]; rfl) (by rw [List.length_append, hal]; rfl) ⟨?_, ?_, ?_⟩⟩)
      (by rw [hsz]; omega) (by show (acc.push (Value.ref h.objs.size)).size ≤ sizeLine + 1; rw [Array.size_push, hsz]; omega)
    · refine List.pairwise_append.mpr ⟨hG.rise, List.pairwise_singleton _ _, fun t ht b hb => ?_⟩
      rw [List.mem_singleton.mp hb]
      exact hG.there ht
    · intro t ht
      rcases List.mem_append.mp ht with ht | ht
      · exact hG.above t ht
      · rw [List.mem_singleton.mp ht]; exact hSl
    · intro j b hj
      rcases Nat.lt_trichotomy j as.length with q | q | q
      · rw [List.getElem?_append_left q] at hj
        obtain ⟨x, y, e1, e2, e3⟩ := hG.pairs j b hj
        obtain ⟨q0, q1, q2, q3, q4⟩ := off (hG.above b (List.mem_of_getElem? hj))
        exact ⟨x, y, e1, e2, up b _ q0 (hkp b _ q1 q2 q3 q4 e3)⟩
      · subst q
        have hb : h.objs.size = b := by simpa using hj
        subst hb
        rw [hal]
        exact ⟨x1, x2, y1, y2, up _ _ (Nat.ne_of_gt hSl) ht⟩
      · have hnone : (as ++ [h.objs.size])[j]? = none := List.getElem?_eq_none (by rw [List.length_append, List.length_singleton]; omega)
        rw [hnone] at hj; cases hj
theorem zip_no_len : typeLookup (.type "zip") "__len__" = pure none := by rw [typeLookup_type, builtinLookup_eq_fast]; kernel_rfl
theorem zip_no_hint : typeLookup (.type "zip") "__length_hint__" = pure none := by rw [typeLookup_type, builtinLookup_eq_fast]; kernel_rfl
theorem zl_extend {S' : Addr} {n : Nat} {R : Result → Shared → Prop} (hn : n ≤ sizeLine) (S : ZipSep2 z TI TO i1 i2 fp1 fp2) (D1 : Draws prog w A.in1.in1 i1 fp1 n P1 St1) (D2 : Draws prog w A.in1.in1 i2 fp2 n P2 St2) (hS : S' ∉ z :: TI :: TO :: (fp1 ++ fp2)) (hz : z < S') (hTO : TO < S') (hi1 : i1 < S') (hi2 : i2 < S')
    (st : ZState s.heap z TI TO i1 i2 S' St1 St2 0) (hzz : IsZip s.heap z TI TO .none) (res : Value) {c0 : Nat} (hSo : s.heap.get? S' = some { cls := .type "list", data := .seq #[] c0 })
    (hR : ∀ h' tk acc c as, (∀ b o, b ≠ S' → b ≠ z → b ≠ TO → b ≠ i1 → b ≠ i2 → s.heap.get? b = some o → h'.get? b = some o) → h'.get? S' = some { cls := .type "list", dict := none, data := .seq acc c, slots := #[] } → as.length = n → Tups P1 P2 S' h' as →
      acc.toList = as.map Value.ref → R (.ok (.ret res)) { s with heap := h', toks := tk }) :
    wpAny (model prog w) A.in1 (Builtin.List.listExtendWith (.ref S') (.ref z) res)
      (fun fin s' => match fin with | .done f => R (.ok f) s' | .again c' => c'.quiet = true ∧ codeAny (model prog w) A c' R s') (fun e s' => R (.error e) s') s := by
  have hT : s.TypeIs (.ref z) "zip" := ⟨_, hzz, rfl⟩
  unfold Builtin.List.listExtendWith
  refine wpAny_bind (wpAny_typeOf (T := "zip") hT ?_)
  have q1 : Builtin.List.listSameRef (.ref S') (.ref z) = false := by simp [Builtin.List.listSameRef, Nat.ne_of_gt hz]
  have q2 : (Value.type "zip" == Value.type "list") = false := by decide
  have q3 : (Value.type "zip" == Value.type "tuple") = false := by decide
  simp only [q1, q2, q3, Bool.or_false, Bool.false_eq_true, if_false]
  refine wpAny_bind (wpAny_pyIter_zip hzz ?_)
  refine wpAny_bind (wpAny_holding ?_)
  unfold Builtin.List.listLengthHint
  refine wpAny_bind (wpAny_specialOf hT zip_no_len ?_)
  show wpAny _ A.in1 (specialOf (Value.ref z) (Str.ofString "__length_hint__") >>= _) _ _ _
  refine wpAny_bind (wpAny_specialOf hT zip_no_hint ?_)
  refine wpAny_pure ?_
  show wpAny _ A.in1 (rule "list.extend.makes-room" >>= fun _ => Builtin.List.listTouch (.ref S') >>= fun _ => again (.builtin "list.extend.loop" ⟨[.ref S', .ref z, res], []⟩)) _ _ _
  refine wpAny_bind (wpAny_rule ?_)
  refine wpAny_bind ?_
  show wpAny _ A.in1 (updateSeq S' (·.push .none) >>= fun _ => updateSeq S' (·.pop)) _ _ _
  refine wpAny_bind (wpAny_updateSeq hSo rfl ?_)
  have hS2 := Heap.get?_update_self (Obj.mapSeq (·.push Value.none)) hSo rfl
  refine wpAny_updateSeq (hz := by seq_fits) hS2 rfl ?_
  have hS3 := Heap.get?_update_self (Obj.mapSeq (·.pop)) hS2 rfl
  have oth : ∀ b o, b ≠ S' → s.heap.get? b = some o → ((s.heap.update S' (Obj.mapSeq (·.push Value.none))).update S' (Obj.mapSeq (·.pop))).get? b = some o :=
    fun b o hb e => (Heap.get?_update_other _ _ (Ne.symm hb)).trans ((Heap.get?_update_other _ _ (Ne.symm hb)).trans e)
  refine wpAny_pure ⟨plainId_quiet PySem.F.plain_extend_loop _, ?_⟩
  exact zl_loop (s := s) hn S D1 D2 hS hz hTO hi1 hi2 res (h0 := s.heap) hR n 0 _ s.toks _ #[] [] rfl (Nat.zero_le _) (st.keep S D1 D2 hS oth) (fun b o b0 _ _ _ _ e => oth b o b0 e) hS3 rfl rfl ⟨List.Pairwise.nil, (fun _ h => nomatch h), fun j t hj => by simp at hj⟩
theorem zl_init {S' : Addr} {n : Nat} {R : Result → Shared → Prop} (hn : n ≤ sizeLine) (S : ZipSep2 z TI TO i1 i2 fp1 fp2) (D1 : Draws prog w A.in1.in1 i1 fp1 n P1 St1) (D2 : Draws prog w A.in1.in1 i2 fp2 n P2 St2) (hS : S' ∉ z :: TI :: TO :: (fp1 ++ fp2)) (hz : z < S') (hTO : TO < S') (hi1 : i1 < S') (hi2 : i2 < S')
    (st : ZState s.heap z TI TO i1 i2 S' St1 St2 0) (hzz : IsZip s.heap z TI TO .none) (hSo : s.heap.get? S' = some { cls := .type "list", data := .seq #[] })
    (hR : ∀ h' tk acc c as, (∀ b o, b ≠ S' → b ≠ z → b ≠ TO → b ≠ i1 → b ≠ i2 → s.heap.get? b = some o → h'.get? b = some o) → h'.get? S' = some { cls := .type "list", dict := none, data := .seq acc c, slots := #[] } → as.length = n → Tups P1 P2 S' h' as →
      acc.toList = as.map Value.ref → R (.ok (.ret .none)) { s with heap := h', toks := tk }) :
    wpAny (model prog w) A.in1 (Builtin.«list.__init__» ⟨[.ref S', .ref z], []⟩)
      (fun fin s' => match fin with | .done f => R (.ok f) s' | .again c' => c'.quiet = true ∧ codeAny (model prog w) A c' R s') (fun e s' => R (.error e) s') s := by
  have nz : z ≠ S' := Nat.ne_of_lt hz
  show wpAny _ _ (do let old ← Builtin.List.listItems (.ref S'); Builtin.List.listUpdate (.ref S') (fun _ => #[]); letGo old.toList.reverse; Builtin.List.listExtendWith (.ref S') (.ref z) .none) _ _ s
  refine wpAny_bind ?_
  unfold Builtin.List.listItems
  refine wpAny_bind (wpAny_seqItems hSo rfl (wpAny_pure ?_))
  show wpAny _ _ (updateSeq S' (fun _ => #[]) >>= fun _ => letGo (#[] : Array Value).toList.reverse >>= fun _ => Builtin.List.listExtendWith (.ref S') (.ref z) .none) _ _ s
  refine wpAny_bind (wpAny_updateSeq hSo rfl ?_)
  have hS2 := Heap.get?_update_self (Obj.mapSeq (fun _ => (#[] : Array Value))) hSo rfl
  have oth : ∀ b o, b ≠ S' → s.heap.get? b = some o → (s.heap.update S' (Obj.mapSeq (fun _ => (#[] : Array Value)))).get? b = some o :=
    fun b o hb e => (Heap.get?_update_other _ _ (Ne.symm hb)).trans e
  refine wpAny_bind (wpAny_letGo ?_)
  refine zl_extend (s := { s with heap := s.heap.update S' (Obj.mapSeq (fun _ => (#[] : Array Value))) }) hn S D1 D2 hS hz hTO hi1 hi2 (st.keep S D1 D2 hS oth) (oth z _ nz hzz) .none hS2 fun h' tk acc c as hk hS'' hl hG hacc => ?_
  exact hR h' tk acc c as (fun b o b0 b1 b2 b3 b4 e => hk b o b0 b1 b2 b3 b4 (oth b o b0 e)) hS'' hl hG hacc
theorem zl_call {n : Nat} {Q : Value → Shared → Prop} (hn : n ≤ sizeLine) (S : ZipSep2 z TI TO i1 i2 fp1 fp2) (D1 : Draws prog w A.in1.in1.in1 i1 fp1 n P1 St1) (D2 : Draws prog w A.in1.in1.in1 i2 fp2 n P2 St2) (hfp : ∀ b ∈ z :: TI :: TO :: (fp1 ++ fp2), b < s.heap.objs.size)
    (hTI : IsTupOf2 s.heap TI (.ref i1) (.ref i2)) (hTOp : ∃ a1 a2, IsTupOf2 s.heap TO a1 a2) (st1 : St1 0 s.heap) (st2 : St2 0 s.heap) (hzz : IsZip s.heap z TI TO .none)
    (hQ : ∀ h' tk acc c as, (∀ b o, b ≠ z → b ≠ TO → b ≠ i1 → b ≠ i2 → s.heap.get? b = some o → h'.get? b = some o) → h'.get? s.heap.objs.size = some { cls := .type "list", dict := none, data := .seq acc c, slots := #[] } → as.length = n → Tups P1 P2 s.heap.objs.size h' as →
      acc.toList = as.map Value.ref → Q (.ref s.heap.objs.size) { s with heap := h', toks := tk }) :
    wpAny (model prog w) A (call (.type "list") [.ref z]) Q E s := by
  refine callType_codes (Q₁ := fun obj s₁ => obj = .ref s.heap.objs.size ∧ s₁ = { s with heap := s.heap.push { cls := .type "list", data := .seq #[] } }) PySem.F.called_list (PySem.F.typeCall_list_1 _) PySem.F.entry_list_init
    (code_list_new _ ⟨rfl, rfl⟩) fun obj s₁ h₁ => ?_
  obtain ⟨rfl, rfl⟩ := h₁
  have hS : (s.heap.push { cls := .type "list", data := .seq #[] }).get? s.heap.objs.size = some { cls := .type "list", data := .seq #[] } := Heap.get?_push_size _ rfl
  have old : ∀ b o, s.heap.get? b = some o → (s.heap.push { cls := .type "list", data := .seq #[] }).get? b = some o := fun b o e => Heap.get?_push_of_some _ e
  have lt := fun b hb => hfp b hb
  have m1 : i1 ∈ z :: TI :: TO :: (fp1 ++ fp2) := by simp [S.mem1]
  have m2 : i2 ∈ z :: TI :: TO :: (fp1 ++ fp2) := by simp [S.mem2]
  obtain ⟨a1, a2, hTO⟩ := hTOp
  refine ⟨⟨_, hS, rfl⟩, PySem.F.args_list_init_2 _ _, zl_init (A := A.in1) (s := { s with heap := s.heap.push { cls := .type "list", data := .seq #[] } }) hn S D1 D2 (fun h => Nat.lt_irrefl _ (lt _ h)) (lt z (by simp)) (lt TO (by simp)) (lt i1 m1) (lt i2 m2)
    ⟨old _ _ hTI, D1.frame _ _ _ st1 fun b _ o e => old b o e, D2.frame _ _ _ st2 fun b _ o e => old b o e, .inl ⟨old _ _ hzz, a1, a2, old _ _ hTO⟩⟩ (old _ _ hzz) hS fun h' tk acc c as hk hS' hl hG hacc => ?_⟩
  exact ⟨rfl, hQ h' tk acc c as (fun b o b1 b2 b3 b4 e => hk b o (Nat.ne_of_lt (Heap.lt_size e)) b1 b2 b3 b4 (old b o e)) hS' hl hG hacc⟩
end
/-! ### as an expression -/
/-- the pairs tracked at their addresses -/
def zPut : Hp → List Addr → List (V × V) → Hp
  | H, t :: ts, q :: qs => zPut (upd H t (.tup [q.1, q.2])) ts qs
  | H, _, _ => H
theorem zPut_off {b : Addr} : ∀ (ts : List Addr) (qs : List (V × V)) (H : Hp), b ∉ ts → zPut H ts qs b = H b
  | [], _, _, _ => rfl
  | _ :: _, [], _, _ => rfl
  | t :: ts, q :: qs, H, h => by
    show zPut (upd H t (.tup [q.1, q.2])) ts qs b = H b
    rw [zPut_off ts qs _ fun z => h (List.mem_cons_of_mem _ z), upd_ne fun z => h (by rw [z]; exact List.mem_cons_self)]
theorem zPut_at : ∀ (ts : List Addr) (qs : List (V × V)) (H : Hp), ts.length = qs.length → ts.Nodup → Paired (fun (t : Addr) (q : V × V) => zPut H ts qs t = some (.tup [q.1, q.2])) ts qs
  | [], [], _, _, _ => .nil
  | [], _ :: _, _, h, _ => by cases h
  | _ :: _, [], _, h, _ => by cases h
  | t :: ts, q :: qs, H, h, hn => by
    obtain ⟨n1, n2⟩ := List.nodup_cons.mp hn
    refine .cons ?_ (zPut_at ts qs (upd H t (.tup [q.1, q.2])) (Nat.succ.inj h) n2)
    show zPut (upd H t (.tup [q.1, q.2])) ts qs t = some (.tup [q.1, q.2])
    rw [zPut_off ts qs _ n1, upd_same]
theorem valsOf_refs : ∀ ts : List Addr, Vals (ts.map V.ref) (ts.map Value.ref)
  | [] => .nil
  | _ :: ts => .cons rfl (valsOf_refs ts)
theorem pair_at {α β : Type} {F : α → β → Prop} : ∀ {xs : List α} {ys : List β}, Paired F xs ys → ∀ {x : α}, x ∈ xs → ∃ (j : Nat) (y : β), xs[j]? = some x ∧ ys[j]? = some y ∧ F x y
  | _, _, .cons h t, x, hx => by
    rcases List.mem_cons.mp hx with e | hx
    · exact ⟨0, _, by rw [e]; rfl, rfl, by rw [e]; exact h⟩
    · obtain ⟨j, y, e1, e2, e3⟩ := pair_at t hx
      exact ⟨j + 1, y, e1, e2, e3⟩
section
variable {X : Cx} {pins : List (Addr × Obj)} {σ : L2.St} {H : Hp} {s : Shared}
theorem vals_get : ∀ {xs : List V} {us : List Value} {j : Nat} {x : V}, Vals xs us → xs[j]? = some x → ∃ u, us[j]? = some u ∧ RelV x u
  | _, _, _, _, .nil, h => by simp at h
  | _, _, 0, x, .cons r t, h => by simp at h; subst h; exact ⟨_, rfl, r⟩
  | _, _, j + 1, x, .cons r t, h => by
    obtain ⟨u, e1, e2⟩ := vals_get (j := j) (x := x) t (by simpa using h)
    exact ⟨u, by simpa using e1, e2⟩
theorem zip_laid {h' : Heap} {tk : Nat} {xs ys : List V} {us ws : List Value} {acc : Array Value} {c : Nat} {ts : List Addr} {S' : Addr} (I : Inv X pins σ H s) (hz : xs.length ≤ sizeLine) (hl : xs.length = ys.length) (vx : Vals xs us) (vy : Vals ys ws)
    (hk : ∀ b o, s.heap.get? b = some o → h'.get? b = some o) (hle : s.heap.objs.size ≤ S') (hS : h'.get? S' = some { cls := .type "list", dict := none, data := .seq acc c, slots := #[] }) (hn : ts.length = xs.length)
    (hG : Tups (fun j u => us.toArray[j]? = some u) (fun j u => ws.toArray[j]? = some u) S' h' ts) (hacc : acc.toList = ts.map Value.ref) :
    ∃ J : Hp, Same H J ∧ H S' = none ∧ J S' = some (.lst (ts.map V.ref)) ∧ Paired (fun (t : Addr) (q : V × V) => J t = some (.tup [q.1, q.2])) ts (xs.zip ys) ∧ Inv X pins σ J { s with heap := h', toks := tk } := by
  have hSn : S' ∉ ts := fun z => Nat.lt_irrefl _ (hG.above _ z)
  have nd : ts.Nodup := List.Pairwise.imp (fun {a b} (h : a < b) => Nat.ne_of_lt h) hG.rise
  have fresh : ∀ t ∈ ts, H t = none := fun t ht => I.hok.fresh (Nat.le_trans hle (Nat.le_of_lt (hG.above t ht)))
  have freshS : H S' = none := I.hok.fresh hle
  have lz : (xs.zip ys).length = xs.length := by rw [List.length_zip]; omega
  have atP := zPut_at ts (xs.zip ys) (upd H S' (.lst (ts.map V.ref))) (by omega) nd
  have off : ∀ b, b ∉ ts → b ≠ S' → zPut (upd H S' (.lst (ts.map V.ref))) ts (xs.zip ys) b = H b := fun b q1 q2 => by rw [zPut_off ts _ _ q1, upd_ne q2]
  have low : ∀ b o, s.heap.get? b = some o → b ∉ ts ∧ b ≠ S' := fun b o e => by
    have hb := Heap.lt_size e
    exact ⟨fun z => absurd hb (Nat.not_lt.mpr (Nat.le_trans hle (Nat.le_of_lt (hG.above b z)))), Nat.ne_of_lt (Nat.lt_of_lt_of_le hb hle)⟩
  have kp : ∀ b u, H b = some u → zPut (upd H S' (.lst (ts.map V.ref))) ts (xs.zip ys) b = some u := fun b u e => by
    rw [off b (fun z => by rw [fresh b z] at e; cases e) (fun z => by rw [z, freshS] at e; cases e)]
    exact e
  have eS : zPut (upd H S' (.lst (ts.map V.ref))) ts (xs.zip ys) S' = some (.lst (ts.map V.ref)) := by rw [zPut_off ts _ _ hSn, upd_same]
  refine ⟨zPut (upd H S' (.lst (ts.map V.ref))) ts (xs.zip ys), kp, freshS, eS, atP, ?_⟩
  refine I.call' (ch := []) rfl ⟨fun b o q _ _ _ => hk b o q, fun b o q _ _ _ => ⟨o.slots, hk b o q⟩, fun b o q n _ => ?_, fun b o q _ => ⟨o, hk b o q⟩, fun b xs q => kp b _ q, fun b o u q => kp b _ q, fun b ps q => ⟨#[], by rw [kp b _ q]; simp⟩⟩ (fun b u q => ?_) I.bare fun b z => by simp at z
  · obtain ⟨z1, z2⟩ := low b o q
    rw [off b z1 z2]
    exact n
  · by_cases hb : b ∈ ts
    · obtain ⟨j, pq, e1, e2, e3⟩ := pair_at atP hb
      rw [e3] at q
      cases q
      obtain ⟨x, y, f1, f2, f3⟩ := hG.pairs j b e1
      obtain ⟨g1, g2⟩ := List.getElem?_zip_eq_some.mp e2
      obtain ⟨u1, k1, r1⟩ := vals_get vx g1
      obtain ⟨u2, k2, r2⟩ := vals_get vy g2
      have ex : x = u1 := by
        have f1 : us.toArray[j]? = some x := f1
        rw [List.getElem?_toArray, k1] at f1
        exact (Option.some.inj f1).symm
      have ey : y = u2 := by
        have f2 : ws.toArray[j]? = some y := f2
        rw [List.getElem?_toArray, k2] at f2
        exact (Option.some.inj f2).symm
      subst ex
      subst ey
      exact ⟨by show 2 ≤ sizeLine; decide, [x, y], .cons r1 (.cons r2 .nil), ⟨_, f3, rfl, _, rfl⟩⟩
    · by_cases hb2 : b = S'
      · subst hb2
        rw [eS] at q
        cases q
        refine ⟨by rw [List.length_map]; omega, acc.toList, c, by rw [hacc]; exact valsOf_refs ts, ?_⟩
        rw [Array.toArray_toList]
        exact hS
      · rw [off b hb hb2] at q
        exact (I.hok b u q).stay (fun d v _ y => hk d v y) (fun d y => kp d _ y) fun d xs y => kp d _ y
end
theorem zq_lt {N a b q : Nat} (ha : a < N) (hb : b < N) (h : q = N + 4 ∨ q = N + 2 ∨ q = N + 3 ∨ q = N ∨ q = a ∨ q = N + 1 ∨ q = b) : q < N + 5 := by omega
theorem zq_ne {N d : Nat} (h : d < N) (k : Nat) : d ≠ N + k := by omega
def tLzip (K : PySem.W.Frag) (ta : TA) : TE := fun σ H Q => ta σ H fun vs H1 => ∃ a b xs ys, vs = [V.ref a, V.ref b] ∧ SqT K H1 a xs ∧ SqT K H1 b ys ∧ xs.length = ys.length ∧
  ∀ (J : Hp) (p : Addr) (ts : List Addr), Same H1 J → H1 p = none → J p = some (.lst (ts.map V.ref)) → Paired (fun (t : Addr) (q : V × V) => J t = some (.tup [q.1, q.2])) ts (xs.zip ys) → Q (.ref p) J
theorem pe_lzip {X : Cx} {e e2 : Expr} {ta : TA} {p p1 p2 pos : Pos} (hc : X.calm = true) (hg1 : Gl X "list") (hm1 : X.mg "list" = none) (hg2 : Gl X "zip") (hm2 : X.mg "zip" = none) (ha : PA X [e, e2] ta)
    (hs : starEach [e, e2] X.env = (false, eval e X.env) :: starEach [e2] X.env) (hpl : (backTo p2 (starEach [e2] X.env)).any (·.1) = false) :
    PE X (.Call (.Name "list" p) [.Call (.Name "zip" p1) [e, e2] [] p2] [] pos) (tLzip X.K ta) := by
  refine ⟨fun pins s σ H Q I hq => ?_⟩
  have hst : starEach [.Call (.Name "zip" p1) [e, e2] [] p2] X.env = (false, eval (.Call (.Name "zip" p1) [e, e2] [] p2) X.env) :: starEach [] X.env := star_cons rfl
  refine wpAny_Call_Name_kw (ld_blt I hg1 hm1 (by rfl) ?_)
  refine PyProof.Rows.callWith_type1 ?_ hst rfl
  rw [hst]
  show wpAny _ _ (spliced ((false, eval (.Call (.Name "zip" p1) [e, e2] [] p2) X.env) :: backTo pos (starEach [] X.env))) _ _ s
  refine Calls.spliced_cons ?_
  refine wpAny_Call_Name_kw (ld_blt I hg2 hm2 PyProof.Rows.boot_zip (PyProof.Rows.callWith_type1 (thn (ha.run p2 pins s σ H _ I hq) fun us s1 ⟨vs, H1, I1, r1, q1⟩ => ?_) hs hpl))
  obtain ⟨a, b, xs, ys, rfl, hx, hy, hl, fin⟩ := q1
  cases r1 with
  | cons r rr =>
    cases rr with
    | cons r' rr =>
      cases rr
      cases r
      cases r'
      obtain ⟨its, rv, pl1, hz⟩ := I1.tuple hx
      obtain ⟨its2, rv2, pl2, _⟩ := I1.tuple hy
      have l1 := rv.length
      have l2 := rv2.length
      obtain ⟨o1, ho1, _⟩ := id pl1
      obtain ⟨o2, ho2, _⟩ := id pl2
      have b1 := Heap.lt_size ho1
      have b2 := Heap.lt_size ho2
      have T1 : s1.heap.IsTuple a its.toArray := pl1
      have T2 : s1.heap.IsTuple b its2.toArray := pl2
      refine zip_begins2 (begins_tuple a its.toArray) (begins_tuple b its2.toArray) T1 T2 fun g hzz hTI hTO gi1 gi2 hsz hk => ?_
      refine Calls.spliced_nil ?_
      have hh : X.A.in1.in1.in1.handled = none := I1.ok.hd hc
      have D := PySem.W.ktu_apart s1.heap.objs.size a b b1 b2
      have S : ZipSep2 (s1.heap.objs.size + 4) (s1.heap.objs.size + 2) (s1.heap.objs.size + 3) s1.heap.objs.size (s1.heap.objs.size + 1) [s1.heap.objs.size, a] [s1.heap.objs.size + 1, b] := by
        refine ⟨D.TIz, D.TOz, D.TITO, D.TIi1, by simp, ?_, ?_, D.TIi2, by simp, ?_, ?_, ?_, ?_⟩
        all_goals
          intro q
          rcases List.mem_cons.mp q with z | z
          rotate_left
          replace z := List.mem_singleton.mp z
        · exact D.l1z z.symm
        · exact D.i1z z.symm
        · exact D.l1TO z.symm
        · exact D.TOi1 z
        · exact D.l2z z.symm
        · exact D.i2z z.symm
        · exact D.l2TO z.symm
        · exact D.TOi2 z
        · exact D.l2i1 z.symm
        · exact D.i12 z
        · exact D.l1i2 z.symm
        · exact D.i12 z.symm
      have D1 : Draws X.prog X.w X.A.in1.in1.in1 s1.heap.objs.size [s1.heap.objs.size, a] its.toArray.size (fun i v => its.toArray[i]? = some v) (fun i h => h.IsTupleIter s1.heap.objs.size a i ∧ h.IsTuple a its.toArray) := Draws.tuple hh _ a (Nat.ne_of_lt b1) its.toArray
      have D2 : Draws X.prog X.w X.A.in1.in1.in1 (s1.heap.objs.size + 1) [s1.heap.objs.size + 1, b] its.toArray.size (fun i v => its2.toArray[i]? = some v) (fun i h => h.IsTupleIter (s1.heap.objs.size + 1) b i ∧ h.IsTuple b its2.toArray) := by
        rw [show its.toArray.size = its2.toArray.size by rw [List.size_toArray, List.size_toArray]; omega]
        exact Draws.tuple hh _ b (Nat.ne_of_lt (Nat.lt_succ_of_lt b2)) its2.toArray
      refine zl_call (s := { s1 with heap := g }) (n := its.toArray.size) (by rw [List.size_toArray, ← l1]; exact hz) S D1 D2 ?_ hTI ⟨_, _, hTO⟩ ⟨⟨_, gi1, rfl, rfl⟩, T1.at fun o e => hk a o e⟩ ⟨⟨_, gi2, rfl, rfl⟩, T2.at fun o e => hk b o e⟩ hzz fun h' tk acc c ts hkeep hS hln hG hacc => ?_
      · intro q hq
        show q < g.objs.size
        rw [hsz]
        simp only [List.cons_append, List.nil_append, List.mem_cons, List.not_mem_nil, or_false] at hq
        exact zq_lt b1 b2 hq
      · obtain ⟨J, k1, k2, k3, k4, I2⟩ := zip_laid (tk := tk) I1 hz hl rv rv2 (fun d o e => hkeep d o (zq_ne (Heap.lt_size e) 4) (zq_ne (Heap.lt_size e) 3) (zq_ne (Heap.lt_size e) 0) (zq_ne (Heap.lt_size e) 1) (hk d o e)) (by show s1.heap.objs.size ≤ g.objs.size; omega) hS (by rw [hln, List.size_toArray]; omega) hG hacc
        exact ⟨.ref _, J, I2, rfl, fin J _ ts k1 k2 k3 k4⟩
end Lk
/-! DS: zip(*rows), rows any number of tuples of one length. -/
namespace Lk
open PySem PySem.Spec PyProof.Rows L2
def zO (f0 : Value) (f1 : Bool) (TI TO : Addr) : Obj := ⟨.type "zip", none, .fields #[f0, .bool f1, .bool false, .ref TI, .ref TO], #[]⟩
def tO (vs : List Value) : Obj := ⟨.type "tuple", none, .seq vs.toArray 0, #[]⟩
theorem IsTI.mv {h h' : Heap} {i l : Addr} {k : Nat} (x : h.IsTupleIter i l k) (e : ∀ o, h.get? i = some o → h'.get? i = some o) : h'.IsTupleIter i l k :=
  let ⟨o, a, b⟩ := x
  ⟨o, e o a, b⟩
theorem IsT.mv {h h' : Heap} {l : Addr} {xs : Array Value} (x : h.IsTuple l xs) (e : ∀ o, h.get? l = some o → h'.get? l = some o) : h'.IsTuple l xs :=
  let ⟨o, a, b⟩ := x
  ⟨o, e o a, b⟩
/-- a zip of iterators is over tuples ls, k items on -/
structure ZSt (h : Heap) (z TI TO : Addr) (is ls : List Addr) (k : Nat) : Prop where
  hz : ∃ f0 f1, h.get? z = some (zO f0 f1 TI TO) ∧ (f0 = .none ∨ ∃ T : Addr, f0 = rawInt (T : Int))
  hTI : h.get? TI = some (tO (is.map .ref))
  hTO : ∃ ys : List Value, ys.length = is.length ∧ h.get? TO = some (tO ys)
  its : ∀ (j : Nat) (i l : Addr), is[j]? = some i → ls[j]? = some l → h.IsTupleIter i l k
  len : is.length = ls.length
structure ZAp (z TI TO : Addr) (is ls : List Addr) : Prop where
  nd : (z :: TI :: TO :: is).Nodup
  off : ∀ l ∈ ls, l ∉ z :: TI :: TO :: is
/-- the tuples' items -/
structure ZRw (h : Heap) (ls : List Addr) (rows : List (List Value)) : Prop where
  len : rows.length = ls.length
  at_ : ∀ (j : Nat) (l : Addr) (r : List Value), ls[j]? = some l → rows[j]? = some r → h.IsTuple l r.toArray
section
variable {z TI TO : Addr} {is ls : List Addr}
theorem ZAp.zTI (D : ZAp z TI TO is ls) : z ≠ TI := fun e => (List.nodup_cons.mp D.nd).1 (by rw [e]; simp)
theorem ZAp.zTO (D : ZAp z TI TO is ls) : z ≠ TO := fun e => (List.nodup_cons.mp D.nd).1 (by rw [e]; simp)
theorem ZAp.TITO (D : ZAp z TI TO is ls) : TI ≠ TO := fun e => (List.nodup_cons.mp (List.nodup_cons.mp D.nd).2).1 (by rw [e]; simp)
theorem ZAp.iz (D : ZAp z TI TO is ls) {i : Addr} (h : i ∈ is) : i ≠ z := fun e => (List.nodup_cons.mp D.nd).1 (by rw [← e]; simp [h])
theorem ZAp.iTI (D : ZAp z TI TO is ls) {i : Addr} (h : i ∈ is) : i ≠ TI := fun e => (List.nodup_cons.mp (List.nodup_cons.mp D.nd).2).1 (by rw [← e]; simp [h])
theorem ZAp.iTO (D : ZAp z TI TO is ls) {i : Addr} (h : i ∈ is) : i ≠ TO := fun e => (List.nodup_cons.mp (List.nodup_cons.mp (List.nodup_cons.mp D.nd).2).2).1 (by rw [← e]; exact h)
theorem ZAp.nis (D : ZAp z TI TO is ls) : is.Nodup := (List.nodup_cons.mp (List.nodup_cons.mp (List.nodup_cons.mp D.nd).2).2).2
theorem ZAp.ij (D : ZAp z TI TO is ls) {j k : Nat} {a b : Addr} (h1 : is[j]? = some a) (h2 : is[k]? = some b) (hn : j ≠ k) : a ≠ b := by
  obtain ⟨q1, e1⟩ := List.getElem?_eq_some_iff.mp h1
  obtain ⟨q2, e2⟩ := List.getElem?_eq_some_iff.mp h2
  rcases Nat.lt_or_gt_of_ne hn with q | q
  · have := List.pairwise_iff_getElem.mp D.nis j k q1 q2 q
    rw [e1, e2] at this
    exact this
  · have := List.pairwise_iff_getElem.mp D.nis k j q2 q1 q
    rw [e1, e2] at this
    exact fun e => this e.symm
end
/-- between two rows: the first j iterators are one item on -/
structure ZMid (h h' : Heap) (z TI TO : Addr) (is ls : List Addr) (k j : Nat) (f0 : Value) (f1 : Bool) (ts : List Value) : Prop where
  hz : h'.get? z = some (zO f0 f1 TI TO)
  hTI : h'.get? TI = some (tO (is.map .ref))
  hTO : h'.get? TO = some (tO ts)
  its : ∀ (ix : Nat) (i l : Addr), is[ix]? = some i → ls[ix]? = some l → h'.IsTupleIter i l (if ix < j then k + 1 else k)
  size : h'.objs.size = h.objs.size
  kept : ∀ c o, c ∉ z :: TI :: TO :: is → h.get? c = some o → h'.get? c = some o
section
variable {h h1 h2 : Heap} {z TI TO : Addr} {is ls : List Addr} {k j : Nat} {f0 g0 : Value} {f1 g1 : Bool} {ts us : List Value}
theorem ZMid.draw (m : ZMid h h1 z TI TO is ls k j f0 f1 ts) (D : ZAp z TI TO is ls) {i l : Addr} (hi : is[j]? = some i) (hl : ls[j]? = some l) (t : h2.IsTupleIter i l (k + 1)) (sb : Heap.SameBut i h1 h2) : ZMid h h2 z TI TO is ls k (j + 1) f0 f1 ts where
  hz := sb.extBut _ _ (D.iz (List.mem_of_getElem? hi)).symm m.hz
  hTI := sb.extBut _ _ (D.iTI (List.mem_of_getElem? hi)).symm m.hTI
  hTO := sb.extBut _ _ (D.iTO (List.mem_of_getElem? hi)).symm m.hTO
  its := fun ix i2 l2 e1 e2 => by
    by_cases q : ix = j
    · subst q
      rw [hi] at e1
      rw [hl] at e2
      cases e1
      cases e2
      rw [if_pos (Nat.lt_succ_self _)]
      exact t
    · have x := IsTI.mv (m.its ix i2 l2 e1 e2) fun o => sb.extBut i2 o (D.ij e1 hi q)
      by_cases q2 : ix < j
      · rw [if_pos q2] at x
        rw [if_pos (by omega)]
        exact x
      · rw [if_neg q2] at x
        rw [if_neg (by omega)]
        exact x
  size := sb.1.trans m.size
  kept := fun c o hc e => sb.extBut c o (fun q => hc (by rw [q]; simp [List.mem_of_getElem? hi])) (m.kept c o hc e)
theorem ZMid.own (m : ZMid h h1 z TI TO is ls k j f0 f1 ts) (D : ZAp z TI TO is ls) (t : h2.get? TO = some (tO us)) (sb : Heap.SameBut TO h1 h2) : ZMid h h2 z TI TO is ls k j f0 f1 us where
  hz := sb.extBut _ _ D.zTO m.hz
  hTI := sb.extBut _ _ D.TITO m.hTI
  hTO := t
  its := fun ix i2 l2 e1 e2 => IsTI.mv (m.its ix i2 l2 e1 e2) fun o => sb.extBut i2 o (D.iTO (List.mem_of_getElem? e1))
  size := sb.1.trans m.size
  kept := fun c o hc e => sb.extBut c o (fun q => hc (by rw [q]; simp)) (m.kept c o hc e)
theorem ZMid.fld (m : ZMid h h1 z TI TO is ls k j f0 f1 ts) (D : ZAp z TI TO is ls) (t : h2.get? z = some (zO g0 g1 TI TO)) (sb : Heap.SameBut z h1 h2) : ZMid h h2 z TI TO is ls k j g0 g1 ts where
  hz := t
  hTI := sb.extBut _ _ D.zTI.symm m.hTI
  hTO := sb.extBut _ _ D.zTO.symm m.hTO
  its := fun ix i2 l2 e1 e2 => IsTI.mv (m.its ix i2 l2 e1 e2) fun o => sb.extBut i2 o (D.iz (List.mem_of_getElem? e1))
  size := sb.1.trans m.size
  kept := fun c o hc e => sb.extBut c o (fun q => hc (by rw [q]; simp)) (m.kept c o hc e)
/-- the row is told: a new tuple behind all others -/
theorem ZMid.told (m : ZMid h h1 z TI TO is ls k j f0 f1 ts) (hj : is.length ≤ j) (ll : is.length = ls.length) (ht : ts.length = is.length) (o : Obj) (hf : g0 = .none ∨ ∃ T : Addr, g0 = rawInt (T : Int)) (D : ZAp z TI TO is ls) (t : h2.get? z = some (zO g0 g1 TI TO)) (sb : Heap.SameBut z (h1.push o) h2) : ZSt h2 z TI TO is ls (k + 1) where
  hz := ⟨_, _, t, hf⟩
  hTI := sb.extBut _ _ D.zTI.symm (Heap.get?_push_of_some _ m.hTI)
  hTO := ⟨_, ht, sb.extBut _ _ D.zTO.symm (Heap.get?_push_of_some _ m.hTO)⟩
  its := fun ix i2 l2 e1 e2 => by
    have x := m.its ix i2 l2 e1 e2
    rw [if_pos (Nat.lt_of_lt_of_le (List.getElem?_eq_some_iff.mp e1).1 hj)] at x
    exact IsTI.mv x fun o e => sb.extBut i2 o (D.iz (List.mem_of_getElem? e1)) (Heap.get?_push_of_some _ e)
  len := ll
end
section
variable {prog : Program} {w : World} {A : Around} {E : Value → Shared → Prop} {s : Shared} {z TI TO : Addr} {is ls : List Addr} {k : Nat} {rows : List (List Value)}
theorem loadAlive_ok {a : Addr} {Q : Option Obj → Shared → Prop} (h : Q (s.heap.get? a) s) : wpAny (model prog w) A (loadIfAlive a) Q E s := fun _ _ _ => h
/-- whether its own tuple may be written again: either way it stands as it stood -/
theorem free_ok {f0 : Value} {f1 : Bool} {Q : Bool → Shared → Prop} (hz : s.heap.get? z = some (zO f0 f1 TI TO)) (hf : f0 = .none ∨ ∃ T : Addr, f0 = rawInt (T : Int))
    (h : ∀ b h' f1', h'.get? z = some (zO f0 f1' TI TO) → Heap.SameBut z s.heap h' → Q b { s with heap := h' }) : wpAny (model prog w) A (Builtin.SmallTypes.ownedTupleIsFree (.ref z)) Q E s := by
  unfold Builtin.SmallTypes.ownedTupleIsFree
  refine wpAny_bind (wpAny_field (x := f0) hz rfl rfl ?_)
  rcases hf with rfl | ⟨T, rfl⟩
  · exact wpAny_pure (h true s.heap f1 hz (Heap.SameBut.refl _ _))
  · show wpAny _ _ (loadIfAlive ((T : Int).toNat) >>= _) _ _ _
    refine wpAny_bind (loadAlive_ok ?_)
    cases s.heap.get? ((T : Int).toNat) with
    | none => exact wpAny_pure (h true s.heap f1 hz (Heap.SameBut.refl _ _))
    | some o =>
      simp only [Option.isNone_some, Bool.false_eq_true, if_false]
      refine wpAny_bind (wpAny_field (x := .bool f1) hz rfl rfl ?_)
      cases f1 with
      | true =>
        rw [if_neg (show ¬ ((Value.bool true != Value.bool true) = true) from fun e => nomatch e)]
        exact wpAny_pure (h false s.heap true hz (Heap.SameBut.refl _ _))
      | false =>
        rw [if_pos (show (Value.bool false != Value.bool true) = true from rfl)]
        refine wpAny_bind (wpAny_setField_rec hz (by simp) fun g hg sg => wpAny_pure ?_)
        exact h false g true hg sg
theorem set_mid {α : Type} {xs ys : List α} {j : Nat} {x : α} (hx : xs[j]? = some x) (hl : xs.length = ys.length) : (xs.take j ++ ys.drop j).set j x = xs.take (j + 1) ++ ys.drop (j + 1) := by
  have hj := (List.getElem?_eq_some_iff.mp hx).1
  have lt : (xs.take j).length = j := by rw [List.length_take]; omega
  rw [List.set_append_right _ _ (by omega), lt, Nat.sub_self, List.drop_eq_getElem_cons (by omega), List.set_cons_zero, List.take_add_one, hx, List.append_assoc]
  rfl
/-- the next row -/
theorem zip_row (D : ZAp z TI TO is ls) (st : ZSt s.heap z TI TO is ls k) (R : ZRw s.heap ls rows) (ne : is ≠ []) {xs : List Value} (hl : xs.length = is.length) (hs : is.length ≤ sizeLine) (hx : ∀ (j : Nat) (r : List Value) (x : Value), rows[j]? = some r → xs[j]? = some x → r[k]? = some x) {Q : Value → Shared → Prop}
    (hQ : ∀ h', ZSt h' z TI TO is ls (k + 1) → h'.get? s.heap.objs.size = some (tO xs) → h'.objs.size = s.heap.objs.size + 1 → (∀ c o, c ∉ z :: TI :: TO :: is → s.heap.get? c = some o → h'.get? c = some o) → Q (.ref s.heap.objs.size) { s with heap := h' }) :
    wpAny (model prog w) A (Builtin.«zip.__next__» ⟨[.ref z], []⟩) (fun fin s' => ∃ v, fin = .done (.ret v) ∧ Q v s') E s := by
  obtain ⟨⟨f0, f1, hz, hf⟩, hTI, ⟨ys, hy, hTO⟩, its, len⟩ := st
  have zlt : z < s.heap.objs.size := Heap.lt_size hz
  have TOlt : TO < s.heap.objs.size := Heap.lt_size hTO
  have TIlt : TI < s.heap.objs.size := Heap.lt_size hTI
  -- what a turn at the j-th iterator finds
  have at_j : ∀ (j : Nat) (i : Addr), is[j]? = some i → ∃ (l : Addr) (r : List Value) (x : Value), ls[j]? = some l ∧ rows[j]? = some r ∧ xs[j]? = some x ∧ r[k]? = some x ∧ i ∈ is ∧ l ∈ ls := fun j i hi => by
    have hj := (List.getElem?_eq_some_iff.mp hi).1
    have e1 : ls[j]? = some (ls[j]'(by omega)) := List.getElem?_eq_getElem (by omega)
    have e2 : rows[j]? = some (rows[j]'(by have := R.len; omega)) := List.getElem?_eq_getElem (by have := R.len; omega)
    have e3 : xs[j]? = some (xs[j]'(by omega)) := List.getElem?_eq_getElem (by omega)
    exact ⟨_, _, _, e1, e2, e3, hx j _ _ e2 e3, List.mem_of_getElem? hi, List.mem_of_getElem? e1⟩
  show wpAny _ A (field (Value.ref z) 2 >>= _) _ E s
  refine wpAny_bind (wpAny_field (x := .bool false) hz rfl rfl ?_)
  show wpAny _ A (field (Value.ref z) 3 >>= _) _ E s
  refine wpAny_bind (wpAny_field (x := .ref TI) hz rfl rfl ?_)
  refine wpAny_bind (wpAny_seqItems hTI rfl ?_)
  have nem : (is.map Value.ref).toArray.isEmpty = false := by
    cases is with
    | nil => exact absurd rfl ne
    | cons _ _ => rfl
  simp only [nem, Bool.false_eq_true, if_false]
  show wpAny _ A (Builtin.SmallTypes.ownedTupleIsFree (.ref z) >>= _) _ E s
  refine wpAny_bind (free_ok hz hf fun b h0 f1' hz0 sb0 => ?_)
  cases b with
  | true =>
    simp only [if_true]
    refine wpAny_bind (wpAny_rule ?_)
    refine wpAny_bind (wpAny_field (s := { s with heap := h0 }) (x := .ref TO) hz0 rfl rfl ?_)
    refine wpAny_bind (wpAny_setField_rec (s := { s with heap := h0 }) hz0 (by simp) fun h1 hz1 sb1 => ?_)
    refine wpAny_bind ?_
    have ty : (xs.take 0 ++ ys.drop 0) = ys := rfl
    have m1 : ZMid s.heap h1 z TI TO is ls k 0 .ellipsis f1' (xs.take 0 ++ ys.drop 0) := ZMid.fld (f0 := f0) (f1 := f1') (h1 := h0) (ZMid.fld (h1 := s.heap) (f0 := f0) (f1 := f1) ⟨hz, hTI, hTO, fun ix i l e1 e2 => its ix i l e1 e2, rfl, fun _ _ _ e => e⟩ D hz0 sb0) D hz1 sb1
    refine wpAny_forIn_list _ (fun rest b s1 => b = (none, ()) ∧ ∃ j h', s1 = { s with heap := h' } ∧ rest = ((is.map Value.ref).zipIdx).drop j ∧ ZMid s.heap h' z TI TO is ls k j .ellipsis f1' (xs.take j ++ ys.drop j)) _ ?_ ?_ _ _ ⟨rfl, 0, h1, rfl, rfl, m1⟩
    · intro x rest b s1 ⟨eb, j, h', es, er, m⟩
      subst eb
      subst es
      have hx0 : ((is.map Value.ref).zipIdx)[j]? = some x := by
        have := congrArg (fun l => l[0]?) er
        simpa using this.symm
      have er2 : rest = ((is.map Value.ref).zipIdx).drop (j + 1) := by
        have := congrArg List.tail er
        simpa using this
      rw [List.getElem?_zipIdx, List.getElem?_map] at hx0
      cases hi : is[j]? with
      | none => rw [hi] at hx0; cases hx0
      | some i =>
        rw [hi] at hx0
        cases hx0
        obtain ⟨l, r, x, hl1, hr, hx1, hrk, hm1, hm2⟩ := at_j j i hi
        have rl : h'.IsTuple l r.toArray := IsT.mv (R.at_ j l r hl1 hr) fun o => m.kept l o (D.off l hm2)
        have ti := m.its j i l hi hl1
        rw [if_neg (Nat.lt_irrefl _)] at ti
        refine wpAny_bind (wpAny_onRaise ?_)
        show wpAny _ _ (Builtin.SmallTypes.nextOf (.ref i) >>= _) _ _ _
        refine wpAny_bind (RZ.nextOf_tuple_item ti rl (x := x) (by simpa using hrk) fun h2 t2 sb2 => wpAny_pure ?_)
        have m2 := m.draw D hi hl1 t2 sb2
        refine wpAny_bind (wpAny_seqItems m2.hTO rfl ?_)
        refine wpAny_bind (wpAny_updateSeq (s := { s with heap := h2 }) m2.hTO rfl ?_ (by simp; omega) (by simp; omega))
        refine wpAny_bind (wpAny_letGo (wpAny_pure ?_))
        refine ⟨rfl, j + 1, _, rfl, er2, m2.own D (us := xs.take (j + 1) ++ ys.drop (j + 1)) ?_ (Heap.SameBut.update ..)⟩
        rw [Heap.get?_update_self _ m2.hTO rfl, ← set_mid hx1 (by omega)]
        simp [Obj.mapSeq, tO]
    · intro b s1 ⟨eb, j, h', es, er, m⟩
      subst eb
      subst es
      have hj : is.length ≤ j := by
        have := congrArg List.length er
        simp at this
        omega
      have eT : xs.take j ++ ys.drop j = xs := by rw [List.take_of_length_le (by omega), List.drop_of_length_le (by omega), List.append_nil]
      rw [eT] at m
      refine wpAny_bind (wpAny_seqItems m.hTO rfl ?_)
      refine wpAny_bind (wpAny_newTuple ?_ (show xs.length ≤ sizeLine by omega))
      show wpAny _ _ (Builtin.SmallTypes.ownedTupleHandOut (.ref z) (.ref h'.objs.size) >>= _) _ _ _
      refine wpAny_bind ?_
      unfold Builtin.SmallTypes.ownedTupleHandOut
      refine wpAny_bind (wpAny_setField_rec (s := { s with heap := h'.push (tO xs) }) (Heap.get?_push_of_some _ m.hz) (by simp) fun h3 hz3 sb3 => ?_)
      refine wpAny_setField_rec (s := { s with heap := h3 }) hz3 (by simp) fun h4 hz4 sb4 => ?_
      have sb := sb3.trans sb4
      refine wpAny_pure ⟨_, rfl, ?_⟩
      show Q (.ref h'.objs.size) _
      rw [m.size]
      refine hQ h4 (m.told hj len hl (tO xs) (.inr ⟨h'.objs.size, rfl⟩) D (g1 := false) hz4 sb) ?_ (by rw [sb.1, Heap.size_push, m.size]) fun c o hc e => sb.extBut c o (fun q => hc (by rw [q]; simp)) (Heap.get?_push_of_some _ (m.kept c o hc e))
      rw [← m.size]
      exact sb.extBut _ _ (Nat.ne_of_gt (Heap.lt_size m.hz)) (Heap.get?_push_size _ rfl)
  | false =>
    simp only [Bool.false_eq_true, if_false]
    refine wpAny_bind ?_
    have m1 : ZMid s.heap h0 z TI TO is ls k 0 f0 f1' ys := ZMid.fld (h1 := s.heap) (f0 := f0) (f1 := f1) ⟨hz, hTI, hTO, fun ix i l e1 e2 => its ix i l e1 e2, rfl, fun _ _ _ e => e⟩ D hz0 sb0
    refine wpAny_forIn_array' _ (fun rest b s1 => ∃ j h', b = (none, (xs.take j).toArray) ∧ s1 = { s with heap := h' } ∧ rest = (is.map Value.ref).drop j ∧ ZMid s.heap h' z TI TO is ls k j f0 f1' ys) _ ?_ ?_ _ _ ⟨0, h0, rfl, rfl, rfl, m1⟩
    · intro x rest b s1 ⟨j, h', eb, es, er, m⟩
      subst eb
      subst es
      have hx0 : (is.map Value.ref)[j]? = some x := by
        have := congrArg (fun l => l[0]?) er
        simpa using this.symm
      have er2 : rest = (is.map Value.ref).drop (j + 1) := by
        have := congrArg List.tail er
        simpa using this
      rw [List.getElem?_map] at hx0
      cases hi : is[j]? with
      | none => rw [hi] at hx0; cases hx0
      | some i =>
        rw [hi] at hx0
        cases hx0
        obtain ⟨l, r, x, hl1, hr, hx1, hrk, hm1, hm2⟩ := at_j j i hi
        have rl : h'.IsTuple l r.toArray := IsT.mv (R.at_ j l r hl1 hr) fun o => m.kept l o (D.off l hm2)
        have ti := m.its j i l hi hl1
        rw [if_neg (Nat.lt_irrefl _)] at ti
        refine wpAny_bind (wpAny_holding ?_)
        show wpAny _ _ (Builtin.SmallTypes.nextOf (.ref i) >>= _) _ _ _
        refine wpAny_bind (RZ.nextOf_tuple_item ti rl (x := x) (by simpa using hrk) fun h2 t2 sb2 => wpAny_pure ?_)
        refine wpAny_pure ⟨j + 1, h2, ?_, rfl, er2, m.draw D hi hl1 t2 sb2⟩
        rw [List.take_add_one, hx1]
        simp
    · intro b s1 ⟨j, h', eb, es, er, m⟩
      subst eb
      subst es
      have hj : is.length ≤ j := by
        have := congrArg List.length er
        simp at this
        omega
      have eT : xs.take j = xs := List.take_of_length_le (by omega)
      rw [eT]
      refine wpAny_bind (wpAny_newTuple ?_ (show xs.toArray.toList.length ≤ sizeLine by simp; omega))
      refine wpAny_pure ⟨_, rfl, ?_⟩
      show Q (.ref h'.objs.size) _
      rw [m.size]
      refine hQ _ (m.told hj len hy (tO xs) hf D (g1 := f1') (Heap.get?_push_of_some _ m.hz) (Heap.SameBut.refl _ _)) ?_ (by rw [Heap.size_push, m.size]) fun c o hc e => Heap.get?_push_of_some _ (m.kept c o hc e)
      rw [← m.size]
      exact Heap.get?_push_size _ rfl
/-- no row is left -/
theorem zip_end (hh : A.handled = none) (D : ZAp z TI TO is ls) (st : ZSt s.heap z TI TO is ls k) (R : ZRw s.heap ls rows) (ne : is ≠ []) (hx : ∀ r ∈ rows, r[k]? = none) {Q : Fin → Shared → Prop}
    (hE : ∀ h' e, (∀ c o, c ∉ z :: TI :: TO :: is → s.heap.get? c = some o → h'.get? c = some o) → (∃ o, h'.get? e = some o ∧ o.cls = .type "StopIteration") → E (.ref e) { s with heap := h' }) :
    wpAny (model prog w) A (Builtin.«zip.__next__» ⟨[.ref z], []⟩) Q E s := by
  obtain ⟨⟨f0, f1, hz, hf⟩, hTI, ⟨ys, hy, hTO⟩, its, len⟩ := st
  cases is with
  | nil => exact absurd rfl ne
  | cons i is =>
  cases ls with
  | nil => cases len
  | cons l ls =>
  have rl := R.len
  cases rows with
  | nil => cases rl
  | cons r rows =>
  have hr : r[k]? = none := hx r (by simp)
  have ti := its 0 i l rfl rfl
  have tl := R.at_ 0 l r rfl rfl
  have mi : i ∈ i :: is := by simp
  have ml : l ∉ z :: TI :: TO :: i :: is := D.off l (by simp)
  show wpAny _ A (field (Value.ref z) 2 >>= _) _ E s
  refine wpAny_bind (wpAny_field (x := .bool false) hz rfl rfl ?_)
  show wpAny _ A (field (Value.ref z) 3 >>= _) _ E s
  refine wpAny_bind (wpAny_field (x := .ref TI) hz rfl rfl ?_)
  refine wpAny_bind (wpAny_seqItems hTI rfl ?_)
  have nem : ((i :: is).map Value.ref).toArray.isEmpty = false := rfl
  simp only [nem, Bool.false_eq_true, if_false]
  show wpAny _ A (Builtin.SmallTypes.ownedTupleIsFree (.ref z) >>= _) _ E s
  refine wpAny_bind (free_ok hz hf fun b h0 f1' hz0 sb0 => ?_)
  cases b with
  | true =>
    simp only [if_true]
    refine wpAny_bind (wpAny_rule ?_)
    refine wpAny_bind (wpAny_field (s := { s with heap := h0 }) (x := .ref TO) hz0 rfl rfl ?_)
    refine wpAny_bind (wpAny_setField_rec (s := { s with heap := h0 }) hz0 (by simp) fun h1 hz1 sb1 => ?_)
    have sb := sb0.trans sb1
    refine wpAny_bind ?_
    simp only [List.map_cons, List.zipIdx_cons, List.forIn_cons]
    refine wpAny_bind (wpAny_bind (wpAny_onRaise ?_))
    show wpAny _ _ (Builtin.SmallTypes.nextOf (.ref i) >>= _) _ _ _
    refine wpAny_bind (RZ.nextOf_tuple_end hh (IsTI.mv ti fun o => sb.extBut i o (D.iz mi)) (IsT.mv tl fun o => sb.extBut l o (fun q => ml (by rw [q]; simp))) (by simpa using hr) fun h2 e sb2 he => ?_)
    obtain ⟨oe, hoe, hce⟩ := he
    have hz2 : h2.get? z = some (zO .ellipsis f1' TI TO) := sb2 _ _ (D.iz mi).symm hz1
    have hez : e ≠ z := fun x => by subst x; rw [hz2] at hoe; cases hoe; simp [zO] at hce
    refine wpAny_setField_rec hz2 (by simp) fun h3 _ sb3 => hE h3 e (fun c o hc x => sb3.extBut _ _ (fun q => hc (by rw [q]; simp)) (sb2 _ _ (fun q => hc (by rw [q]; simp)) (sb.extBut _ _ (fun q => hc (by rw [q]; simp)) x))) ⟨oe, sb3.extBut _ _ hez hoe, hce⟩
  | false =>
    simp only [Bool.false_eq_true, if_false]
    refine wpAny_bind ?_
    rw [← Array.forIn_toList]
    simp only [List.map_cons, List.forIn_cons]
    refine wpAny_bind (wpAny_bind (wpAny_holding ?_))
    show wpAny _ _ (Builtin.SmallTypes.nextOf (.ref i) >>= _) _ _ _
    exact wpAny_bind (RZ.nextOf_tuple_end hh (IsTI.mv ti fun o => sb0.extBut i o (D.iz mi)) (IsT.mv tl fun o => sb0.extBut l o (fun q => ml (by rw [q]; simp))) (by simpa using hr) fun h2 e sb2 he => hE h2 e (fun c o hc x => sb2 _ _ (fun q => hc (by rw [q]; simp)) (sb0.extBut _ _ (fun q => hc (by rw [q]; simp)) x)) he)
theorem next_row (D : ZAp z TI TO is ls) (st : ZSt s.heap z TI TO is ls k) (R : ZRw s.heap ls rows) (ne : is ≠ []) {xs : List Value} (hl : xs.length = is.length) (hs : is.length ≤ sizeLine) (hx : ∀ (j : Nat) (r : List Value) (x : Value), rows[j]? = some r → xs[j]? = some x → r[k]? = some x) {Q : Option Value → Shared → Prop}
    (hQ : ∀ h', ZSt h' z TI TO is ls (k + 1) → h'.get? s.heap.objs.size = some (tO xs) → h'.objs.size = s.heap.objs.size + 1 → (∀ c o, c ∉ z :: TI :: TO :: is → s.heap.get? c = some o → h'.get? c = some o) → Q (some (.ref s.heap.objs.size)) { s with heap := h' }) :
    wpAny (model prog w) A (pyNext (.ref z)) Q E s := by
  obtain ⟨f0, f1, hz, _⟩ := st.hz
  have hT : s.TypeIs (.ref z) "zip" := ⟨_, hz, rfl⟩
  unfold pyNext
  exact wpAny_bind (wpAny_attempt (wpAny_callSpecial?_slot (name := Str.ofString "__next__") hT F.slot_zip_next
    (wpAny_call_entry F.slot_zip_next hT F.entry_zip_next
      (zip_row D st R ne hl hs hx fun h' a1 a2 a3 a4 => wpAny_pure (hQ h' a1 a2 a3 a4)) (F.args_zip_next_1 _))))
theorem next_end (hh : A.handled = none) (D : ZAp z TI TO is ls) (st : ZSt s.heap z TI TO is ls k) (R : ZRw s.heap ls rows) (ne : is ≠ []) (hx : ∀ r ∈ rows, r[k]? = none) {Q : Option Value → Shared → Prop}
    (hQ : ∀ h', (∀ c o, c ∉ z :: TI :: TO :: is → s.heap.get? c = some o → h'.get? c = some o) → Q none { s with heap := h' }) : wpAny (model prog w) A (pyNext (.ref z)) Q E s := by
  obtain ⟨f0, f1, hz, _⟩ := st.hz
  have hT : s.TypeIs (.ref z) "zip" := ⟨_, hz, rfl⟩
  unfold pyNext
  refine wpAny_bind (wpAny_attempt (wpAny_callSpecial?_slot (name := Str.ofString "__next__") hT F.slot_zip_next
    (wpAny_call_entry F.slot_zip_next hT F.entry_zip_next (zip_end (A := A.in1) hh D st R ne hx fun h' e hk he => ?_) (F.args_zip_next_1 _))))
  obtain ⟨o, ho, hc⟩ := he
  refine wpAny_bind (wpAny_isInstance (T := "StopIteration") (b := true) ⟨o, ho, hc⟩ isSubtype_stop ?_)
  exact wpAny_pure (hQ _ hk)
theorem iter_zip {f0 : Value} {f1 : Bool} {Q : Value → Shared → Prop} (hz : s.heap.get? z = some (zO f0 f1 TI TO)) (h : Q (.ref z) s) : wpAny (model prog w) A (pyIter (.ref z)) Q E s := by
  have hT : s.TypeIs (.ref z) "zip" := ⟨_, hz, rfl⟩
  refine wpAny_pyIter_slot hT F.slot_zip_iter (wpAny_call_entry F.slot_zip_iter hT F.entry_zip_iter ?_ (F.args_zip_iter_1 _))
  show wpAny _ _ (ret (.ref z)) _ _ s
  exact wpAny_pure ⟨_, rfl, "zip", _, hT, F.slot_zip_next.lookup, h⟩
end
/-! ### zip(*rows) is made -/
theorem newCall_zipA (a : Value) (xs : List Value) : checkBuiltinCall "zip.__new__" ⟨.type "zip" :: a :: xs, []⟩ = pure () := by kernel_rfl
theorem typeCall_zipA (xs : List Value) : checkTypeCall "zip" ⟨xs, []⟩ = pure () := by kernel_rfl
theorem args_initA (o a : Value) (xs : List Value) : argsOk "object.__init__" ⟨o :: a :: xs, []⟩ := by
  unfold argsOk; rw [signature?_of (id := "object.__init__") (n := ['_', '_', 't', 'i', 'n', 'i', '_', '_']) (o := ['t', 'c', 'e', 'j', 'b', 'o']) (by kernel_rfl) F.owner_object]; kernel_rfl
def itsAt (b n : Nat) : List Addr := (List.range n).map (b + ·)
theorem itsAt_len {b n : Nat} : (itsAt b n).length = n := by simp [itsAt]
theorem itsAt_get {b n j : Nat} (h : j < n) : (itsAt b n)[j]? = some (b + j) := by simp [itsAt, h]
theorem itsAt_of {b n j i : Nat} (h : (itsAt b n)[j]? = some i) : j < n ∧ i = b + j := by
  have hj := (List.getElem?_eq_some_iff.mp h).1
  rw [itsAt_len] at hj
  rw [itsAt_get hj] at h
  cases h
  exact ⟨hj, rfl⟩
theorem itsAt_mem {b n i : Nat} (h : i ∈ itsAt b n) : b ≤ i ∧ i < b + n := by
  obtain ⟨j, hj, rfl⟩ := List.mem_map.mp h
  have := List.mem_range.mp hj
  omega
theorem itsAt_succ {b n : Nat} : itsAt b (n + 1) = itsAt b n ++ [b + n] := by simp [itsAt, List.range_succ]
/-- a new zip stands behind all others -/
structure ZNew (h h' : Heap) (ls : List Addr) : Prop where
  z0 : h'.get? (h.objs.size + ls.length + 2) = some (zO .none false (h.objs.size + ls.length) (h.objs.size + ls.length + 1))
  st : ZSt h' (h.objs.size + ls.length + 2) (h.objs.size + ls.length) (h.objs.size + ls.length + 1) (itsAt h.objs.size ls.length) ls 0
  size : h'.objs.size = h.objs.size + ls.length + 3
  kept : ∀ c o, h.get? c = some o → h'.get? c = some o
/-- the first j iterators are made -/
structure ZMk (h h' : Heap) (ls : List Addr) (j : Nat) : Prop where
  its : ∀ (ix : Nat) (l : Addr), ix < j → ls[ix]? = some l → h'.IsTupleIter (h.objs.size + ix) l 0
  size : h'.objs.size = h.objs.size + j
  kept : ∀ c o, h.get? c = some o → h'.get? c = some o
theorem ZMk.next {h h' : Heap} {ls : List Addr} {j : Nat} {l : Addr} (m : ZMk h h' ls j) (hl : ls[j]? = some l) : ZMk h (h'.push { cls := .type "tuple_iterator", data := .fields #[.ref l, .int 0 0] }) ls (j + 1) where
  its := fun ix l2 hi e => by
    by_cases q : ix = j
    · subst q
      rw [hl] at e
      cases e
      rw [← m.size]
      exact ⟨_, Heap.get?_push_size _ rfl, rfl, rfl⟩
    · exact IsTI.mv (m.its ix l2 (by omega) e) fun o q => Heap.get?_push_of_some _ q
  size := by rw [Heap.size_push, m.size]; omega
  kept := fun c o e => Heap.get?_push_of_some _ (m.kept c o e)
theorem meets_zipA (ls : List Addr) : Meets (Builtin.«zip.__new__» ⟨.type "zip" :: ls.map .ref, []⟩) (fun _ R s => (∀ l ∈ ls, ∃ items, s.heap.IsTuple l items) ∧ ls.length ≤ sizeLine ∧
      ∀ h', ZNew s.heap h' ls → R (.ok (.ret (.ref (s.heap.objs.size + ls.length + 2)))) { s with heap := h' }) :=
  .of_wp fun prog w A R s h => by
    obtain ⟨hT, hz, h⟩ := h
    unfold Builtin.«zip.__new__»
    refine wpAny_bind ?_
    unfold Builtin.SmallTypes.newClass
    refine wpAny_bind (wpAny_pure ?_)
    simp only [Bool.not_true, Bool.false_eq_true, if_false]
    refine wpAny_bind ?_
    rw [sub_zip]
    refine wpAny_pure ?_
    simp only [Bool.not_true, Bool.false_eq_true, if_false]
    refine wpAny_pure ?_
    simp only [List.length_nil, gt_iff_lt, Nat.not_lt_zero, if_false]
    refine wpAny_bind ?_
    unfold Builtin.SmallTypes.iterAll
    refine wpAny_bind ?_
    refine wpAny_forIn_list _ (fun rest b s1 => ∃ j h', b = ((itsAt s.heap.objs.size j).map Value.ref).toArray ∧ s1 = { s with heap := h' } ∧ rest = (ls.map Value.ref).drop j ∧ j ≤ ls.length ∧ ZMk s.heap h' ls j) _ ?_ ?_ _ _ ⟨0, s.heap, rfl, rfl, rfl, Nat.zero_le _, fun _ _ q => absurd q (Nat.not_lt_zero _), rfl, fun _ _ q => q⟩
    · intro x rest b s1 ⟨j, h1, eb, es, er, hj, m⟩
      subst eb
      subst es
      have hx0 : (ls.map Value.ref)[j]? = some x := by
        have := congrArg (fun l => l[0]?) er
        simpa using this.symm
      have er2 : rest = (ls.map Value.ref).drop (j + 1) := by
        have := congrArg List.tail er
        simpa using this
      rw [List.getElem?_map] at hx0
      cases hl : ls[j]? with
      | none => rw [hl] at hx0; cases hx0
      | some l =>
        rw [hl] at hx0
        cases hx0
        obtain ⟨items, hi⟩ := hT l (List.mem_of_getElem? hl)
        refine wpAny_bind (wpAny_holding ?_)
        refine wpAny_pyIter_tuple (s := { s with heap := h1 }) (IsT.mv hi fun o => m.kept l o) ?_
        refine wpAny_pure ⟨j + 1, _, ?_, rfl, er2, (List.getElem?_eq_some_iff.mp hl).1, m.next hl⟩
        rw [itsAt_succ, m.size]
        simp
    · intro b s1 ⟨j, h1, eb, es, er, hj, m⟩
      subst eb
      subst es
      have hj2 : j = ls.length := by
        have := congrArg List.length er
        simp at this
        omega
      subst hj2
      refine wpAny_pure ?_
      refine wpAny_bind (wpAny_newTuple ?_ (by simp [itsAt_len]; omega))
      refine wpAny_bind (wpAny_newTuple ?_ (by simp [itsAt_len]; omega))
      refine wpAny_bind ?_
      unfold Builtin.SmallTypes.newRecord
      refine wpAny_newObj_type ?_ ?szx
      rotate_left
      · exact by simp [sizeOk, Builtin.SmallTypes.ownedTupleFields, sizeLine]
      refine wpAny_pure ⟨_, rfl, ?_⟩
      have z1 : (h1.push (tO ((itsAt s.heap.objs.size ls.length).map .ref))).objs.size = s.heap.objs.size + ls.length + 1 := by rw [Heap.size_push, m.size]
      have z2 : ((h1.push (tO ((itsAt s.heap.objs.size ls.length).map .ref))).push (tO (((itsAt s.heap.objs.size ls.length).map Value.ref).map fun _ => .none))).objs.size = s.heap.objs.size + ls.length + 2 := by rw [Heap.size_push, z1]
      have nw : ZNew s.heap (((h1.push (tO ((itsAt s.heap.objs.size ls.length).map .ref))).push (tO (((itsAt s.heap.objs.size ls.length).map Value.ref).map fun _ => .none))).push (zO .none false (s.heap.objs.size + ls.length) (s.heap.objs.size + ls.length + 1))) ls := by
        refine ⟨by rw [← z2]; exact Heap.get?_push_size _ rfl, ⟨⟨_, _, by rw [← z2]; exact Heap.get?_push_size _ rfl, .inl rfl⟩, ?_, ⟨((itsAt s.heap.objs.size ls.length).map Value.ref).map fun _ => .none, ?_, ?_⟩, fun j i l e1 e2 => ?_, itsAt_len⟩, by rw [Heap.size_push, z2], fun c o e => Heap.get?_push_of_some _ (Heap.get?_push_of_some _ (Heap.get?_push_of_some _ (m.kept c o e)))⟩
        · exact Heap.get?_push_of_some _ (Heap.get?_push_of_some _ (by rw [← m.size]; exact Heap.get?_push_size _ rfl))
        · simp
        · exact Heap.get?_push_of_some _ (by rw [← z1]; exact Heap.get?_push_size _ rfl)
        · obtain ⟨hj, rfl⟩ := itsAt_of e1
          exact IsTI.mv (m.its j l hj e2) fun o q => Heap.get?_push_of_some _ (Heap.get?_push_of_some _ (Heap.get?_push_of_some _ q))
      have z := h _ nw
      rw [← z2] at z
      have e1 : s.heap.objs.size + ls.length = h1.objs.size := m.size.symm
      have e2 : s.heap.objs.size + ls.length + 1 = (h1.push (tO ((itsAt s.heap.objs.size ls.length).map .ref))).objs.size := z1.symm
      rw [e2, e1] at z
      simpa [tO, zO, Builtin.SmallTypes.ownedTupleFields] using z
section
variable {prog : Program} {w : World} {A : Around} {E : Value → Shared → Prop} {s : Shared}
theorem call_zipA {l : Addr} {ls : List Addr} {Q : Value → Shared → Prop} (hT : ∀ a ∈ l :: ls, ∃ items, s.heap.IsTuple a items) (hz : (l :: ls).length ≤ sizeLine)
    (h : ∀ h', ZNew s.heap h' (l :: ls) → Q (.ref (s.heap.objs.size + (l :: ls).length + 2)) { s with heap := h' }) :
    wpAny (model prog w) A (call (.type "zip") ((l :: ls).map .ref)) Q E s := by
  refine callType_new F.called_zip (by decide) (typeCall_zipA _) (newCall_zipA _ _) (fun obj => args_initA obj _ _) F.entry_zip_new (meets_zipA (l :: ls)) ⟨hT, hz, fun h' nw => ?_⟩
  obtain ⟨f0, f1, q, _⟩ := nw.st.hz
  exact ⟨⟨_, q, rfl⟩, h h' nw⟩
theorem ZNew.apart {h h' : Heap} {ls : List Addr} (nw : ZNew h h' ls) (hl : ∀ l ∈ ls, l < h.objs.size) : ZAp (h.objs.size + ls.length + 2) (h.objs.size + ls.length) (h.objs.size + ls.length + 1) (itsAt h.objs.size ls.length) ls where
  nd := by
    have a : ∀ i ∈ itsAt h.objs.size ls.length, i < h.objs.size + ls.length := fun i q => (itsAt_mem q).2
    refine List.nodup_cons.mpr ⟨fun q => ?_, List.nodup_cons.mpr ⟨fun q => ?_, List.nodup_cons.mpr ⟨fun q => Nat.lt_irrefl _ (Nat.lt_trans (Nat.lt_succ_self _) (a _ q)), ?_⟩⟩⟩
    · rcases List.mem_cons.mp q with q | q
      · exact (by omega : ¬ ((h.objs.size + ls.length + 2 : Nat) = h.objs.size + ls.length)) q
      · rcases List.mem_cons.mp q with q | q
        · exact (by omega : ¬ ((h.objs.size + ls.length + 2 : Nat) = h.objs.size + ls.length + 1)) q
        · exact (by omega : ¬ ((h.objs.size + ls.length + 2 : Nat) < h.objs.size + ls.length)) (a _ q)
    · rcases List.mem_cons.mp q with q | q
      · exact (by omega : ¬ ((h.objs.size + ls.length : Nat) = h.objs.size + ls.length + 1)) q
      · exact Nat.lt_irrefl _ (a _ q)
    · unfold itsAt List.Nodup
      rw [List.pairwise_map]
      exact List.nodup_range.imp fun hn e => hn (Nat.add_left_cancel e)
  off := fun l hm q => by
    have lt : ∀ k : Nat, ¬ ((l : Nat) = h.objs.size + k) := fun k e => by
      have := hl l hm
      rw [e] at this
      exact absurd (show (h.objs.size + k : Nat) < h.objs.size from this) (by omega)
    rcases List.mem_cons.mp q with q | q
    · exact lt (ls.length + 2) q
    · rcases List.mem_cons.mp q with q | q
      · exact lt ls.length q
      · rcases List.mem_cons.mp q with q | q
        · exact lt (ls.length + 1) q
        · obtain ⟨k, _, e⟩ := List.mem_map.mp q
          exact lt k e.symm
end
/-! ### zip(*rows) in a loop's head -/
def TupsAt (K : PySem.W.Frag) (H : Hp) (ls : List Addr) (rows : List (List V)) : Prop := rows.length = ls.length ∧ ∀ (j : Nat) (l : Addr) (r : List V), ls[j]? = some l → rows[j]? = some r → SqT K H l r
/-- the rows of tuples as they stand at each turn, the items in a new tuple -/
def ItzS (K : PySem.W.Frag) (ls : List Addr) : It :=
  ⟨fun i H => ∃ rows, TupsAt K H ls rows ∧ ∀ r ∈ rows, i < r.length,
    fun i H v H' => ∃ T xs, v = .ref T ∧ H T = none ∧ H' = upd H T (.tup xs) ∧ xs.length = ls.length ∧ ∀ rows, TupsAt K H ls rows → ∀ (j : Nat) (r : List V) (x : V), rows[j]? = some r → xs[j]? = some x → r[i]? = some x,
    fun i H => ∃ rows, TupsAt K H ls rows ∧ ∀ r ∈ rows, r.length ≤ i⟩
theorem tups_val {X : Cx} {pins : List (Addr × Obj)} {σ : L2.St} {H : Hp} {s : Shared} (I : Inv X pins σ H s) : ∀ {ls : List Addr} {rows : List (List V)}, TupsAt X.K H ls rows →
    ∃ vr, ZRw s.heap ls vr ∧ vr.length = rows.length ∧ ∀ (j : Nat) (r : List V) (u : List Value), rows[j]? = some r → vr[j]? = some u → Vals r u
  | [], rows, h => by
    have e : rows = [] := List.length_eq_zero_iff.mp h.1
    subst e
    exact ⟨[], ⟨rfl, fun j l r e => nomatch e⟩, rfl, fun j r u e => nomatch e⟩
  | l :: ls, [], h => nomatch h.1
  | l :: ls, r :: rows, h => by
    obtain ⟨vr, z1, z2, z3⟩ := tups_val I (ls := ls) (rows := rows) ⟨by simpa using h.1, fun j l r e1 e2 => h.2 (j + 1) l r e1 e2⟩
    obtain ⟨its, rv, p, _⟩ := I.tuple (h.2 0 l r rfl rfl)
    refine ⟨its :: vr, ⟨by simp [z1.len], fun j l2 r2 e1 e2 => ?_⟩, by simp [z2], fun j r2 u2 e1 e2 => ?_⟩
    · cases j with
      | zero =>
        cases e1
        cases e2
        exact p
      | succ j => exact z1.at_ j l2 r2 e1 e2
    · cases j with
      | zero =>
        cases e1
        cases e2
        exact rv
      | succ j => exact z3 j r2 u2 e1 e2
theorem col_val {i : Nat} : ∀ {rows : List (List V)} {vr : List (List Value)}, vr.length = rows.length → (∀ (j : Nat) (r : List V) (u : List Value), rows[j]? = some r → vr[j]? = some u → Vals r u) → (∀ r ∈ rows, i < r.length) →
    ∃ xs us, Vals xs us ∧ xs.length = rows.length ∧ (∀ (j : Nat) (r : List V) (x : V), rows[j]? = some r → xs[j]? = some x → r[i]? = some x) ∧ ∀ (j : Nat) (r : List Value) (x : Value), vr[j]? = some r → us[j]? = some x → r[i]? = some x
  | [], [], _, _, _ => ⟨[], [], .nil, rfl, fun j r x e => (nomatch e), fun j r x e => (nomatch e)⟩
  | r :: rows, u :: vr, hl, hv, hi => by
    obtain ⟨xs, us, z1, z2, z3, z4⟩ := col_val (i := i) (rows := rows) (vr := vr) (by simpa using hl) (fun j r u e1 e2 => hv (j + 1) r u e1 e2) fun r hr => hi r (List.mem_cons_of_mem _ hr)
    have lt := hi r (by simp)
    obtain ⟨y, hy, ry⟩ := (hv 0 r u rfl rfl).get (List.getElem?_eq_getElem lt)
    refine ⟨r[i] :: xs, y :: us, .cons ry z1, by simp [z2], fun j r2 x2 e1 e2 => ?_, fun j r2 x2 e1 e2 => ?_⟩
    · cases j with
      | zero =>
        cases e1
        cases e2
        exact List.getElem?_eq_getElem lt
      | succ j => exact z3 j r2 x2 e1 e2
    · cases j with
      | zero =>
        cases e1
        cases e2
        exact hy
      | succ j => exact z4 j r2 x2 e1 e2
theorem turn_zipS {P : Program} {w : World} {K : PySem.W.Frag} {x : Str} {xp : Pos} {z TI TO : Addr} {is ls : List Addr} (D : ZAp z TI TO is ls) (ne : ls ≠ []) (sz : ls.length ≤ sizeLine) :
    Turn P w K (.Name x xp) (ItzS K ls) (z :: TI :: TO :: is) z (fun i h => ZSt h z TI TO is ls i) where
  mem := by simp
  obj := fun i h st c hc => by
    obtain ⟨f0, f1, hz, _⟩ := st.hz
    obtain ⟨ys, _, hTO⟩ := st.hTO
    rcases List.mem_cons.mp hc with q | q
    · rw [q]; exact ⟨_, hz, fun v q => nomatch q⟩
    rcases List.mem_cons.mp q with q | q
    · rw [q]; exact ⟨_, st.hTI, fun v q => nomatch q⟩
    rcases List.mem_cons.mp q with q | q
    · rw [q]; exact ⟨_, hTO, fun v q => nomatch q⟩
    obtain ⟨j, hj⟩ := List.mem_iff_getElem?.mp q
    have lt := (List.getElem?_eq_some_iff.mp hj).1
    obtain ⟨o, e, _, d⟩ := st.its j c _ hj (List.getElem?_eq_getElem (by have := st.len; omega))
    exact ⟨o, e, fun v q => by rw [d] at q; cases q⟩
  keep := fun i h h' st k => by
    obtain ⟨⟨f0, f1, hz, hf⟩, hTI, ⟨ys, hy, hTO⟩, its, len⟩ := st
    exact ⟨⟨f0, f1, k z (by simp) _ hz, hf⟩, k TI (by simp) _ hTI, ⟨ys, hy, k TO (by simp) _ hTO⟩, fun j a l e1 e2 => IsTI.mv (its j a l e1 e2) fun o q => k a (by simp [List.mem_of_getElem? e1]) o q, len⟩
  item := by
    intro X hP hw hK hc i pins s σ H E I hf st hg
    subst hP hw hK
    obtain ⟨rows, tr, hlt⟩ := hg
    obtain ⟨vr, R, el, hv⟩ := tups_val I tr
    obtain ⟨xs, us, rv, lx, hx, hu⟩ := col_val el hv hlt
    have lis : is.length = ls.length := st.len
    have lus : us.length = is.length := by rw [← rv.length, lx, tr.1, lis]
    have nis : is ≠ [] := fun q => ne (List.length_eq_zero_iff.mp (by rw [← lis, q]; rfl))
    have zlt : z < s.heap.objs.size := by
      obtain ⟨_, _, hz, _⟩ := st.hz
      exact Heap.lt_size hz
    refine next_row D st R nis lus (by omega) hu fun h' st' hT hsz hk => ?_
    refine ⟨_, rfl, wpAny_pure ?_⟩
    have new : ObjOk X.prog X.w (upd H s.heap.objs.size (.tup xs)) h' s.heap.objs.size (.tup xs) := ⟨by rw [lx, tr.1]; exact sz, us, rv, ⟨_, hT, rfl, _, rfl⟩⟩
    have I1 : Inv X pins σ (upd H s.heap.objs.size (.tup xs)) { s with heap := h' } := I.turnedNew (t' := s.toks) (ch := z :: TI :: TO :: is) (fun c o hb q => hk c o hb q) hf (Nat.le_refl _) new
    refine ⟨.ref s.heap.objs.size, _, I1, rfl, ⟨_, xs, rfl, I.hok.fresh (Nat.le_refl _), rfl, by rw [lx, tr.1], fun rows2 tr2 j r x e1 e2 => ?_⟩, st', fun c hcm => ?_⟩
    · have hj : j < rows.length := by have := (List.getElem?_eq_some_iff.mp e2).1; omega
      have e3 : rows[j]? = some rows[j] := List.getElem?_eq_getElem hj
      have lj : ls[j]? = some (ls[j]'(by have := tr.1; omega)) := List.getElem?_eq_getElem (by have := tr.1; omega)
      rw [I.tuple_inj (tr2.2 j _ r lj e1) (tr.2 j _ _ lj e3)]
      exact hx j _ x e3 e2
    · have hn := (hf c hcm).1
      by_cases q : c = s.heap.objs.size
      · obtain ⟨o, e, _⟩ : ∃ o, s.heap.get? c = some o ∧ True := by
          obtain ⟨f0, f1, hz, _⟩ := st.hz
          obtain ⟨ys, _, hTO⟩ := st.hTO
          rcases List.mem_cons.mp hcm with q | q
          · rw [q]; exact ⟨_, hz, trivial⟩
          rcases List.mem_cons.mp q with q | q
          · rw [q]; exact ⟨_, st.hTI, trivial⟩
          rcases List.mem_cons.mp q with q | q
          · rw [q]; exact ⟨_, hTO, trivial⟩
          obtain ⟨j, hj⟩ := List.mem_iff_getElem?.mp q
          have lt := (List.getElem?_eq_some_iff.mp hj).1
          obtain ⟨o, e, _⟩ := st.its j c _ hj (List.getElem?_eq_getElem (by omega))
          exact ⟨o, e, trivial⟩
        exact absurd (Heap.lt_size e) (by rw [q]; exact Nat.lt_irrefl _)
      · rw [upd_ne q]
        exact hn
  done := by
    intro X hP hw hK hc i pins s σ H E I hf st hg
    subst hP hw hK
    obtain ⟨rows, tr, hle⟩ := hg
    obtain ⟨vr, R, el, hv⟩ := tups_val I tr
    have lis : is.length = ls.length := st.len
    have nis : is ≠ [] := fun q => ne (List.length_eq_zero_iff.mp (by rw [← lis, q]; rfl))
    refine next_end (I.ok.hd hc) D st R nis (fun r hr => ?_) fun h' hk => ⟨rfl, I.turnedL (t' := s.toks) (ch := z :: TI :: TO :: is) (fun c o hb q => hk c o hb q) hf⟩
    obtain ⟨j, hj⟩ := List.mem_iff_getElem?.mp hr
    have lt := (List.getElem?_eq_some_iff.mp hj).1
    have e3 : rows[j]? = some (rows[j]'(by omega)) := List.getElem?_eq_getElem (by omega)
    have := (hv j _ _ e3 hj).length
    have := hle _ (List.mem_of_getElem? e3)
    exact List.getElem?_eq_none (by omega)
  self := fun A i s Q E st h => by
    obtain ⟨f0, f1, hz, _⟩ := st.hz
    exact iter_zip hz h
section
variable {M : Model} {A : Around} {E : Value → Shared → Prop} {s : Shared} {env : Env} {pos p : Pos} {T : String} {Q : Value → Shared → Prop} {e : Expr}
/-- T(*e), T a type -/
theorem callWith_tS (h : wpAny M A (eval e env) (fun v s₁ => PySem.W.StarOf M A E v (fun vs s₂ => wpAny M A (call (.type T) vs) Q E s₂) s₁) E s)
    (he : starEach [.Starred e p] env = [(true, eval e env)]) :
    wpAny M A (callWith pos (.type T) [] (backTo pos (starEach [.Starred e p] env)) []) Q E s := by
  rw [he]
  refine PySem.W.ks_call (P := fun _ => True) rfl (fun h _ => ⟨Keeper.machine, .inr (.inl rfl), PySem.W.Looks.now⟩) (PySem.W.ks_lone ?_)
  exact wpAny_mono h (fun v s1 h1 => wpAny_mono h1 (fun b s2 ⟨h2, h3⟩ => ⟨h2, wpAny_mono h3 (fun vs s3 h4 => ⟨trivial, h4⟩) fun _ _ x => x⟩) fun _ _ x => x) fun _ _ x => x
end
theorem refs_vals : ∀ {ls : List Addr} {us : List Value}, Vals (ls.map V.ref) us → us = ls.map Value.ref
  | [], _, .nil => rfl
  | l :: ls, _, .cons r t => by
    cases r
    rw [refs_vals t]
    rfl
def iZipS (K : PySem.W.Frag) (te : TE) : TI := fun σ H R => te σ H fun v H1 => ∃ (p : Addr) (las : List Addr) (rows : List (List V)), v = .ref p ∧ (SqT K H1 p (las.map V.ref) ∨ SqL K H1 p (las.map V.ref)) ∧ las ≠ [] ∧ TupsAt K H1 las rows ∧ R (ItzS K las) H1
theorem pi_zipS {X : Cx} {e : Expr} {te : TE} {x : Str} {xp p sp pos : Pos} (hg : Gl X "zip") (hm : X.mg "zip" = none) (he : PE X e te) (hst : starEach [.Starred e sp] X.env = [(true, eval e X.env)] := by rfl) :
    PI X (.Name x xp) (.Call (.Name "zip" p) [.Starred e sp] [] pos) (iZipS X.K te) := by
  refine ⟨fun pins s σ H R I h => ?_⟩
  refine Call_ (ld_blt I hg hm PyProof.Rows.boot_zip (callWith_tS (thn (he.run pins s σ H _ I h) fun v s1 ⟨y, H1, I1, ry, q1⟩ => ?_) hst))
  obtain ⟨a, las, rows, ey, hq, ne, tr, q⟩ := q1
  subst ey
  obtain rfl : v = Value.ref a := ry
  refine StX.star_any I1 hq fun us s2 I2 rv => ?_
  obtain rfl := refs_vals rv
  obtain ⟨vr, R1, el, hv⟩ := tups_val I2 tr
  cases las with
  | nil => exact absurd rfl ne
  | cons l ls =>
  have hT : ∀ b ∈ l :: ls, ∃ items, s2.heap.IsTuple b items := fun b hb => by
    obtain ⟨j, hj⟩ := List.mem_iff_getElem?.mp hb
    have lt := (List.getElem?_eq_some_iff.mp hj).1
    exact ⟨_, R1.at_ j b _ hj (List.getElem?_eq_getElem (by have := R1.len; omega))⟩
  have hz : (l :: ls).length ≤ sizeLine := by
    rcases hq with hq | hq
    · obtain ⟨_, _, _, z⟩ := I2.tuple hq
      simpa using z
    · obtain ⟨_, _, _, z⟩ := I2.list hq
      simpa using z
  refine call_zipA hT hz fun h' nw => ?_
  have D := nw.apart fun b hb => by
    obtain ⟨items, o, ho, _⟩ := hT b hb
    exact Heap.lt_size ho
  obtain ⟨f0, f1, hz0, _⟩ := nw.st.hz
  refine iter_zip hz0 ?_
  have I3 : Inv X pins σ H1 { s2 with heap := h' } := I2.kept (t' := s2.toks) nw.kept
  refine ⟨_, _, _, _, H1, rfl, I3, turn_zipS D ne hz, nw.st, fun c hc => ?_, q⟩
  have hle : s2.heap.objs.size ≤ c := by
    rcases List.mem_cons.mp hc with q | q
    · rw [q]; exact (by omega : (s2.heap.objs.size : Nat) ≤ s2.heap.objs.size + (l :: ls).length + 2)
    rcases List.mem_cons.mp q with q | q
    · rw [q]; exact (by omega : (s2.heap.objs.size : Nat) ≤ s2.heap.objs.size + (l :: ls).length)
    rcases List.mem_cons.mp q with q | q
    · rw [q]; exact (by omega : (s2.heap.objs.size : Nat) ≤ s2.heap.objs.size + (l :: ls).length + 1)
    exact (itsAt_mem q).1
  exact I2.fpOk hle (I2.hok.fresh hle)
end Lk
/-! DE: enumerate(zip(*rows)) as a loop's head. -/
namespace Lk
open PySem PySem.Spec PyProof.Rows L2
theorem sub_enum2 : isSubtype (.type "enumerate") (.type "enumerate") = pure true := by rw [isSubtype_type]; kernel_rfl
section
variable {prog : Program} {w : World} {A : Around} {E : Value → Shared → Prop} {s : Shared} {e z TI TO : Addr} {is ls : List Addr} {k : Nat} {rows : List (List Value)} {old : Value}
theorem nextOf_row (D : ZAp z TI TO is ls) (st : ZSt s.heap z TI TO is ls k) (R : ZRw s.heap ls rows) (ne : is ≠ []) {xs : List Value} (hl : xs.length = is.length) (hs : is.length ≤ sizeLine) (hx : ∀ (j : Nat) (r : List Value) (x : Value), rows[j]? = some r → xs[j]? = some x → r[k]? = some x) {Q : Value → Shared → Prop}
    (hQ : ∀ h', ZSt h' z TI TO is ls (k + 1) → h'.get? s.heap.objs.size = some (tO xs) → h'.objs.size = s.heap.objs.size + 1 → (∀ c o, c ∉ z :: TI :: TO :: is → s.heap.get? c = some o → h'.get? c = some o) → Q (.ref s.heap.objs.size) { s with heap := h' }) :
    wpAny (model prog w) A (Builtin.SmallTypes.nextOf (.ref z)) Q E s := by
  obtain ⟨f0, f1, hz, _⟩ := st.hz
  have hT : s.TypeIs (.ref z) "zip" := ⟨_, hz, rfl⟩
  unfold Builtin.SmallTypes.nextOf
  exact wpAny_bind (wpAny_callSpecial?_slot (name := Str.ofString "__next__") hT F.slot_zip_next
    (wpAny_call_entry F.slot_zip_next hT F.entry_zip_next (zip_row D st R ne hl hs hx fun h' a1 a2 a3 a4 => wpAny_pure (hQ h' a1 a2 a3 a4)) (F.args_zip_next_1 _)))
theorem nextOf_rend (hh : A.handled = none) (D : ZAp z TI TO is ls) (st : ZSt s.heap z TI TO is ls k) (R : ZRw s.heap ls rows) (ne : is ≠ []) (hx : ∀ r ∈ rows, r[k]? = none) {Q : Value → Shared → Prop}
    (hE : ∀ h' x, (∀ c o, c ∉ z :: TI :: TO :: is → s.heap.get? c = some o → h'.get? c = some o) → (∃ o, h'.get? x = some o ∧ o.cls = .type "StopIteration") → E (.ref x) { s with heap := h' }) :
    wpAny (model prog w) A (Builtin.SmallTypes.nextOf (.ref z)) Q E s := by
  obtain ⟨f0, f1, hz, _⟩ := st.hz
  have hT : s.TypeIs (.ref z) "zip" := ⟨_, hz, rfl⟩
  unfold Builtin.SmallTypes.nextOf
  exact wpAny_bind (wpAny_callSpecial?_slot (name := Str.ofString "__next__") hT F.slot_zip_next
    (wpAny_call_entry F.slot_zip_next hT F.entry_zip_next (zip_end (A := A.in1) hh D st R ne hx fun h' x a1 a2 => hE h' x a1 a2) (F.args_zip_next_1 _)))
/-- the next pair of a number and a row -/
theorem en_row (D : ZAp z TI TO is ls) (ez : e ∉ z :: TI :: TO :: is) (he : IsEnum s.heap e z (k : Int) old) (st : ZSt s.heap z TI TO is ls k) (R : ZRw s.heap ls rows) (ne : is ≠ []) {xs : List Value} (hl : xs.length = is.length) (hs : is.length ≤ sizeLine) (hx : ∀ (j : Nat) (r : List Value) (x : Value), rows[j]? = some r → xs[j]? = some x → r[k]? = some x) {Q : Value → Shared → Prop}
    (hQ : ∀ h1 h', ZSt h1 z TI TO is ls (k + 1) → h1.get? s.heap.objs.size = some (tO xs) → h1.objs.size = s.heap.objs.size + 1 → (∀ c o, c ∉ z :: TI :: TO :: is → s.heap.get? c = some o → h1.get? c = some o) →
      IsEnumOut h' e z ((k : Int) + 1) (.ref s.heap.objs.size) (s.heap.objs.size + 1) → h'.get? (s.heap.objs.size + 1) = some (tO [.int k s.toks, .ref s.heap.objs.size]) → (∀ c o, c ≠ e → h1.get? c = some o → h'.get? c = some o) → Q (.ref (s.heap.objs.size + 1)) { s with heap := h', toks := s.toks + 1 }) :
    wpAny (model prog w) A (Builtin.«enumerate.__next__» ⟨[.ref e], []⟩) (fun fin s' => ∃ v, fin = .done (.ret v) ∧ Q v s') E s := by
  show wpAny _ A (field (Value.ref e) 2 >>= _) _ E s
  refine wpAny_bind (wpAny_field (x := .ref z) he rfl rfl ?_)
  refine wpAny_bind (nextOf_row D st R ne hl hs hx fun h1 st1 hT1 z1 k1 => ?_)
  have e1 : IsEnum h1 e z (k : Int) old := k1 e _ ez he
  show wpAny _ A (field (Value.ref e) 3 >>= _) _ E { s with heap := h1 }
  refine wpAny_bind (wpAny_field (x := rawInt (k : Int)) e1 rfl rfl ?_)
  show wpAny _ A (field (Value.ref e) 4 >>= _) _ E { s with heap := h1 }
  refine wpAny_bind (wpAny_field (x := .none) e1 rfl rfl ?_)
  show wpAny _ A (mkInt (k : Int) >>= _) _ E { s with heap := h1 }
  refine wpAny_bind (wpAny_mkInt ?_)
  refine wpAny_bind (wpAny_setField_rec (s := { s with heap := h1, toks := s.toks + 1 }) e1 (by simp) fun h2 e2 sb2 => ?_)
  refine wpAny_bind (wpAny_setField_rec (s := { s with heap := h2, toks := s.toks + 1 }) e2 (by simp) fun h3 e3 sb3 => ?_)
  refine wpAny_bind (wpAny_newTuple ?_)
  have z3 : h3.objs.size = s.heap.objs.size + 1 := by rw [sb3.1, sb2.1]; exact z1
  have e4 : IsEnum (h3.push (tO [.int k s.toks, .ref s.heap.objs.size])) e z ((k : Int) + 1) old := Heap.get?_push_of_some _ e3
  have t4 : (h3.push (tO [.int k s.toks, .ref s.heap.objs.size])).get? (s.heap.objs.size + 1) = some (tO [.int k s.toks, .ref s.heap.objs.size]) := by rw [← z3]; exact Heap.get?_push_size _ rfl
  have k4 : ∀ c o, c ≠ e → h1.get? c = some o → (h3.push (tO [.int k s.toks, .ref s.heap.objs.size])).get? c = some o := fun c o hc q => Heap.get?_push_of_some _ (sb3.extBut c o hc (sb2.extBut c o hc q))
  have el : e < s.heap.objs.size := Heap.lt_size he
  have e4n : (s.heap.objs.size + 1 : Nat) ≠ e := fun q => by
    have : e < e := Nat.lt_of_lt_of_le el (by rw [← q]; exact Nat.le_succ _)
    exact Nat.lt_irrefl _ this
  show wpAny _ A (Builtin.SmallTypes.ownedTupleIsFree (.ref e) >>= _) _ E { s with heap := h3.push (tO [.int k s.toks, .ref s.heap.objs.size]), toks := s.toks + 1 }
  refine wpAny_bind ?_
  unfold Builtin.SmallTypes.ownedTupleIsFree
  refine wpAny_bind (wpAny_field (x := .none) e4 rfl rfl (wpAny_pure ?_))
  simp only [if_true]
  refine wpAny_bind (wpAny_rule ?_)
  refine wpAny_bind (wpAny_field (x := old) e4 rfl rfl ?_)
  refine wpAny_bind (wpAny_setField_rec (s := { s with heap := h3.push (tO [.int k s.toks, .ref s.heap.objs.size]), toks := s.toks + 1 }) e4 (by simp) fun h5 e5 sb5 => ?_)
  rw [show (Value.ref ({ s with heap := h3, toks := s.toks + 1 } : Shared).heap.objs.size) = .ref (s.heap.objs.size + 1) from congrArg Value.ref z3]
  refine wpAny_bind ?_
  unfold Builtin.SmallTypes.ownedTupleHandOut
  refine wpAny_bind (wpAny_setField_rec (s := { s with heap := h5, toks := s.toks + 1 }) e5 (by simp) fun h6 e6 sb6 => ?_)
  refine wpAny_setField_rec (s := { s with heap := h6, toks := s.toks + 1 }) e6 (by simp) fun h7 e7 sb7 => ?_
  refine wpAny_bind (wpAny_letGo (wpAny_pure ⟨_, rfl, ?_⟩))
  have up : ∀ c o, c ≠ e → (h3.push (tO [.int k s.toks, .ref s.heap.objs.size])).get? c = some o → h7.get? c = some o := fun c o hc q => sb7.extBut c o hc (sb6.extBut c o hc (sb5.extBut c o hc q))
  exact hQ h1 h7 st1 hT1 z1 k1 e7 (up _ _ e4n t4) fun c o hc q => up c o hc (k4 c o hc q)
theorem next_en (D : ZAp z TI TO is ls) (ez : e ∉ z :: TI :: TO :: is) (he : IsEnum s.heap e z (k : Int) old) (st : ZSt s.heap z TI TO is ls k) (R : ZRw s.heap ls rows) (ne : is ≠ []) {xs : List Value} (hl : xs.length = is.length) (hs : is.length ≤ sizeLine) (hx : ∀ (j : Nat) (r : List Value) (x : Value), rows[j]? = some r → xs[j]? = some x → r[k]? = some x) {Q : Option Value → Shared → Prop}
    (hQ : ∀ h1 h', ZSt h1 z TI TO is ls (k + 1) → h1.get? s.heap.objs.size = some (tO xs) → h1.objs.size = s.heap.objs.size + 1 → (∀ c o, c ∉ z :: TI :: TO :: is → s.heap.get? c = some o → h1.get? c = some o) →
      IsEnumOut h' e z ((k : Int) + 1) (.ref s.heap.objs.size) (s.heap.objs.size + 1) → h'.get? (s.heap.objs.size + 1) = some (tO [.int k s.toks, .ref s.heap.objs.size]) → (∀ c o, c ≠ e → h1.get? c = some o → h'.get? c = some o) → Q (some (.ref (s.heap.objs.size + 1))) { s with heap := h', toks := s.toks + 1 }) :
    wpAny (model prog w) A (pyNext (.ref e)) Q E s := by
  have hT : s.TypeIs (.ref e) "enumerate" := ⟨_, he, rfl⟩
  unfold pyNext
  exact wpAny_bind (wpAny_attempt (wpAny_callSpecial?_slot (name := Str.ofString "__next__") hT F.slot_enumerate_next
    (wpAny_call_entry F.slot_enumerate_next hT F.entry_enumerate_next
      (en_row D ez he st R ne hl hs hx fun h1 h' a1 a2 a3 a4 a5 a6 a7 => wpAny_pure (hQ h1 h' a1 a2 a3 a4 a5 a6 a7)) (F.args_enumerate_next_1 _))))
theorem next_enE (hh : A.handled = none) (D : ZAp z TI TO is ls) {j : Int} (he : IsEnum s.heap e z j old) (st : ZSt s.heap z TI TO is ls k) (R : ZRw s.heap ls rows) (ne : is ≠ []) (hx : ∀ r ∈ rows, r[k]? = none) {Q : Option Value → Shared → Prop}
    (hQ : ∀ h', (∀ c o, c ∉ z :: TI :: TO :: is → s.heap.get? c = some o → h'.get? c = some o) → Q none { s with heap := h' }) : wpAny (model prog w) A (pyNext (.ref e)) Q E s := by
  have hT : s.TypeIs (.ref e) "enumerate" := ⟨_, he, rfl⟩
  unfold pyNext
  refine wpAny_bind (wpAny_attempt (wpAny_callSpecial?_slot (name := Str.ofString "__next__") hT F.slot_enumerate_next
    (wpAny_call_entry F.slot_enumerate_next hT F.entry_enumerate_next ?_ (F.args_enumerate_next_1 _))))
  show wpAny _ A.in1 (field (Value.ref e) 2 >>= _) _ _ s
  refine wpAny_bind (wpAny_field (x := .ref z) he rfl rfl ?_)
  refine wpAny_bind (nextOf_rend (A := A.in1) hh D st R ne hx fun h' x hk hx' => ?_)
  obtain ⟨o, ho, hc⟩ := hx'
  refine wpAny_bind (wpAny_isInstance (T := "StopIteration") (b := true) ⟨o, ho, hc⟩ isSubtype_stop ?_)
  exact wpAny_pure (hQ _ hk)
end
theorem meets_enumS (z TI TO : Addr) : Meets (Builtin.«enumerate.__new__» ⟨[.type "enumerate", .ref z], []⟩) (fun _ R s => s.heap.get? z = some (zO .none false TI TO) ∧
      R (.ok (.ret (.ref s.heap.objs.size))) { s with heap := s.heap.push { cls := .type "enumerate", data := .fields #[.none, .bool false, .ref z, rawInt 0, .none, .none] } }) :=
  .of_wp fun prog w A R s h => by
    obtain ⟨hp, g, d, tk, os⟩ := s
    obtain ⟨hz, h⟩ := h
    have hsub := sub_enum2
    have hZ : (Shared.heap ⟨hp, g, d, tk, os⟩).get? z = some (zO .none false TI TO) := hz
    wp_walk using AutoSeq1.wpAny_loadPart' hz
    refine wpAny_stack_any fun st => wpAny_pure ?_
    split
    · rename_i c _ _ _ _ _
      cases (c == Value.type "enumerate")
      · wp_walk using AutoSeq1.wpAny_loadPart' hz, iter_zip hZ
        exact ⟨_, rfl, h⟩
      · wp_walk using AutoSeq1.wpAny_loadPart' hz, iter_zip hZ
        exact ⟨_, rfl, h⟩
    · wp_walk using AutoSeq1.wpAny_loadPart' hz, iter_zip hZ
      exact ⟨_, rfl, h⟩
section
variable {prog : Program} {w : World} {A : Around} {E : Value → Shared → Prop} {s : Shared} {z TI TO : Addr}
theorem call_enumS {Q : Value → Shared → Prop} (hz : s.heap.get? z = some (zO .none false TI TO))
    (h : ∀ h', IsEnum h' s.heap.objs.size z 0 .none → h'.objs.size = s.heap.objs.size + 1 → (∀ c o, s.heap.get? c = some o → h'.get? c = some o) → Q (.ref s.heap.objs.size) { s with heap := h' }) :
    wpAny (model prog w) A (call (.type "enumerate") [.ref z]) Q E s := by
  refine callType_new F.called_enumerate (by decide) (F.typeCall_enumerate_1 _) (F.newCall_enumerate_1 _) (fun obj => F.args_object_init_2 obj _) F.entry_enumerate_new (meets_enumS z TI TO) ⟨hz, ?_⟩
  have q : IsEnum (s.heap.push { cls := .type "enumerate", data := .fields #[.none, .bool false, .ref z, rawInt 0, .none, .none] }) s.heap.objs.size z 0 .none := Heap.get?_push_size _ rfl
  exact ⟨⟨_, q, rfl⟩, h _ q (Heap.size_push _ _) fun c o x => Heap.get?_push_of_some _ x⟩
end
/-! ### in a loop's head -/
def IteS (K : PySem.W.Frag) (ls : List Addr) : It :=
  ⟨(ItzS K ls).go,
    fun i H v H' => ∃ T U xs, v = .ref U ∧ H T = none ∧ H U = none ∧ U ≠ T ∧ H' = upd (upd H T (.tup xs)) U (.tup [.int (i : Nat), .ref T]) ∧ xs.length = ls.length ∧ ∀ rows, TupsAt K H ls rows → ∀ (j : Nat) (r : List V) (x : V), rows[j]? = some r → xs[j]? = some x → r[i]? = some x,
    (ItzS K ls).stop⟩
theorem turn_enS {P : Program} {w : World} {K : PySem.W.Frag} {elts : List Expr} {kk : Nat} {tpos : Pos} {e z TI TO : Addr} {is ls : List Addr} (D : ZAp z TI TO is ls) (ez : e ∉ z :: TI :: TO :: is) (ne : ls ≠ []) (sz : ls.length ≤ sizeLine) :
    Turn P w K (.Tuple elts kk tpos) (IteS K ls) (e :: z :: TI :: TO :: is) e (fun i h => (∃ old, IsEnum h e z (i : Int) old) ∧ ZSt h z TI TO is ls i) where
  mem := by simp
  obj := fun i h st c hc => by
    rcases List.mem_cons.mp hc with q | q
    · obtain ⟨⟨old, he⟩, _⟩ := st
      rw [q]; exact ⟨_, he, fun v q => nomatch q⟩
    · exact (turn_zipS (P := P) (w := w) (K := K) (x := "x") (xp := ⟨0, 0, 0, 0⟩) D ne sz).obj i h st.2 c q
  keep := fun i h h' st k => by
    obtain ⟨⟨old, he⟩, st⟩ := st
    exact ⟨⟨old, k e (by simp) _ he⟩, (turn_zipS (P := P) (w := w) (K := K) (x := "x") (xp := ⟨0, 0, 0, 0⟩) D ne sz).keep i h h' st fun b hb o q => k b (List.mem_cons_of_mem _ hb) o q⟩
  item := by
    intro X hP hw hK hc i pins s σ H E I hf st hg
    subst hP hw hK
    obtain ⟨⟨old, he⟩, st⟩ := st
    obtain ⟨rows, tr, hlt⟩ := hg
    obtain ⟨vr, R, el, hv⟩ := tups_val I tr
    obtain ⟨xs, us, rv, lx, hx, hu⟩ := col_val el hv hlt
    have lis : is.length = ls.length := st.len
    have lus : us.length = is.length := by rw [← rv.length, lx, tr.1, lis]
    have nis : is ≠ [] := fun q => ne (List.length_eq_zero_iff.mp (by rw [← lis, q]; rfl))
    have hfz : ∀ b ∈ z :: TI :: TO :: is, FpOk X pins H b := fun b hb => hf b (List.mem_cons_of_mem _ hb)
    have hfe := hf e (by simp)
    have elt : e < s.heap.objs.size := Heap.lt_size he
    have nT : H s.heap.objs.size = none := I.hok.fresh (Nat.le_refl _)
    have nU : H (s.heap.objs.size + 1) = none := I.hok.fresh (Nat.le_succ _)
    have nUT : (s.heap.objs.size + 1 : Nat) ≠ s.heap.objs.size := Nat.succ_ne_self _
    have eT : e ≠ s.heap.objs.size := Nat.ne_of_lt elt
    refine next_en D ez he st R nis lus (by omega) hu fun h1 h' st1 hT z1 hk he' hU hk' => ?_
    refine ⟨_, rfl, wpAny_letOwnedTupleGo_enum (s := { s with heap := h', toks := s.toks + 1 }) he' fun h'' he'' sb => ?_⟩
    have new : ObjOk X.prog X.w (upd H s.heap.objs.size (.tup xs)) h1 s.heap.objs.size (.tup xs) := ⟨by rw [lx, tr.1]; exact sz, us, rv, ⟨_, hT, rfl, _, rfl⟩⟩
    have I1 : Inv X pins σ (upd H s.heap.objs.size (.tup xs)) { s with heap := h1 } := I.turnedNew (t' := s.toks) (ch := z :: TI :: TO :: is) (fun c o hb q => hk c o hb q) hfz (Nat.le_refl _) new
    have eU : (s.heap.objs.size + 1 : Nat) ≠ e := fun q => Nat.lt_irrefl e (Nat.lt_of_lt_of_le elt (by rw [← q]; exact Nat.le_succ _))
    have hU2 : h''.get? (s.heap.objs.size + 1) = some (tO [.int i s.toks, .ref s.heap.objs.size]) := sb.extBut _ _ eU hU
    have new2 : ObjOk X.prog X.w (upd (upd H s.heap.objs.size (.tup xs)) (s.heap.objs.size + 1) (.tup [.int (i : Nat), .ref s.heap.objs.size])) h'' (s.heap.objs.size + 1) (.tup [.int (i : Nat), .ref s.heap.objs.size]) :=
      ⟨by show 2 ≤ sizeLine; decide, [.int i s.toks, .ref s.heap.objs.size], .cons ⟨_, rfl⟩ (.cons rfl .nil), ⟨_, hU2, rfl, _, rfl⟩⟩
    have I2 : Inv X pins σ (upd (upd H s.heap.objs.size (.tup xs)) (s.heap.objs.size + 1) (.tup [.int (i : Nat), .ref s.heap.objs.size])) { s with heap := h'', toks := s.toks + 1 } :=
      I1.turnedNew (t' := s.toks + 1) (ch := [e]) (fun c o hb q => sb.extBut c o (fun z => hb (by simp [z])) (hk' c o (fun z => hb (by simp [z])) q)) (fun b hb => by
        rw [List.mem_singleton.mp hb]
        exact ⟨by rw [upd_ne eT]; exact hfe.1, hfe.2⟩) (by show h1.objs.size ≤ s.heap.objs.size + 1; rw [z1]; exact Nat.le_refl _) new2
    refine ⟨.ref (s.heap.objs.size + 1), _, I2, rfl, ⟨_, _, xs, rfl, nT, nU, nUT, rfl, by rw [lx, tr.1], fun rows2 tr2 j r x e1 e2 => ?_⟩, ⟨⟨.ref s.heap.objs.size, ?_⟩, ?_⟩, fun c hcm => ?_⟩
    · have hj : j < rows.length := by have := (List.getElem?_eq_some_iff.mp e2).1; omega
      have e3 : rows[j]? = some rows[j] := List.getElem?_eq_getElem hj
      have lj : ls[j]? = some (ls[j]'(by have := tr.1; omega)) := List.getElem?_eq_getElem (by have := tr.1; omega)
      rw [I.tuple_inj (tr2.2 j _ r lj e1) (tr.2 j _ _ lj e3)]
      exact hx j _ x e3 e2
    · rw [show ((i + 1 : Nat) : Int) = (i : Int) + 1 by omega]
      exact he''
    · exact (turn_zipS (P := X.prog) (w := X.w) (K := X.K) (x := "x") (xp := ⟨0, 0, 0, 0⟩) D ne sz).keep (i + 1) h1 h'' st1 fun b hb o q => sb.extBut b o (fun z => ez (by rw [← z]; exact hb)) (hk' b o (fun z => ez (by rw [← z]; exact hb)) q)
    · have hn := (hf c hcm).1
      have clt : c < s.heap.objs.size := by
        rcases List.mem_cons.mp hcm with q | q
        · rw [q]; exact elt
        · obtain ⟨o, q2, _⟩ := (turn_zipS (P := X.prog) (w := X.w) (K := X.K) (x := "x") (xp := ⟨0, 0, 0, 0⟩) D ne sz).obj i s.heap st c q
          exact Heap.lt_size q2
      rw [upd_ne (Nat.ne_of_lt (Nat.lt_of_lt_of_le clt (Nat.le_succ _))), upd_ne (Nat.ne_of_lt clt)]
      exact hn
  done := by
    intro X hP hw hK hc i pins s σ H E I hf st hg
    subst hP hw hK
    obtain ⟨⟨old, he⟩, st⟩ := st
    obtain ⟨rows, tr, hle⟩ := hg
    obtain ⟨vr, R, el, hv⟩ := tups_val I tr
    have lis : is.length = ls.length := st.len
    have nis : is ≠ [] := fun q => ne (List.length_eq_zero_iff.mp (by rw [← lis, q]; rfl))
    refine next_enE (I.ok.hd hc) D he st R nis (fun r hr => ?_) fun h' hk => ⟨rfl, I.turnedL (t' := s.toks) (ch := z :: TI :: TO :: is) (fun c o hb q => hk c o hb q) fun b hb => hf b (List.mem_cons_of_mem _ hb)⟩
    obtain ⟨j, hj⟩ := List.mem_iff_getElem?.mp hr
    have lt := (List.getElem?_eq_some_iff.mp hj).1
    have e3 : rows[j]? = some (rows[j]'(by omega)) := List.getElem?_eq_getElem (by omega)
    have := (hv j _ _ e3 hj).length
    have := hle _ (List.mem_of_getElem? e3)
    exact List.getElem?_eq_none (by omega)
  self := fun A i s Q E st h => by
    obtain ⟨⟨old, he⟩, _⟩ := st
    exact wpAny_pyIter_enum he h
def iEnS (K : PySem.W.Frag) (te : TE) : TI := fun σ H R => te σ H fun v H1 => ∃ (p : Addr) (las : List Addr) (rows : List (List V)), v = .ref p ∧ (SqT K H1 p (las.map V.ref) ∨ SqL K H1 p (las.map V.ref)) ∧ las ≠ [] ∧ TupsAt K H1 las rows ∧ R (IteS K las) H1
theorem pi_enS {X : Cx} {e : Expr} {te : TE} {elts : List Expr} {kk : Nat} {tpos p0 p sp pos pos0 : Pos} (hg0 : Gl X "enumerate") (hm0 : X.mg "enumerate" = none) (hg : Gl X "zip") (hm : X.mg "zip" = none) (he : PE X e te) (hst : starEach [.Starred e sp] X.env = [(true, eval e X.env)] := by rfl)
    (na : starEach [.Call (.Name "zip" p) [.Starred e sp] [] pos] X.env = (false, eval (.Call (.Name "zip" p) [.Starred e sp] [] pos) X.env) :: starEach [] X.env := by rfl) :
    PI X (.Tuple elts kk tpos) (.Call (.Name "enumerate" p0) [.Call (.Name "zip" p) [.Starred e sp] [] pos] [] pos0) (iEnS X.K te) := by
  refine ⟨fun pins s σ H R I h => ?_⟩
  refine Call_ (ld_blt I hg0 hm0 PyProof.Rows.boot_enumerate ?_)
  refine PyProof.Rows.callWith_type1 (PyProof.Rows.args_cons ?_ na) na rfl
  refine Call_ (ld_blt I hg hm PyProof.Rows.boot_zip (callWith_tS (thn (he.run pins s σ H _ I h) fun v s1 ⟨y, H1, I1, ry, q1⟩ => ?_) hst))
  obtain ⟨a, las, rows, ey, hq, ne, tr, q⟩ := q1
  subst ey
  obtain rfl : v = Value.ref a := ry
  refine StX.star_any I1 hq fun us s2 I2 rv => ?_
  obtain rfl := refs_vals rv
  obtain ⟨vr, R1, el, hv⟩ := tups_val I2 tr
  cases las with
  | nil => exact absurd rfl ne
  | cons l ls =>
  have hT : ∀ b ∈ l :: ls, ∃ items, s2.heap.IsTuple b items := fun b hb => by
    obtain ⟨j, hj⟩ := List.mem_iff_getElem?.mp hb
    have lt := (List.getElem?_eq_some_iff.mp hj).1
    exact ⟨_, R1.at_ j b _ hj (List.getElem?_eq_getElem (by have := R1.len; omega))⟩
  have hz : (l :: ls).length ≤ sizeLine := by
    rcases hq with hq | hq
    · obtain ⟨_, _, _, z⟩ := I2.tuple hq
      simpa using z
    · obtain ⟨_, _, _, z⟩ := I2.list hq
      simpa using z
  refine call_zipA hT hz fun h' nw => ?_
  refine PyProof.Rows.args_nil ?_
  have D := nw.apart fun b hb => by
    obtain ⟨items, o, ho, _⟩ := hT b hb
    exact Heap.lt_size ho
  have hz0 := nw.z0
  refine call_enumS (s := { s2 with heap := h' }) hz0 fun h2 he2 sz2 k2 => wpAny_pyIter_enum (s := { s2 with heap := h2 }) he2 ?_
  have I3 : Inv X pins σ H1 { s2 with heap := h2 } := I2.kept (t' := s2.toks) fun c o q => k2 c o (nw.kept c o q)
  have zlt : ∀ c ∈ (s2.heap.objs.size + (l :: ls).length + 2) :: (s2.heap.objs.size + (l :: ls).length) :: (s2.heap.objs.size + (l :: ls).length + 1) :: itsAt s2.heap.objs.size (l :: ls).length, s2.heap.objs.size ≤ c ∧ c < h'.objs.size := fun c hc => by
    rw [nw.size]
    rcases List.mem_cons.mp hc with q | q
    · rw [q]; exact ⟨(by omega : (s2.heap.objs.size : Nat) ≤ s2.heap.objs.size + (l :: ls).length + 2), (by omega : (s2.heap.objs.size + (l :: ls).length + 2 : Nat) < s2.heap.objs.size + (l :: ls).length + 3)⟩
    rcases List.mem_cons.mp q with q | q
    · rw [q]; exact ⟨(by omega : (s2.heap.objs.size : Nat) ≤ s2.heap.objs.size + (l :: ls).length), (by omega : (s2.heap.objs.size + (l :: ls).length : Nat) < s2.heap.objs.size + (l :: ls).length + 3)⟩
    rcases List.mem_cons.mp q with q | q
    · rw [q]; exact ⟨(by omega : (s2.heap.objs.size : Nat) ≤ s2.heap.objs.size + (l :: ls).length + 1), (by omega : (s2.heap.objs.size + (l :: ls).length + 1 : Nat) < s2.heap.objs.size + (l :: ls).length + 3)⟩
    have := itsAt_mem q
    exact ⟨this.1, Nat.lt_of_lt_of_le this.2 (Nat.le_add_right _ _)⟩
  refine ⟨h'.objs.size, h'.objs.size :: (s2.heap.objs.size + (l :: ls).length + 2) :: (s2.heap.objs.size + (l :: ls).length) :: (s2.heap.objs.size + (l :: ls).length + 1) :: itsAt s2.heap.objs.size (l :: ls).length, _, IteS X.K (l :: ls), H1, rfl, I3, turn_enS D (fun q => Nat.lt_irrefl _ (zlt _ q).2) ne hz, ⟨⟨_, he2⟩, ?_⟩, fun c hc => ?_, q⟩
  · exact (turn_zipS (P := X.prog) (w := X.w) (K := X.K) (x := "x") (xp := ⟨0, 0, 0, 0⟩) D ne hz).keep 0 h' h2 nw.st fun b _ o q => k2 b o q
  have hle : s2.heap.objs.size ≤ c := by
    rcases List.mem_cons.mp hc with q | q
    · rw [q, nw.size]; exact (by omega : (s2.heap.objs.size : Nat) ≤ s2.heap.objs.size + (l :: ls).length + 3)
    · exact (zlt c q).1
  exact I2.fpOk hle (I2.hok.fresh hle)
end Lk
/-! DO: dicts with odd keys: None, a bool, a tuple of keys. -/
namespace Lk
open PySem PySem.Spec PyProof.Rows L2
section
variable {prog : Program} {w : World} {A : Around} {E : Value → Shared → Prop} {s : Shared} {d : Addr} {o : Obj} {es : Array DictEntry} {ep : Nat} {h : Int} {Q : Option Nat → Shared → Prop}
/-- no stored key is the key: a walk over keys carried by value -/
theorem walkPlain_none {key : Value} {pl : List Nat} (hes : ∀ e ∈ es, SeqAt.EqAt A s e.key key false) (ho : s.heap.get? d = some o) (hd : o.data = .dict es ep) (hQ : Q none s) : wpAny (model prog w) A (dictWalkPlain d key h es pl) Q E s := by
  unfold dictWalkPlain
  refine wpAny_bind ?_
  refine wpAny_forIn_list _ (fun rest b s' => s' = s ∧ b = (none, ())) _ ?_ ?_ _ _ ⟨rfl, rfl⟩
  · rintro x rest b s' ⟨rfl, rfl⟩
    cases hx : es[x]? with
    | none => exact wpAny_pure ⟨rfl, rfl⟩
    | some e =>
      dsimp only
      by_cases hh : (e.hash == h) = true
      · rw [if_pos hh]
        refine wpAny_bind (wpAny_dictEpoch ho hd (wpAny_bind (hes e (Array.mem_of_getElem? hx) _ _ _ _ (wpAny_bind (wpAny_dictEpoch ho hd ?_)))))
        show wpAny _ _ (if (ep != ep) = true then _ else _) _ E _
        rw [if_neg (by simp)]
        exact wpAny_bind (wpAny_rule (wpAny_pure ⟨rfl, rfl⟩))
      · rw [if_neg hh]
        exact wpAny_pure ⟨rfl, rfl⟩
  · rintro b s' ⟨rfl, rfl⟩
    exact wpAny_pure hQ
theorem tells_none {a : Addr} {st : List Value} {Q : Bool → Shared → Prop} (hk : QuietAt prog w 8 s (.ref a)) (hst : ∀ v ∈ st, QuietAt prog w 8 s v) (h : Q false s) : wpAny (model prog w) A (tableMayTell (.ref a) st) Q E s := by
  unfold tableMayTell
  split
  · exact wpAny_pure h
  · refine wpAny_bind (hk _ _ _ ?_)
    simp only [Bool.not_true, Bool.false_eq_true, if_false]
    refine wpAny_bind ?_
    refine wpAny_forIn_list _ (fun rest r s' => s' = s ∧ r = (none, ()) ∧ ∀ v ∈ rest, QuietAt prog w 8 s v) _ ?_ ?_ _ _ ⟨rfl, rfl, hst⟩
    · rintro x rest r s' ⟨rfl, rfl, hr⟩
      refine wpAny_bind (hr x List.mem_cons_self _ _ _ ?_)
      simp only [Bool.not_true, Bool.false_eq_true, if_false]
      exact wpAny_pure ⟨rfl, rfl, fun v hv => hr v (List.mem_cons_of_mem _ hv)⟩
    · rintro r s' ⟨rfl, rfl, _⟩
      exact wpAny_pure h
/-- .. a key that is an object -/
theorem findRef_none {a : Addr} (hk : QuietAt prog w 8 s (.ref a)) (hes : ∀ e ∈ es, SeqAt.EqAt A s e.key (.ref a) false ∧ QuietAt prog w 8 s e.key ∧ e.key ≠ .ref a) (ho : s.heap.get? d = some o) (hd : o.data = .dict es ep) (hQ : Q none s) :
    wpAny (model prog w) A (dictFind d (.ref a) h) Q E s := by
  have hany : ¬ (es.any fun e => e.key == Value.ref a && e.hash != h) = true := by
    rw [← Array.any_toList, List.any_eq_true]
    rintro ⟨e, hin, hc⟩
    simp only [Bool.and_eq_true, beq_iff_eq] at hc
    exact (hes e (Array.mem_toList_iff.mp hin)).2.2 hc.1
  have hst : ∀ v ∈ (placesWithHash es.size (fun i => es[i]?.map (·.hash)) h).filterMap (fun i => es[i]?.map (·.key)), QuietAt prog w 8 s v := by
    intro v hv
    obtain ⟨i, _, hi⟩ := List.mem_filterMap.mp hv
    cases hei : es[i]? with
    | none => rw [hei] at hi; cases hi
    | some e =>
      rw [hei] at hi
      obtain rfl : e.key = v := by simpa using hi
      exact (hes e (Array.mem_of_getElem? hei)).2.1
  unfold dictFind
  try with_reducible refine wpAny_holding ?_
  refine wpAny_bind (wpAny_dictEntries ho hd ?_)
  dsimp only
  rw [if_neg (show ¬ ((Value.ref a :: (placesWithHash es.size (fun i => es[i]?.map (·.hash)) h).filterMap (fun i => es[i]?.map (·.key))).all carriedByValue) = true by simp [carriedByValue])]
  rw [if_neg hany]
  by_cases hone : (((placesWithHash es.size (fun i => es[i]?.map (·.hash)) h).filterMap (fun i => es[i]?.map (·.key))) == [Value.ref a]) = true <;>
  (first | rw [if_pos hone] | rw [if_neg hone]) <;> (first | refine wpAny_bind (wpAny_pure ?_) | refine wpAny_bind (tells_none hk hst ?_)) <;> (
    rw [if_neg (by simp)]
    refine wpAny_bind ?_
    refine wpAny_forIn_list _ (fun rest b s' => s' = s ∧ b = (none, none)) _ ?_ ?_ _ _ ⟨rfl, rfl⟩
    · rintro x rest b s' ⟨rfl, rfl⟩
      cases hx : es[x]? with
      | none => exact wpAny_pure ⟨rfl, rfl⟩
      | some e =>
        dsimp only
        by_cases hh : (e.hash == h) = true
        · rw [if_pos hh]
          refine wpAny_bind (wpAny_dictEpoch ho hd (wpAny_bind ((hes e (Array.mem_of_getElem? hx)).1 _ _ _ _ (wpAny_bind (wpAny_dictEpoch ho hd ?_)))))
          show wpAny _ _ (if (ep != ep) = true then _ else _) _ E _
          rw [if_neg (by simp)]
          simp only [Bool.false_eq_true, if_false]
          refine wpAny_bind (wpAny_rule ?_)
          first | rw [if_neg (by simp)] | skip
          first
            | exact wpAny_pure ⟨rfl, rfl⟩
            | exact wpAny_bind (wpAny_pure (wpAny_pure ⟨rfl, rfl⟩))
        · rw [if_neg hh]
          exact wpAny_pure ⟨rfl, rfl⟩
    · rintro b s' ⟨rfl, rfl⟩
      exact wpAny_pure hQ)
/-- .. a key carried by value, no text -/
theorem findVal_none {key : Value} (hc : carriedByValue key = true) (hns : ∀ x t, key ≠ .str x t) (hes : ∀ e ∈ es, SeqAt.EqAt A s e.key key false ∧ carriedByValue e.key = true) (ho : s.heap.get? d = some o) (hd : o.data = .dict es ep) (hQ : Q none s) :
    wpAny (model prog w) A (dictFind d key h) Q E s := by
  have hall : ((key :: (placesWithHash es.size (fun i => es[i]?.map (·.hash)) h).filterMap fun i => es[i]?.map (·.key)).all carriedByValue) = true := by
    rw [List.all_cons, List.all_eq_true.mpr, Bool.and_true]
    · exact hc
    · intro v hv
      obtain ⟨i, _, hi⟩ := List.mem_filterMap.mp hv
      cases he : es[i]? with
      | none => rw [he] at hi; cases hi
      | some e =>
        rw [he] at hi
        obtain rfl : e.key = v := by simpa using hi
        exact (hes e (Array.mem_of_getElem? he)).2
  unfold dictFind
  try with_reducible refine wpAny_holding ?_
  refine wpAny_bind (wpAny_dictEntries ho hd ?_)
  dsimp only
  rw [if_pos hall]
  split
  · exact absurd rfl (hns _ _)
  · exact walkPlain_none (fun e he => (hes e he).1) ho hd hQ
end
section
variable {prog : Program} {w : World} {A : Around} {E : Value → Shared → Prop} {s : Shared} {d : Addr} {o : Obj} {es : Array DictEntry} {ep : Nat} {key v : Value} {k : NestedKey}
/-- the stored keys are keys, none of them this one -/
def NoneIs (h : Heap) (es : Array DictEntry) (k : NestedKey) : Prop := ∀ e ∈ es, ∃ k', NestedIs h k' e.key ∧ k'.depth ≤ 8 ∧ NestedKey.beq k' k = false ∧ (carriedByValue e.key = true)
theorem find_odd {h : Int} {Q : Option Nat → Shared → Prop} (hu : A.units + 8 < cLine) (hn : NestedIs s.heap k key) (hk : k.depth ≤ 8) (hns : ∀ x t, key ≠ .str x t) (hes : NoneIs s.heap es k) (ho : s.heap.get? d = some o) (hd : o.data = .dict es ep) (hQ : Q none s) :
    wpAny (model prog w) A (dictFind d key h) Q E s := by
  have eqs : ∀ e ∈ es, SeqAt.EqAt A s e.key key false := fun e he => by
    obtain ⟨k', h1, h2, h3, _⟩ := hes e he
    exact (eqAt_key k' k A s _ _ h1 hn (by omega)).cast h3
  cases hc : carriedByValue key with
  | true => exact findVal_none hc hns (fun e he => ⟨eqs e he, let ⟨_, _, _, _, h4⟩ := hes e he; h4⟩) ho hd hQ
  | false =>
    obtain ⟨a, rfl⟩ : ∃ a, key = .ref a := by cases key <;> first | exact ⟨_, rfl⟩ | cases hc
    refine findRef_none (quiet_key k _ 8 s hn hk) (fun e he => ?_) ho hd hQ
    obtain ⟨k', h1, h2, h3, h4⟩ := hes e he
    exact ⟨eqs e he, quiet_key k' _ 8 s h1 h2, fun z => by rw [z] at h4; cases h4⟩
theorem dictSet_odd {Q : Unit → Shared → Prop} (hu : A.units + 8 < cLine) (hn : NestedIs s.heap k key) (hk : k.depth ≤ 8) (hns : ∀ x t, key ≠ .str x t) (hes : NoneIs s.heap es k) (ho : s.heap.get? d = some o) (hx : o.ExactDict) (hd : o.data = .dict es ep) (hz : es.size ≤ sizeLine)
    (hQ : ∀ (h' : Heap) (tk : Nat) (o' : Obj), h'.get? d = some o' → o'.ExactDict → o'.data = .dict (es.push ⟨k.hash w, key, v⟩) (ep + 1) → Heap.SameBut d s.heap h' → Q () { s with heap := h', toks := tk }) :
    wpAny (model prog w) A (dictSet d key v) Q E s := by
  unfold dictSet
  try with_reducible refine wpAny_holding ?_
  refine wpAny_bind (pyHash_key k key A s _ hn (by omega) ?_)
  unfold dictSetHashed
  try with_reducible refine wpAny_holding ?_
  refine wpAny_bind (find_odd (s := { s with toks := s.toks + k.draws }) hu hn hk hns hes ho hd ?_)
  exact wpAny_bind (wpAny_rule (wpAny_updateDictKeys (hz := hz) (s := { s with toks := s.toks + k.draws }) ho hd (hQ _ _ _ (Heap.get?_update_self _ ho (Obj.isFreed_of_dict (Obj.data_mapDictKeys hd _)))
    (hx.mapDictKeys _) (Obj.data_mapDictKeys hd _) (Heap.SameBut.update ..))))
theorem setItem_odd {Q : Unit → Shared → Prop} (hu : A.units + 10 < cLine) (hn : NestedIs s.heap k key) (hk : k.depth ≤ 8) (hns : ∀ x t, key ≠ .str x t) (hes : NoneIs s.heap es k) (ho : s.heap.get? d = some o) (hx : o.ExactDict) (hd : o.data = .dict es ep) (hz : es.size ≤ sizeLine)
    (hQ : ∀ (h' : Heap) (tk : Nat) (o' : Obj), h'.get? d = some o' → o'.ExactDict → o'.data = .dict (es.push ⟨k.hash w, key, v⟩) (ep + 1) → Heap.SameBut d s.heap h' → Q () { s with heap := h', toks := tk }) :
    wpAny (model prog w) A (setItem (.ref d) key v) Q E s := by
  have hT : s.TypeIs (.ref d) "dict" := ⟨o, ho, hx.1⟩
  unfold setItem
  try with_reducible refine wpAny_holding ?_
  refine wpAny_bind (wpAny_sequenceKey hT (by decide) ?_)
  refine wpAny_bind (wpAny_callSpecial?_slot (name := Str.ofString "__setitem__") hT slot_dict_setitem
    (wpAny_call_entry slot_dict_setitem hT entry_dict_setitem ?_ (args_dict_setitem _ _ _)))
  show wpAny _ _ (Builtin.Dict.notOrdered "__setitem__" ⟨[.ref d, key, v], []⟩ >>= _) _ _ s
  refine wpAny_bind (wpAny_notOrdered_dict hT ?_)
  show wpAny _ _ (dictSet d key v >>= _) _ _ s
  exact wpAny_bind (dictSet_odd (show A.units + 1 + 8 < cLine by omega) hn hk hns hes ho hx hd hz fun h' tk o' e1 e2 e3 e4 => wpAny_pure ⟨.none, rfl, wpAny_pure (hQ h' tk o' e1 e2 e3 e4)⟩)
end
/-! ### keys as data -/
mutual
theorem nk_reads {h : Heap} : ∀ (d : PyData) {u : Value} {as : List Addr} {k : NestedKey}, nkD d = some k → Reads h u d as → NestedIs h k u
  | .none, _, _, _, e, r => by cases e; cases r; exact .none
  | .bool b, _, _, _, e, r => by cases e; cases r; exact .bool rfl
  | .int i, _, _, _, e, r => by cases e; cases r; exact .int _ _
  | .str x, _, _, _, e, r => by cases e; cases r; exact .text _ _
  | .tuple ds, _, _, _, e, r => by
    unfold nkD at e
    obtain ⟨ks, e1, rfl⟩ := Option.map_eq_some_iff.mp e
    cases r with
    | tuple h1 h2 h3 h4 => exact .tup h1 h2 h3 (nks_reads ds e1 h4)
  | .list _, _, _, _, e, r => nomatch e
  | .dict _, _, _, _, e, r => nomatch e
theorem nks_reads {h : Heap} : ∀ (ds : List PyData) {us : List Value} {as : List Addr} {ks : List NestedKey}, nkDs ds = some ks → ReadsAll h us ds as → NestedAll h ks us
  | [], _, _, _, e, r => by cases e; cases r; exact .nil
  | d :: ds, _, _, _, e, r => by
    unfold nkDs at e
    split at e
    · rename_i k ks e1 e2
      cases e
      cases r with
      | cons r1 r2 => exact .cons (nk_reads d e1 r1) (nks_reads ds e2 r2)
    · cases e
end
theorem oddB_of {k : PyData} {kvs : List (PyData × PyData)} (h : oddB k kvs = true) : ∃ nk, nkD k = some nk ∧ isKey k = false ∧ nk.depth ≤ 8 ∧ ∀ p ∈ kvs, ∃ m, nkD p.1 = some m ∧ m.depth ≤ 8 ∧ NestedKey.beq m nk = false := by
  unfold oddB at h
  split at h
  · rename_i nk e
    simp only [Bool.and_eq_true, decide_eq_true_eq, Bool.not_eq_true', List.all_eq_true] at h
    refine ⟨nk, e, h.1.1, h.1.2, fun p hp => ?_⟩
    have := h.2 p hp
    split at this
    · rename_i m em
      simp only [Bool.and_eq_true, decide_eq_true_eq, Bool.not_eq_true'] at this
      exact ⟨m, em, this.1, this.2⟩
    · cases this
  · cases h
theorem err_app {k x : PyData} {kvs : List (PyData × PyData)} {nk : NestedKey} (h : nkD k = some nk) (hp : plainK kvs = true) : errOf (kvs ++ [(k, x)]) = none := by
  cases kvs with
  | nil => cases k <;> first | rfl | cases h
  | cons q r =>
    obtain ⟨a, b⟩ := q
    cases a <;> first | rfl | cases hp
theorem RepK.allK {K : PySem.W.Frag} {H : Hp} : ∀ {kvs : List (PyData × PyData)} {ks : List (Key × V)}, RepK K H kvs ks → plainK kvs = true
  | [], _, _ => rfl
  | p :: r, _, ⟨q, v, t, _, e, _, z⟩ => by
    show (isKey p.1 && plainK r) = true
    rw [RepK.allK z]
    unfold isKey
    rw [e] <;> rfl
theorem plain_odd {k x : PyData} {kvs : List (PyData × PyData)} (h : isKey k = false) : plainK (kvs ++ [(k, x)]) = false := by
  unfold plainK
  rw [List.all_append]
  simp [h]
theorem RepE.append {K : PySem.W.Frag} {H : Hp} : ∀ {kvs : List (PyData × PyData)} {es : List DictEntry} {p : PyData × PyData} {e : DictEntry} {u v : V}, RepE K H kvs es → RelV u e.key → RelV v e.val → Rep K H p.1 u → Rep K H p.2 v → RepE K H (kvs ++ [p]) (es ++ [e])
  | [], _, p, e, u, v, h, r1, r2, h1, h2 => by
    cases h
    exact ⟨e, [], u, v, rfl, r1, r2, h1, h2, rfl⟩
  | q :: kvs, _, p, e, u, v, h, r1, r2, h1, h2 => by
    obtain ⟨e0, t, u0, v0, rfl, a1, a2, b1, b2, ht⟩ := h
    exact ⟨e0, t ++ [e], u0, v0, rfl, a1, a2, b1, b2, RepE.append ht r1 r2 h1 h2⟩
theorem repK_E {prog : Program} {w : World} {K : PySem.W.Frag} {H : Hp} : ∀ {kvs : List (PyData × PyData)} {ks : List (Key × V)} {vs : List (Key × Value)} {es : List DictEntry}, RepK K H kvs ks → KV ks vs → Pairs (mixKind prog w) es vs → RepE K H kvs es
  | [], _, _, _, h, r, p => by
    cases h
    cases r
    cases p
    rfl
  | (k, d) :: kvs, _, _, _, h, r, p => by
    obtain ⟨q, v, ks, rfl, hk, h1, h2⟩ := h
    cases r with
    | @cons _ qa _ qs r1 r2 =>
      obtain ⟨qk, qv⟩ := qa
      cases p with
      | @cons e _ es _ p1 pe p2 =>
        have e1 : q = qk := r1.1
        have e2 : RelV v qv := r1.2
        have pe : e.val = qv := pe
        have p1 : keyIs qk e.key = true := p1
        refine ⟨e, es, kV q, v, rfl, ?_, by rw [pe]; exact e2, keyD_rep hk, h1, repK_E h2 r2 p2⟩
        rw [e1]
        exact relV_key p1
theorem noneIs_of {X : Cx} {s : Shared} {nk : NestedKey} : ∀ {kvs : List (PyData × PyData)} {ks : List (Key × V)} {vs : List (Key × Value)} {es : List DictEntry} {K : PySem.W.Frag} {H : Hp}, RepK K H kvs ks → KV ks vs → Pairs (mixKind X.prog X.w) es vs → (∀ p ∈ kvs, ∃ m, nkD p.1 = some m ∧ m.depth ≤ 8 ∧ NestedKey.beq m nk = false) →
    ∀ e ∈ es, ∃ k', NestedIs s.heap k' e.key ∧ k'.depth ≤ 8 ∧ NestedKey.beq k' nk = false ∧ (carriedByValue e.key = true)
  | [], _, _, _, _, _, h, r, p, _ => by
    cases h
    cases r
    cases p
    exact fun e he => nomatch he
  | (k, d) :: kvs, _, _, _, K, H, h, r, p, ok => by
    obtain ⟨q, v, ks, rfl, hk, h1, h2⟩ := h
    cases r with
    | @cons _ qa _ qs r1 r2 =>
      obtain ⟨qk, qv⟩ := qa
      cases p with
      | @cons e0 _ es _ p1 pe p2 =>
        have e1 : q = qk := r1.1
        subst e1
        have p1 : keyIs q e0.key = true := p1
        intro e he
        rcases List.mem_cons.mp he with rfl | he
        · obtain ⟨m, em, dm, bm⟩ := ok (k, d) (by simp)
          exact ⟨m, nk_reads k em (key_reads (s := s) hk p1), dm, bm, (mixKind X.prog X.w).byValue q _ p1⟩
        · exact noneIs_of h2 r2 p2 (fun p hp => ok p (by simp [hp])) e he
section
variable {X : Cx} {pins : List (Addr × Obj)} {σ : L2.St} {H : Hp} {s : Shared}
/-- d[k] = x, k an odd key: the dict is locked from then on -/
def rSetO (K : PySem.W.Frag) : V → V → V → Hp → (Hp → Prop) → Prop := fun o i v H Q => ∃ (a : Addr) (ks : List (Key × V)) (kvs : List (PyData × PyData)) (k x : PyData), o = .ref a ∧ H a = some (.dK ks) ∧ RepK K H kvs ks ∧ Rep K H k i ∧ Rep K H x v ∧ oddB k kvs = true ∧ kvs.length < 1000000 ∧
  ∀ ob, Rep K (upd H a (.frz ob (.own a))) (.dict (kvs ++ [(k, x)])) (.ref a) → Q (upd H a (.frz ob (.own a)))
theorem set_odd (hk : ∃ o, X.K.lookup sysModules = some o) (hu : X.A.units + 10 < cLine) : PSet X (rSetO X.K) := by
  intro pins s σ H o i v ov iv u Q I ro ri rv h
  obtain ⟨a, ks, kvs, k, x, rfl, ha, rr, rk, rx, hodd, hlen, q⟩ := h
  cases ro
  obtain ⟨nk, e1, e2, e3, e4⟩ := oddB_of hodd
  obtain ⟨as, rd, _⟩ := Rep.reads (nosys hk I) I k e1 rk ri
  have hn := nk_reads k e1 rd
  obtain ⟨z, hd, vs, rel, ob, es, ep, h1, h2, h3, h4, h5, h6⟩ := dk_of I.hok ha
  have hl : ks.length = kvs.length := RepK.length rr
  have hl2 : es.size = ks.length := by
    have l1 := h5.length
    have l2 : ks.length = vs.length := Paired.length rel
    rw [Array.length_toList] at l1
    omega
  have hsz := sizeLine_eq
  have hns : ∀ y t, iv ≠ .str y t := fun y t z => by
    subst z
    cases hn
    cases k <;> first | (cases e2; done) | (cases e1; done) | skip
    all_goals first | cases rd | skip
    all_goals (unfold nkD at e1; obtain ⟨_, _, z⟩ := Option.map_eq_some_iff.mp e1; cases z)
  refine setItem_odd hu hn e3 hns (fun e he => noneIs_of rr rel h5 e4 e (Array.mem_toList_iff.mpr he)) h1 h2 h3 (by omega) fun h' tk o' g1 g2 g3 g4 => ?_
  have le : Le H (upd H a (.frz o' (.own a))) := Le.mut ha trivial
  refine ⟨_, d_write (ob := .frz o' (.own a)) I (by rw [ha]; exact trivial) g4 ⟨o', g1⟩ ⟨g1, o', g1⟩, q o' (.inr (.inl ⟨a, o', a, _, _, rfl, ⟨plain_odd e2, err_app e1 (RepK.allK rr)⟩, upd_same, g2, g3, by rw [Array.size_push]; omega, ?_⟩))⟩
  rw [Array.toList_push]
  exact RepE.append (RepE.le le _ (repK_E rr rel h5)) ri rv (Rep.le le _ rk) (Rep.le le _ rx)
end
/-! ### {k: x, k2: y}, k2 an odd key -/
section
variable {prog : Program} {w : World} {A : Around} {E : Value → Shared → Prop} {s : Shared}
theorem subDict_raw {pairs : List (Sem Value × Sem Value)} {Q : Addr → Shared → Prop} (hlen : pairs.length ≤ 15)
    (h : wpAny (model prog w) A (evalPairs pairs) (fun vs s₁ => wpAny (model prog w) A (forIn vs PUnit.unit fun (x : Value × Value) (_ : PUnit) => (do dictSet s.heap.objs.size x.1 x.2; pure (ForInStep.yield PUnit.unit) : Sem (ForInStep PUnit))) (fun _ s₂ => Q s.heap.objs.size s₂) E s₁) E
      { s with heap := s.heap.push { cls := .type "dict", data := .dict #[] } }) : wpAny (model prog w) A (subDict pairs) Q E s := by
  unfold subDict
  refine wpAny_bind (wpAny_alloc ?_)
  refine wpAny_bind (wpAny_holding ?_)
  rw [if_pos hlen]
  refine wpAny_bind (wpAny_mono h (fun vs s₁ h₁ => ?_) fun _ _ e => e)
  refine wpAny_holding ?_
  exact wpAny_bind (wpAny_mono h₁ (fun _ s2 q => wpAny_pure (wpAny_pure q)) fun _ _ e => e)
theorem dict_raw {env : Env} {keys : List (Option Expr)} {values : List Expr} {pos : Pos} {Q : Value → Shared → Prop} (hall : keys.all (·.isSome) = true) (hl : keys.length = values.length) (h0 : keys ≠ []) (hlen : keys.length ≤ 15)
    (h : wpAny (model prog w) A (evalPairs (pairTrees keys values env pos)) (fun vs s₁ => wpAny (model prog w) A (forIn vs PUnit.unit fun (x : Value × Value) (_ : PUnit) => (do dictSet s.heap.objs.size x.1 x.2; pure (ForInStep.yield PUnit.unit) : Sem (ForInStep PUnit)))
      (fun _ s₂ => Q (.ref s.heap.objs.size) s₂) E s₁) E { s with heap := s.heap.push { cls := .type "dict", data := .dict #[] } }) : wpAny (model prog w) A (eval (.Dict keys values pos) env) Q E s := by
  have hn := pairTrees_length keys values env pos hall hl
  have hne : pairTrees keys values env pos ≠ [] := fun he => by
    rw [he] at hn
    exact h0 (List.length_eq_zero_iff.mp hn.symm)
  rw [arm_eval_Dict, zip_pairTrees keys values env pos hall hl, dictDisplay_pairs _ hne (by rw [hn]; omega)]
  exact wpAny_bind (wpAny_standAt (wpAny_bind (subDict_raw (Q := fun d s' => wpAny (model prog w) A (pure (Value.ref d)) Q E s') (by rw [hn]; exact hlen)
    (wpAny_mono h (fun vs s₁ h₁ => wpAny_mono h₁ (fun _ _ q => wpAny_pure q) fun _ _ e => e) fun _ _ e => e))))
end
/-- {k: x, k2: y}: the new dict stands empty while the pairs are made, and is locked -/
def tDispO (K : PySem.W.Frag) (trs : List (TE × TE)) : TE := fun σ H Q => ∀ p, H p = none → tPairs trs σ (upd H p (.dK [])) fun ps H2 => H2 p = some (.dK []) ∧ ∃ (k k2 x y : PyData) (u2 v1 v2 : V) (q : Key), ps = [(kV q, v1), (u2, v2)] ∧ keyD k = some q ∧ Rep K H2 k2 u2 ∧ Rep K H2 x v1 ∧ Rep K H2 y v2 ∧ oddB k2 [(k, x)] = true ∧
  ∀ ob, Rep K (upd H2 p (.frz ob (.own p))) (.dict [(k, x), (k2, y)]) (.ref p) → Q (.ref p) (upd H2 p (.frz ob (.own p)))
theorem pe_dispO {X : Cx} {pos : Pos} {keys : List (Option Expr)} {values : List Expr} {trs : List (TE × TE)} (hk : ∃ o, X.K.lookup sysModules = some o) (hu : X.A.units + 10 < cLine) (h : PPs X pos keys values trs) (hall : keys.all (·.isSome) = true) (hl : keys.length = values.length) (h0 : keys ≠ [])
    (h15 : keys.length ≤ 15) : PE X (.Dict keys values pos) (tDispO X.K trs) := by
  refine ⟨fun pins s σ H Q I q => ?_⟩
  have hn := I.hok.fresh (Nat.le_refl s.heap.objs.size)
  have I1 := I.laid (a := s.heap.objs.size) (o := .dK []) (h' := s.heap.push { cls := .type "dict", data := .dict #[] }) (t' := s.toks) (fun _ _ q => Heap.get?_push_of_some _ q) (Nat.le_refl _) (dk_empty s.heap I.big)
  refine dict_raw hall hl h0 h15 (thn (h.run pins _ σ _ _ I1 (q _ hn)) fun ws s2 ⟨ps, H2, I2, rel, e, k, k2, x, y, u2, v1, v2, q1, ep, ek, r2, rx, ry, hodd, fin⟩ => ?_)
  subst ep
  cases rel with
  | @cons _ b1 _ bs ra rel =>
    cases rel with
    | @cons _ b2 _ bs rb rel =>
      cases rel
      obtain ⟨c1, d1⟩ := b1
      obtain ⟨c2, d2⟩ := b2
      have ra1 : RelV (kV q1) c1 := ra.1
      have ra2 : RelV v1 d1 := ra.2
      have rb1 : RelV u2 c2 := rb.1
      have rb2 : RelV v2 d2 := rb.2
      obtain ⟨z, hd, vs0, r0, dd⟩ := dk_of I2.hok e
      cases r0
      obtain ⟨nk, e1, e2, e3, e4⟩ := oddB_of hodd
      obtain ⟨as, rd, _⟩ := Rep.reads (nosys hk I2) I2 k2 e1 r2 rb1
      have hn2 := nk_reads k2 e1 rd
      have hns : ∀ y t, c2 ≠ .str y t := fun y t z => by
        subst z
        cases hn2
        cases k2 <;> first | (cases e2; done) | (cases e1; done) | skip
        all_goals first | cases rd | skip
        all_goals (unfold nkD at e1; obtain ⟨_, _, z⟩ := Option.map_eq_some_iff.mp e1; cases z)
      rw [List.forIn_cons]
      refine wpAny_bind (wpAny_bind (wpAny_dictSet_pairs (knd := mixKind X.prog X.w) (hsz := by simp) (kV_is ra1) dd fun h1 dd1 hs1 => wpAny_pure ?_))
      show wpAny _ _ (forIn [(c2, d2)] PUnit.unit _) _ _ _
      rw [List.forIn_cons]
      have I3 : Inv X pins σ (upd H2 s.heap.objs.size (.dK [(q1, v1)])) { s2 with heap := h1, toks := s2.toks + 1 } := by
        have he : ∃ q, h1.get? s.heap.objs.size = some q := let ⟨q, _, _, hq, _⟩ := dd1; ⟨q, hq⟩
        exact d_write I2 (by rw [e]; exact True.intro) hs1 he (dk_new (by simp [sizeLine_eq]) hd (.cons ⟨rfl, ra2⟩ .nil) dd1)
      have leA : Le H2 (upd H2 s.heap.objs.size (.dK [(q1, v1)])) := Le.mut e trivial
      obtain ⟨_, _, vs, rel1, ob, es, ep, g1, g2, g3, g4, g5, g6⟩ := dk_of I3.hok upd_same
      obtain ⟨as', rd', _⟩ := Rep.reads (nosys hk I3) I3 k2 e1 (Rep.le leA _ r2) rb1
      have hn3 := nk_reads k2 e1 rd'
      have rrK : RepK X.K (upd H2 s.heap.objs.size (.dK [(q1, v1)])) [(k, x)] [(q1, v1)] := ⟨q1, v1, [], rfl, ek, Rep.le leA _ rx, rfl⟩
      have hsz := sizeLine_eq
      have hz1 : es.size = 1 := by
        have l1 := g5.length
        have l2 : [(q1, v1)].length = vs.length := Paired.length rel1
        rw [Array.length_toList] at l1
        simp at l2
        omega
      refine wpAny_bind (wpAny_bind (dictSet_odd (by omega) hn3 e3 hns (fun en he => noneIs_of rrK rel1 g5 e4 en (Array.mem_toList_iff.mpr he)) g1 g2 g3 (by omega) fun h2' tk o' f1 f2 f3 f4 => wpAny_pure ?_))
      show wpAny _ _ (forIn [] PUnit.unit _) _ _ _
      rw [List.forIn_nil]
      have le : Le (upd H2 s.heap.objs.size (.dK [(q1, v1)])) (upd H2 s.heap.objs.size (.frz o' (.own s.heap.objs.size))) := by
        have := Le.mut (o := .frz o' (.own s.heap.objs.size)) (upd_same (H := H2) (a := s.heap.objs.size) (o := .dK [(q1, v1)])) trivial
        rwa [upd_upd] at this
      have I4 : Inv X pins σ (upd H2 s.heap.objs.size (.frz o' (.own s.heap.objs.size))) { s2 with heap := h2', toks := tk } := by
        have := d_write (ob := .frz o' (.own s.heap.objs.size)) (t' := tk) I3 (by rw [upd_same]; exact trivial) f4 ⟨o', f1⟩ ⟨f1, o', f1⟩
        rwa [upd_upd] at this
      refine wpAny_pure ⟨.ref s.heap.objs.size, _, I4, rfl, fin o' (.inr (.inl ⟨s.heap.objs.size, o', s.heap.objs.size, _, _, rfl, ⟨plain_odd (kvs := [(k, x)]) e2, err_app (kvs := [(k, x)]) e1 (RepK.allK rrK)⟩, upd_same, f2, f3, by rw [Array.size_push]; omega, ?_⟩))⟩
      rw [Array.toList_push]
      exact RepE.append (kvs := [(k, x)]) (RepE.le le _ (repK_E rrK rel1 g5)) rb1 rb2 (Rep.le (leA.trans le) _ r2) (Rep.le (leA.trans le) _ ry)
section
variable {c : Cfg} {Φ : Phi} {n : Nat} {xr : XR} {X : Cx} {W : WX} {e1 e2 f1 f2 : Expr} {w k w2 k2 : Ex} {pos : Pos}
theorem snd_ddis (o : CxOk c Φ n xr X W) (h : PE X e1 (rE Φ xr W X.K k)) (h2 : PE X e2 (rE Φ xr W X.K w)) : PE X (.Dict [some e1] [e2] pos) (rE Φ xr W X.K (.ddis k w)) := by
  refine peI (pe_fz (pe_disp (pps_cons h h2 pps_nil) rfl rfl (by simp) (by simp))) fun σ H Q ⟨G, ρ, S, E, P, R, w0, post, ex⟩ p hp => ?_
  have w0 : wpE Φ E k ρ S fun u ρ1 S1 => isD u fun kd => wpE Φ E w ρ1 S1 fun v ρ2 S2 => isD v fun d => isKey kd = true ∧ P (.d (.dict [(kd, d)])) ρ2 S2 := w0
  have R0 := R.ext (Same.upd (o := .dK []) hp)
  have o0 : Out G ρ S σ p := R.outNew hp
  refine ⟨regh ρ σ S (upd H p (.dK [])), ρ, S, E, _, R0.reg, w0, fun u ρ1 S1 x H1 p1 R1 r1 l1 => ?_, fun x' ρ' S' cls od H' e R' hx' le => ex x' ρ' S' cls od H' e (R0.back R') hx' ((Le.new hp).trans le)⟩
  obtain ⟨kd, rfl, p1⟩ := isD_of p1
  obtain ⟨o1, g1⟩ := R0.outBack R1 upd_same o0
  have R1' := R0.back R1
  have l1' := (Le.new (o := .dK []) hp).trans l1
  refine ⟨regh ρ1 σ S1 H1, ρ1, S1, E, _, R1'.reg, p1, fun v ρ2 S2 y H2 p2 R2 r2 l2 => ?_, fun x' ρ' S' cls od H' e R' hx' le => ex x' ρ' S' cls od H' e (R1'.back R') hx' (l1'.trans le)⟩
  obtain ⟨d, rfl, p2⟩ := isD_of p2
  obtain ⟨hk, p2⟩ := p2
  obtain ⟨o2, g2⟩ := R1'.outBack R2 g1 o1
  have R2' := R1'.back R2
  have rk : Rep X.K H2 kd x := Rep.le l2 kd r1
  have rv : Rep X.K H2 d y := r2
  obtain ⟨q, ek, rfl⟩ := keyD_rep' hk rk
  refine ⟨g2, [(q, y)], rfl, by simp, p, _, rfl, upd_same, trivial, fun ob => ?_⟩
  rw [upd_upd]
  have le : Le H2 (upd H2 p (.frz ob (.dK [(q, y)]))) := Le.mut g2 trivial
  exact post (.d (.dict [(kd, d)])) _ _ (.ref p) _ p2 (R2'.bump g2 trivial o2) (.inl ⟨p, [(q, y)], rfl, ⟨ob, upd_same⟩, q, y, [], rfl, ek, Rep.le le _ rv, rfl⟩) ((l1'.trans l2).trans le)
theorem snd_ddis2 (o : CxOk c Φ n xr X W) (h : PE X e1 (rE Φ xr W X.K k)) (h2 : PE X e2 (rE Φ xr W X.K w)) (h3 : PE X f1 (rE Φ xr W X.K k2)) (h4 : PE X f2 (rE Φ xr W X.K w2)) : PE X (.Dict [some e1, some f1] [e2, f2] pos) (rE Φ xr W X.K (.ddis2 k w k2 w2)) := by
  have hu : X.A.units + 10 < cLine := by have := o.room.units; omega
  refine peI (pe_dispO o.sys hu (pps_cons h h2 (pps_cons h3 h4 pps_nil)) rfl rfl (by simp) (by simp)) fun σ H Q ⟨G, ρ, S, E, P, R, w0, post, ex⟩ p hp => ?_
  have w0 : wpE Φ E k ρ S fun u ρ1 S1 => isD u fun kd => wpE Φ E w ρ1 S1 fun v ρ2 S2 => isD v fun d => wpE Φ E k2 ρ2 S2 fun u2 ρ3 S3 => isD u2 fun kd2 => wpE Φ E w2 ρ3 S3 fun v2 ρ4 S4 => isD v2 fun d2 => isKey kd = true ∧ oddB kd2 [(kd, d)] = true ∧ P (.d (.dict [(kd, d), (kd2, d2)])) ρ4 S4 := w0
  have R0 := R.ext (Same.upd (o := .dK []) hp)
  have o0 : Out G ρ S σ p := R.outNew hp
  refine ⟨regh ρ σ S (upd H p (.dK [])), ρ, S, E, _, R0.reg, w0, fun u ρ1 S1 x H1 p1 R1 r1 l1 => ?_, fun x' ρ' S' cls od H' e R' hx' le => ex x' ρ' S' cls od H' e (R0.back R') hx' ((Le.new hp).trans le)⟩
  obtain ⟨kd, rfl, p1⟩ := isD_of p1
  obtain ⟨o1, g1⟩ := R0.outBack R1 upd_same o0
  have R1' := R0.back R1
  have l1' := (Le.new (o := .dK []) hp).trans l1
  refine ⟨regh ρ1 σ S1 H1, ρ1, S1, E, _, R1'.reg, p1, fun v ρ2 S2 y H2 p2 R2 r2 l2 => ?_, fun x' ρ' S' cls od H' e R' hx' le => ex x' ρ' S' cls od H' e (R1'.back R') hx' (l1'.trans le)⟩
  obtain ⟨d, rfl, p2⟩ := isD_of p2
  obtain ⟨o2, g2⟩ := R1'.outBack R2 g1 o1
  have R2' := R1'.back R2
  have l2' := l1'.trans l2
  refine ⟨regh ρ2 σ S2 H2, ρ2, S2, E, _, R2'.reg, p2, fun u2 ρ3 S3 x2 H3 p3 R3 r3 l3 => ?_, fun x' ρ' S' cls od H' e R' hx' le => ex x' ρ' S' cls od H' e (R2'.back R') hx' (l2'.trans le)⟩
  obtain ⟨kd2, rfl, p3⟩ := isD_of p3
  obtain ⟨o3, g3⟩ := R2'.outBack R3 g2 o2
  have R3' := R2'.back R3
  have l3' := l2'.trans l3
  refine ⟨regh ρ3 σ S3 H3, ρ3, S3, E, _, R3'.reg, p3, fun v2 ρ4 S4 y2 H4 p4 R4 r4 l4 => ?_, fun x' ρ' S' cls od H' e R' hx' le => ex x' ρ' S' cls od H' e (R3'.back R') hx' (l3'.trans le)⟩
  obtain ⟨d2, rfl, p4⟩ := isD_of p4
  obtain ⟨hk, hodd, p4⟩ := p4
  obtain ⟨o4, g4⟩ := R3'.outBack R4 g3 o3
  have R4' := R3'.back R4
  have l4' := l3'.trans l4
  have rk : Rep X.K H4 kd x := Rep.le ((l2.trans l3).trans l4) kd r1
  have rv : Rep X.K H4 d y := Rep.le (l3.trans l4) d r2
  have rk2 : Rep X.K H4 kd2 x2 := Rep.le l4 kd2 r3
  have rv2 : Rep X.K H4 d2 y2 := r4
  obtain ⟨q, ek, rfl⟩ := keyD_rep' hk rk
  refine ⟨g4, kd, kd2, d, d2, x2, y, y2, q, rfl, ek, rk2, rv, rv2, hodd, fun ob rp => ?_⟩
  exact post (.d (.dict [(kd, d), (kd2, d2)])) _ _ (.ref p) _ p4 (R4'.bump g4 trivial o4) rp (l4'.trans (Le.mut g4 trivial))
end
end Lk
/-! DY: d.get(k, e), list(zip(a, b)), told of the lifted semantics. -/
namespace Lk
open PySem PySem.Spec PyProof.Rows L2
section
variable {c : Cfg} {Φ : Phi} {n : Nat} {xr : XR} {X : Cx} {W : WX} {y e1 e2 : Expr} {w k d a b : Ex} {pos : Pos}
theorem isNm_base {m : Str} {env : Env} (h : isNm y = true) : attributeBase y m env (eval y env) = eval y env := by
  cases y <;> first | rfl | cases h
theorem m2_of {m : Str} {ap : Pos} (hy : isNm y = true) (hl : (ap.endLine == pos.line) = true) (n1 : nst e1 = true) (n2 : nst e2 = true) : M2 X y m ap e1 e2 pos :=
  ⟨isNm_base hy, by rw [star_cons n1, star_cons n2]; rfl, hl, by rw [star_cons n1, star_cons n2]; rfl⟩
theorem isDic_of {d : PyData} (h : isDic d) : ∃ kvs, d = .dict kvs ∧ plainK kvs = true := by
  cases d <;> first | exact (show False from h).elim | exact ⟨_, rfl, h⟩
theorem getP_of {o k d : PyData} {Q : PyData → Prop} (h : getP o k d Q) : ∃ kvs, o = .dict kvs ∧ plainK kvs = true ∧ isKey k = true ∧ Q ((lookD kvs k).getD d) := by
  cases o <;> first | exact (show False from h).elim | exact ⟨_, rfl, h.1, h.2.1, h.2.2⟩
theorem snd_dget (o : CxOk c Φ n xr X W) {m : Str} {ap : Pos} (hm : (m == ("get" : Str)) = true) (hl : (ap.endLine == pos.line) = true) (hy : isNm y = true) (n1 : nst e1 = true) (n2 : nst e2 = true) (pw : PE X y (rX Φ xr W X.K w)) (pk : PE X e1 (rE Φ xr W X.K k)) (pd : PE X e2 (rE Φ xr W X.K d)) :
    PE X (.Call (.Attribute y m ap) [e1, e2] [] pos) (rE Φ xr W X.K (.dget w k d)) := by
  obtain rfl := eq_of_beq hm
  have hu : X.A.units + 1 < cLine := by have := o.room.units; omega
  refine peI (pe_dget2 hu pw pk pd (m2_of hy hl n1 n2)) fun σ H Q ⟨G, ρ, S, E, P, R, wp, post, ex⟩ => ?_
  have wp : wpX w (wpE Φ E w) ρ S fun x ρ1 S1 => con ρ1 S1 x isDic ∧ wpE Φ E k ρ1 S1 fun u ρ2 S2 => isD u fun kd => wpE Φ E d ρ2 S2 fun v ρ3 S3 => isD v fun dd => con ρ3 S3 x fun od => getP od kd dd fun r => P (.d r) ρ3 S3 := wp
  refine ⟨G, ρ, S, E, _, R, wp, fun x ρ1 S1 u H1 p1 R1 r1 l1 => ?_, ex⟩
  obtain ⟨z, p1⟩ := p1
  obtain ⟨dd, cd, hd⟩ := con_sound R1 z r1
  obtain ⟨kvs, rfl, hp⟩ := isDic_of hd
  obtain ⟨q, ks, rfl, hr, rr⟩ := cd.plain hp
  refine ⟨q, rfl, .inl ⟨ks, hr⟩, G, ρ1, S1, E, _, R1, p1, fun v2 ρ2 S2 u2 H2 p2 R2 r2 l2 => ?_, ex.le l1⟩
  obtain ⟨kd, rfl, p2⟩ := isD_of p2
  refine ⟨G, ρ2, S2, E, _, R2, p2, fun v3 ρ3 S3 u3 H3 p3 R3 r3 l3 => ?_, ex.le (l1.trans l2)⟩
  obtain ⟨de, rfl, p3⟩ := isD_of p3
  obtain ⟨od, co, hg⟩ := con_sound R3 p3 (RpA.le r1 (l2.trans l3))
  obtain ⟨kvs2, rfl, hp2, hk, hq⟩ := getP_of hg
  obtain ⟨q2, ks2, eq2, hr2, rr2⟩ := co.plain hp2
  cases eq2
  have r2 : Rep X.K H3 kd u2 := Rep.le l3 _ r2
  have r3 : Rep X.K H3 de u3 := r3
  obtain ⟨key, e3, rfl⟩ := keyD_rep' hk r2
  have fin : ∀ {r : PyData} {v : V}, P (.d r) ρ3 S3 → Rep X.K H3 r v → Q v H3 := fun {r v} p rv => post (.d r) _ _ v _ p R3 rv ((l1.trans l2).trans l3)
  refine ⟨valV ks2 key, .inl ⟨ks2, key, hr2, rfl, rfl⟩, ?_⟩
  rcases rr2.look e3 with ⟨z1, z2⟩ | ⟨dv, vv, z1, z2, z3⟩
  · rw [z1] at hq
    rw [z2]
    exact fin hq r3
  · rw [z1] at hq
    rw [z2]
    exact fin hq z3
theorem lzP_of {d e : PyData} {Q : PyData → Prop} (h : lzP d e Q) : ∃ xs ys, d = .tuple xs ∧ e = .tuple ys ∧ xs.length = ys.length ∧ Q (.list (zipL xs ys)) := by
  cases d <;> cases e <;> first | exact (show False from h).elim | exact ⟨_, _, rfl, rfl, h.1, h.2⟩
theorem zip_reps {K : PySem.W.Frag} {J : Hp} : ∀ {xs ys : List PyData} {vs us : List V} {ts : List Addr}, Reps K J xs vs → Reps K J ys us → Paired (fun (t : Addr) (q : V × V) => J t = some (.tup [q.1, q.2])) ts (vs.zip us) → Reps K J (zipL xs ys) (ts.map V.ref)
  | [], ys, vs, us, ts, r1, r2, p => by
    rw [show vs = [] from r1] at p
    cases p
    exact rfl
  | x :: xs, [], vs, us, ts, r1, r2, p => by
    rw [show us = [] from r2] at p
    rw [List.zip_nil_right] at p
    cases p
    exact rfl
  | x :: xs, y :: ys, _, _, ts, ⟨v, vs, rfl, rx, r1⟩, ⟨u, us, rfl, ry, r2⟩, p => by
    rw [List.zip_cons_cons] at p
    cases p with
    | cons h t => exact ⟨_, _, rfl, ⟨_, [v, u], rfl, SqT.of h, v, [u], rfl, rx, u, [], rfl, ry, rfl⟩, zip_reps r1 r2 t⟩
theorem snd_lzip (o : CxOk c Φ n xr X W) {x z : Str} {p p1 p2 : Pos} (hx : (x == ("list" : Str)) = true) (hz : (z == ("zip" : Str)) = true) (bx : bltB c x = true) (bz : bltB c z = true) (n1 : nst e1 = true) (n2 : nst e2 = true) (pa : PE X e1 (rX Φ xr W X.K a)) (pb : PE X e2 (rX Φ xr W X.K b)) :
    PE X (.Call (.Name x p) [.Call (.Name z p1) [e1, e2] [] p2] [] pos) (rE Φ xr W X.K (.lzip a b)) := by
  obtain rfl := eq_of_beq hx
  obtain rfl := eq_of_beq hz
  obtain ⟨g1, m1, _, _⟩ := o.bltn bx
  obtain ⟨g2, m2, _, _⟩ := o.bltn bz
  have pA : PA X [e1, e2] (tCons (rX Φ xr W X.K a) (tCons (rX Φ xr W X.K b) tNil)) := pa_cons pa (pa_cons pb pa_nil (star_cons n2)) (star_cons n1)
  refine peI (pe_fz (pe_lzip o.calm g1 m1 g2 m2 pA (star_cons n1) (star_plain (by simp [n2])))) fun σ H Q ⟨G, ρ, S, E, P, R, w, post, ex⟩ => ?_
  have w : wpX a (wpE Φ E a) ρ S fun x ρ1 S1 => wpX b (wpE Φ E b) ρ1 S1 fun y ρ2 S2 => con ρ2 S2 x fun d => con ρ2 S2 y fun e => lzP d e fun r => P (.d r) ρ2 S2 := w
  refine ⟨G, ρ, S, E, _, R, w, fun xa ρ1 S1 u H1 p1 R1 r1 l1 => ⟨G, ρ1, S1, E, _, R1, p1, fun ya ρ2 S2 v H2 p2 R2 r2 l2 => ?_, ex.le l1⟩, ex⟩
  obtain ⟨d, cd, p3⟩ := con_sound R2 p2 (RpA.le r1 l2)
  obtain ⟨e, ce, p4⟩ := con_sound R2 p3 r2
  obtain ⟨xs, ys, rfl, rfl, hl, p5⟩ := lzP_of p4
  obtain ⟨q1, vs, rfl, sq1, rr1⟩ := cd
  obtain ⟨q2, us, rfl, sq2, rr2⟩ := ce
  refine ⟨q1, q2, vs, us, rfl, sq1, sq2, by rw [rr1.length, rr2.length]; exact hl, fun J p ts sm hp hJ pr => ?_⟩
  have lJ : Le H2 J := Le.of_same sm
  have rz := zip_reps (Reps.le lJ _ rr1) (Reps.le lJ _ rr2) pr
  refine ⟨p, _, rfl, hJ, trivial, fun ob => ?_⟩
  have le : Le J (upd J p (.frz ob (.lst (ts.map V.ref)))) := Le.mut hJ trivial
  have same : Same H2 (upd J p (.frz ob (.lst (ts.map V.ref)))) := fun c u e => by
    have hc : c ≠ p := fun z => by rw [z, hp] at e; cases e
    rw [upd_ne hc]
    exact sm c u e
  exact post (.d (.list (zipL xs ys))) _ _ (.ref p) _ p5 (R2.ext same) ⟨p, ts.map V.ref, rfl, ⟨ob, upd_same⟩, Reps.le le _ rz⟩ ((l1.trans l2).trans (Le.of_same same))
theorem rng_reps {K : PySem.W.Frag} {H : Hp} (k : Int) : Reps K H (rangeL 0 k) (rgV 0 k) := by
  unfold rangeL rgV
  generalize List.range (k - 0).toNat = js
  induction js with
  | nil => rfl
  | cons j js ih => exact ⟨_, _, rfl, rfl, ih⟩
theorem fewOne {e : Expr} {env : Env} {cpos : Pos} (h : nst e = true) : ((backTo cpos (starEach [e] env)).all (fun x => !x.1) && (backToKw cpos (keywordEach [] env)).all (fun x => x.1.isSome)
    && decide ([e].length + ([] : List Keyword).length + (if ([] : List Keyword).isEmpty then 0 else 1) < 30)) = true := by
  rw [star_cons h]
  rfl
theorem lv_of {K : PySem.W.Frag} {G : Gh} {ρ : VE} {S : Sto} {σ : L2.St} {H : Hp} {v : PV} {u : V} {Q : List PyData → Prop} (R : Rel K G ρ S σ H) (r : RepV K H v u) (h : lvP S v Q) : ∃ l xs vs, u = .ref l ∧ SqL K H l vs ∧ Reps K H xs vs ∧ Q xs := by
  cases v with
  | s ns => exact (show False from h).elim
  | r l =>
    have h : (match S l with
      | some (.lst xs) => Q xs
      | _ => False) := h
    have eu : u = .ref l := r
    split at h
    · rename_i xs e
      obtain ⟨vs, hb, rr⟩ := R.sto l _ e
      exact ⟨l, xs, vs, eu, .inl (.inl hb), rr, h⟩
    · exact h.elim
  | d k =>
    cases k <;> try exact (show False from h).elim
    rename_i xs
    obtain ⟨b, vs, ex, hb, rr⟩ := r
    exact ⟨b, xs, vs, ex, .inl (.inr hb), rr, h⟩
theorem snd_lidx (o : CxOk c Φ n xr X W) {m : Str} {ap : Pos} (hm : (m == ("index" : Str)) = true) (hl : (ap.endLine == pos.line) = true) (hy : isNm y = true) (n1 : nst e1 = true) (pa : PE X y (rE Φ xr W X.K a)) (pe : PE X e1 (rE Φ xr W X.K w)) :
    PE X (.Call (.Attribute y m ap) [e1] [] pos) (rE Φ xr W X.K (.lidx a w)) := by
  obtain rfl := eq_of_beq hm
  have hu : X.A.units + 65 < cLine := by have := o.room.un; omega
  have pA : PA X [e1] (tCons (rE Φ xr W X.K w) tNil) := pa_cons pe pa_nil (star_cons n1)
  refine peI (pe_bm (r := rIndexD X.K) F.plainAttrs_list F.slot_list_index F.type_list_index (mt_indexD hu) pa pA (isNm_base hy) (fewOne n1) hl (star_cons n1) rfl) fun σ H Q ⟨G, ρ, S, E, P, R, wp, post, ex⟩ => ?_
  have wp : wpE Φ E a ρ S fun v ρ1 S1 => lvP S1 v fun _ => wpE Φ E w ρ1 S1 fun u ρ2 S2 => isD u fun d => lvP S2 v fun ds => idxP ds d fun k => P (.d (.int k)) ρ2 S2 := wp
  refine ⟨G, ρ, S, E, _, R, wp, fun v ρ1 S1 u H1 p R1 rv l1 => ?_, ex⟩
  obtain ⟨l, xs, vs, rfl, hs, _, p⟩ := lv_of R1 rv p
  refine ⟨.inl ⟨rfl, vs, hs⟩, G, ρ1, S1, E, _, R1, p, fun v2 ρ2 S2 u2 H2 q R2 rv2 l2 => ?_, ex.le l1⟩
  obtain ⟨d, rfl, q⟩ := isD_of q
  obtain ⟨l', ds, vs2, e1, hs2, rr2, sl, sd, j, z, hz, hzj, hno, q⟩ := lv_of R2 (RepV.le l2 rv) q
  cases e1
  exact ⟨l, u2, d, ds, j, z, rfl, rfl, .lst hs2 (Reps.dp ds (SeqAt.canLay_of_shaped sl) rr2), Rep.dp d (SeqAt.canLay_of_shaped sd) rv2, sl, sd, hz, hzj, hno, post (.d (.int j)) _ _ (.int j) _ q R2 rfl (l1.trans l2)⟩
theorem rngP_of {d : PyData} {Q : PyData → Prop} (h : rngP d Q) : ∃ k, d = .int k ∧ -(2 ^ 62) ≤ k ∧ k < 2 ^ 62 ∧ k.toNat ≤ 2 ^ 24 ∧ Q (.tuple (rangeL 0 k)) := by
  cases d <;> try exact (show False from h).elim
  exact ⟨_, rfl, h⟩
theorem snd_trng (o : CxOk c Φ n xr X W) {x z : Str} {p p1 p2 : Pos} (hx : (x == ("tuple" : Str)) = true) (hz : (z == ("range" : Str)) = true) (bx : bltB c x = true) (bz : bltB c z = true) (n1 : nst e1 = true) (ha : PE X e1 (rE Φ xr W X.K a)) :
    PE X (.Call (.Name x p) [.Call (.Name z p1) [e1] [] p2] [] pos) (rE Φ xr W X.K (.trng a)) := by
  obtain rfl := eq_of_beq hx
  obtain rfl := eq_of_beq hz
  obtain ⟨g1, m1, _, _⟩ := o.bltn bx
  obtain ⟨g2, m2, _, _⟩ := o.bltn bz
  refine peI (pe_tupRg o.calm g1 m1 (prg_1 g2 m2 ha (star_cons n1)) rfl) fun σ H Q ⟨G, ρ, S, E, P, R, w, post, ex⟩ => ?_
  have w : wpE Φ E a ρ S fun v ρ1 S1 => isD v fun d => rngP d fun r => P (.d r) ρ1 S1 := w
  refine ⟨G, ρ, S, E, _, R, w, fun v ρ1 S1 u H1 p R1 rv l1 => ?_, ex⟩
  obtain ⟨d, rfl, p⟩ := isD_of p
  obtain ⟨k, rfl, b1, b2, b3, p⟩ := rngP_of p
  have eu : u = .int k := rv
  refine ⟨k, eu, ⟨by decide, by decide, b1, b2, by rw [Int.sub_zero]; exact b3⟩, fun q hq => ?_⟩
  exact of_new_tup (Q := fun v H' => Q v H') (rng_reps k) (fun v H' sm rp => post (.d (.tuple (rangeL 0 k))) _ _ v _ p (R1.ext sm) rp (l1.trans (Le.of_same sm))) q hq
end
end Lk
/-! DN: d.items() whose pairs go to a name; list(d.items()); dict() of pairs with truth values as keys; sorted() of texts. -/
namespace Lk
open PySem PySem.Spec PyProof.Rows L2
/-! ### the iterator of the pairs, whose tuple may be out or not -/
abbrev ItA (h : Heap) (it d : Addr) (i n ep : Nat) (f0 : Value) (f1 : Bool) (ok ov : Value) : Prop :=
  h.get? it = some { cls := .type "dict_itemiterator", dict := none, data := .fields #[f0, .bool f1, .ref d, .int i 0, .int n 0, .int ep 0, ok, ov], slots := #[] }
def ItE (h : Heap) (it d : Addr) (i n ep : Nat) : Prop := ∃ f0 f1 ok ov, ItA h it d i n ep f0 f1 ok ov ∧ (f0 = .none ∨ ∃ T : Addr, f0 = rawInt (T : Int))
section
variable {prog : Program} {w : World} {A : Around} {E : Value → Shared → Prop} {s : Shared} {it d : Addr} {i n ep : Nat} {f0 : Value} {f1 : Bool} {ok ov : Value}
theorem freeD_ok {Q : Bool → Shared → Prop} (hz : ItA s.heap it d i n ep f0 f1 ok ov) (hf : f0 = .none ∨ ∃ T : Addr, f0 = rawInt (T : Int))
    (h : ∀ b h' f1', ItA h' it d i n ep f0 f1' ok ov → Heap.SameBut it s.heap h' → Q b { s with heap := h' }) : wpAny (model prog w) A (Builtin.Dict_items.ownedTupleIsFree (.ref it)) Q E s := by
  unfold Builtin.Dict_items.ownedTupleIsFree
  refine wpAny_bind (wpAny_field (x := f0) hz rfl rfl ?_)
  rcases hf with rfl | ⟨T, rfl⟩
  · exact wpAny_pure (h true s.heap f1 hz (Heap.SameBut.refl _ _))
  · show wpAny _ _ (loadIfAlive ((T : Int).toNat) >>= _) _ _ _
    refine wpAny_bind (loadAlive_ok ?_)
    cases s.heap.get? ((T : Int).toNat) with
    | none => exact wpAny_pure (h true s.heap f1 hz (Heap.SameBut.refl _ _))
    | some o =>
      simp only [Option.isNone_some, Bool.false_eq_true, if_false]
      refine wpAny_bind (wpAny_field (x := .bool f1) hz rfl rfl ?_)
      cases f1 with
      | true =>
        rw [if_neg (show ¬ ((Value.bool true != Value.bool true) = true) from fun e => nomatch e)]
        exact wpAny_pure (h false s.heap true hz (Heap.SameBut.refl _ _))
      | false =>
        rw [if_pos (show (Value.bool false != Value.bool true) = true from rfl)]
        refine wpAny_bind (wpAny_setField_rec hz (by simp) fun g hg sg => wpAny_pure ?_)
        exact h false g true hg sg
theorem nextN {es : Array DictEntry} {Q : Option Value → Shared → Prop} (hst : ItE s.heap it d i es.size ep) (hm : DT.Raw s.heap d es ep) (hi : i < es.size)
    (hQ : ∀ h', ItE h' it d (i + 1) es.size ep →
      h'.get? s.heap.objs.size = some { cls := .type "tuple", data := .seq #[es[i].key, es[i].val] } → h'.objs.size = s.heap.objs.size + 1 →
      (∀ b o, b ≠ it → s.heap.get? b = some o → h'.get? b = some o) → Q (some (.ref s.heap.objs.size)) { s with heap := h' }) :
    wpAny (model prog w) A (pyNext (.ref it)) Q E s := by
  obtain ⟨f0, f1, ok, ov, hit, hf⟩ := hst
  obtain ⟨hp, g, dr, tk, os⟩ := s
  obtain ⟨od, hod, hcd, hdd⟩ := id hm
  have hT : Shared.TypeIs ⟨hp, g, dr, tk, os⟩ (.ref it) "dict_itemiterator" := ⟨_, hit, rfl⟩
  unfold pyNext
  refine wpAny_bind (wpAny_attempt (wpAny_callSpecial?_slot (name := Str.ofString "__next__") hT PySem.F.slot_dict_itemiterator_next
    (wpAny_call_entry PySem.F.slot_dict_itemiterator_next hT PySem.F.entry_dict_itemiterator_next ?_ (PySem.F.args_dict_itemiterator_next_1 _))))
  refine wpAny_bind (wpAny_pure ?_)
  refine wpAny_bind ?_
  refine wpAny_bind ?_
  first | refine wpAny_bind (wpAny_typeNameOfWhole_itemiter hT (wpAny_pure ?_)) | refine wpAny_bind (wpAny_typeNameOf_itemiter hT (wpAny_pure ?_))
  refine wpAny_bind (wpAny_fieldsOf hit rfl ?_)
  have hown : Builtin.Dict_items.ownsTuple "dict_itemiterator" = true := by decide
  simp only [hown, if_true]
  show wpAny _ _ (if (Value.ref d == Value.none) = true then _ else _) _ _ _
  rw [if_neg (show ¬ ((Value.ref d == Value.none) = true) from Bool.false_ne_true)]
  refine wpAny_bind (wpAny_pure ?_)
  refine wpAny_bind (wpAny_dictEntries hod hdd ?_)
  rw [if_neg (by simp)]
  refine wpAny_bind (wpAny_pure ?_)
  refine wpAny_bind (wpAny_dictEpoch hod hdd ?_)
  rw [if_neg (by simp)]
  refine wpAny_pure ?_
  simp only [show ¬ ((i : Int) < 0) from by omega, if_false, Int.toNat_natCast, Array.getElem?_eq_getElem hi]
  refine wpAny_bind ?_
  first | refine wpAny_bind (wpAny_typeNameOfWhole_itemiter hT (wpAny_pure ?_)) | refine wpAny_bind (wpAny_typeNameOf_itemiter hT (wpAny_pure ?_))
  refine wpAny_bind (wpAny_isOneOf_itemiter hT ?_)
  show wpAny _ _ (setField (.ref it) 3 (rawInt ((i : Int) + 1)) >>= _) _ _ ⟨hp, g, dr, tk, os⟩
  refine wpAny_bind (wpAny_setField_rec hit (by simp) fun h₁ he₁ hs₁ => ?_)
  replace hs₁ : Heap.SameBut it hp h₁ := hs₁
  replace he₁ : ItA h₁ it d (i + 1) es.size ep f0 f1 ok ov := by
    have e : ((i + 1 : Nat) : Int) = (i : Int) + 1 := by omega
    unfold ItA; rw [e]; simpa [rawInt] using he₁
  have hT₁ : Shared.TypeIs ⟨h₁, g, dr, tk, os⟩ (.ref it) "dict_itemiterator" := ⟨_, he₁, rfl⟩
  refine wpAny_bind (wpAny_holding ?_)
  refine wpAny_bind (wpAny_isOneOf_itemiter hT₁ ?_)
  refine wpAny_bind (wpAny_isOneOf_itemiter hT₁ ?_)
  show wpAny _ _ (Builtin.Dict_items.pairFromOwner (.ref it) 6 es[i].key es[i].val) _ _ ⟨h₁, g, dr, tk, os⟩
  unfold Builtin.Dict_items.pairFromOwner
  refine wpAny_bind (wpAny_newTuple ?_)
  have he₂ : ItA (h₁.push { cls := .type "tuple", data := .seq #[es[i].key, es[i].val] }) it d (i + 1) es.size ep f0 f1 ok ov := Heap.get?_push_of_some _ he₁
  generalize hh₂ : h₁.push { cls := .type "tuple", data := .seq #[es[i].key, es[i].val] } = h₂ at he₂
  have hz₁ : h₁.objs.size = hp.objs.size := hs₁.1
  have hil : it < hp.objs.size := Heap.lt_size hit
  have ht₂ : h₂.get? hp.objs.size = some { cls := .type "tuple", data := .seq #[es[i].key, es[i].val] } := by rw [← hh₂, ← hz₁]; exact Heap.get?_push_size _ rfl
  have hz₂ : h₂.objs.size = hp.objs.size + 1 := by rw [← hh₂, Heap.size_push, hz₁]
  have hk₂ : ∀ b o, b ≠ it → hp.get? b = some o → h₂.get? b = some o := fun b o hb e => by rw [← hh₂]; exact Heap.get?_push_of_some _ (hs₁.extBut b o hb e)
  show wpAny _ _ (Builtin.Dict_items.ownedTupleIsFree (.ref it) >>= _) _ _ ⟨h₂, g, dr, tk, os⟩
  rw [hz₁]
  clear hh₂ he₁ hs₁ hT₁ hz₁ h₁
  refine wpAny_bind (freeD_ok (s := ⟨h₂, g, dr, tk, os⟩) he₂ hf fun b h₂' f1' he₂' sb => ?_)
  have fin : ∀ h₃ : Heap, ItE h₃ it d (i + 1) es.size ep → Heap.SameBut it h₂ h₃ → Q (some (.ref hp.objs.size)) ⟨h₃, g, dr, tk, os⟩ := fun h₃ he₃ hs₃ =>
    hQ h₃ he₃ (hs₃.extBut _ _ (Nat.ne_of_gt hil) ht₂) (by show h₃.objs.size = hp.objs.size + 1; rw [hs₃.1, hz₂]) fun b o hb e => hs₃.extBut b o hb (hk₂ b o hb e)
  cases b with
  | false =>
    simp only [Bool.false_eq_true, if_false]
    exact wpAny_pure (wpAny_pure ⟨_, rfl, wpAny_pure (fin h₂' ⟨_, _, _, _, he₂', hf⟩ sb)⟩)
  | true =>
    simp only [if_true]
    refine wpAny_bind (wpAny_field (s := ⟨h₂', g, dr, tk, os⟩) he₂' rfl (x := ok) rfl ?_)
    refine wpAny_bind (wpAny_field (s := ⟨h₂', g, dr, tk, os⟩) he₂' rfl (x := ov) rfl ?_)
    refine wpAny_bind (wpAny_setField_rec (s := ⟨h₂', g, dr, tk, os⟩) he₂' (by simp) fun h₃ he₃ hs₃ => ?_)
    replace hs₃ : Heap.SameBut it h₂' h₃ := hs₃
    replace he₃ : ItA h₃ it d (i + 1) es.size ep f0 f1' es[i].key ov := he₃
    refine wpAny_bind (wpAny_setField_rec (s := ⟨h₃, g, dr, tk, os⟩) he₃ (by simp) fun h₄ he₄ hs₄ => ?_)
    replace hs₄ : Heap.SameBut it h₃ h₄ := hs₄
    replace he₄ : ItA h₄ it d (i + 1) es.size ep f0 f1' es[i].key es[i].val := he₄
    refine wpAny_bind (wpAny_setField_rec (s := ⟨h₄, g, dr, tk, os⟩) he₄ (by simp) fun h₅ he₅ hs₅ => ?_)
    replace hs₅ : Heap.SameBut it h₄ h₅ := hs₅
    replace he₅ : ItA h₅ it d (i + 1) es.size ep (rawInt hp.objs.size) f1' es[i].key es[i].val := he₅
    refine wpAny_bind (wpAny_setField_rec (s := ⟨h₅, g, dr, tk, os⟩) he₅ (by simp) fun h₆ he₆ hs₆ => ?_)
    replace hs₆ : Heap.SameBut it h₅ h₆ := hs₆
    replace he₆ : ItA h₆ it d (i + 1) es.size ep (rawInt hp.objs.size) false es[i].key es[i].val := he₆
    exact wpAny_bind (wpAny_letGo (wpAny_pure (wpAny_pure ⟨_, rfl, wpAny_pure (fin h₆ ⟨_, _, _, _, he₆, .inr ⟨hp.objs.size, rfl⟩⟩ ((((sb.trans hs₃).trans hs₄).trans hs₅).trans hs₆))⟩)))
theorem endN {es : Array DictEntry} {Q : Option Value → Shared → Prop} (hh : A.handled = none) (hst : ItE s.heap it d i es.size ep) (hm : DT.Raw s.heap d es ep) (hge : es.size ≤ i)
    (hQ : ∀ h', Heap.ExtBut it s.heap h' → Q none { s with heap := h' }) : wpAny (model prog w) A (pyNext (.ref it)) Q E s := by
  obtain ⟨f0, f1, ok, ov, hit, hf⟩ := hst
  obtain ⟨od, hod, hcd, hdd⟩ := id hm
  have hT : s.TypeIs (.ref it) "dict_itemiterator" := ⟨_, hit, rfl⟩
  unfold pyNext
  refine wpAny_bind (wpAny_attempt (wpAny_callSpecial?_slot (name := Str.ofString "__next__") hT PySem.F.slot_dict_itemiterator_next
    (wpAny_call_entry PySem.F.slot_dict_itemiterator_next hT PySem.F.entry_dict_itemiterator_next ?_ (PySem.F.args_dict_itemiterator_next_1 _))))
  refine wpAny_bind (wpAny_pure ?_)
  refine wpAny_bind ?_
  refine wpAny_bind ?_
  first | refine wpAny_bind (wpAny_typeNameOfWhole_itemiter hT (wpAny_pure ?_)) | refine wpAny_bind (wpAny_typeNameOf_itemiter hT (wpAny_pure ?_))
  refine wpAny_bind (wpAny_fieldsOf hit rfl ?_)
  have hown : Builtin.Dict_items.ownsTuple "dict_itemiterator" = true := by decide
  simp only [hown, if_true]
  show wpAny _ _ (if (Value.ref d == Value.none) = true then _ else _) _ _ s
  rw [if_neg (show ¬ ((Value.ref d == Value.none) = true) from Bool.false_ne_true)]
  refine wpAny_bind (wpAny_pure ?_)
  refine wpAny_bind (wpAny_dictEntries hod hdd ?_)
  rw [if_neg (by simp)]
  refine wpAny_bind (wpAny_pure ?_)
  refine wpAny_bind (wpAny_dictEpoch hod hdd ?_)
  rw [if_neg (by simp)]
  refine wpAny_pure ?_
  simp only [show ¬ ((i : Int) < 0) from by omega, if_false, Int.toNat_natCast, Array.getElem?_eq_none hge]
  refine wpAny_bind ?_
  first | refine wpAny_bind (wpAny_typeNameOfWhole_itemiter hT (wpAny_pure ?_)) | refine wpAny_bind (wpAny_typeNameOf_itemiter hT (wpAny_pure ?_))
  show wpAny _ _ (setField (.ref it) 2 .none >>= _) _ _ s
  refine wpAny_bind (wpAny_setField hit rfl (by simp) ?_)
  show wpAny _ _ (newExc (.type "StopIteration") [] >>= _) _ _ _
  refine wpAny_bind ?_
  simp only [newExc, newTuple]
  refine wpAny_bind (wpAny_newObj_type ?_ (by size_fits))
  refine wpAny_bind (m := firstArgMember _ _) (wpAny_of_eq (a := Value.none) (by first | rfl | (simp only [firstArgMember]; rfl)) ?_)
  refine wpAny_newObj_type ?_ (by size_fits)
  simp only [raiseNew]
  refine wpAny_bind (wpAny_handled ?_)
  rw [show A.in1.handled = none from hh]
  refine wpAny_bind (wpAny_pure (wpAny_throw ?_))
  refine wpAny_bind (wpAny_isInstance (T := "StopIteration") (b := true) ⟨_, Heap.get?_push_size _ rfl, rfl⟩ isSubtype_stop ?_)
  exact wpAny_pure (hQ _ (((Heap.SameBut.update ..).extBut.push _).push _))
end
def ItN (d : Addr) (o : Obj) (u : HO) (ws : List (V × V)) : It :=
  ⟨fun i H => H d = some (.frz o u) ∧ i < ws.length, fun i H x H' => ∃ T k v, ws[i]? = some (k, v) ∧ x = .ref T ∧ H T = none ∧ H' = upd H T (.tup [k, v]), fun i H => H d = some (.frz o u) ∧ ws.length ≤ i⟩
theorem turn_itemsN {P : Program} {w : World} {K : PySem.W.Frag} {y : Str} {yp : Pos} {d : Addr} {o : Obj} {u : HO} {es : Array DictEntry} {ep : Nat} {ws : List (V × V)} (it : Addr) (hx : o.ExactDict) (hod : o.data = .dict es ep) (hl : es.size = ws.length)
    (hr : ∀ (i : Nat) (k v : V), ws[i]? = some (k, v) → ∃ en, es[i]? = some en ∧ RelV k en.key ∧ RelV v en.val) : Turn P w K (.Name y yp) (ItN d o u ws) [it] it (fun i h => ItE h it d i ws.length ep) where
  mem := by simp
  obj := fun i h st b hb => by
    have e : b = it := by simpa using hb
    subst e
    obtain ⟨_, _, _, _, e, _⟩ := st
    exact ⟨_, e, fun v z => nomatch z⟩
  keep := fun i h h' st k => let ⟨f0, f1, ok, ov, e, hf⟩ := st; ⟨f0, f1, ok, ov, k it (by simp) _ e, hf⟩
  item := by
    intro X hP hw hK hc i pins s σ H E I hf st hg
    subst hP hw hK
    obtain ⟨hd, hi⟩ := hg
    have hgd : s.heap.get? d = some o := (show ObjOk X.prog X.w H s.heap d (.frz o u) from I.hok d _ hd).1
    obtain ⟨⟨k, v⟩, hkv⟩ : ∃ p, ws[i]? = some p := ⟨ws[i], List.getElem?_eq_getElem hi⟩
    obtain ⟨en, hen, rk, rv⟩ := hr i k v hkv
    rw [← hl] at st
    have hlt : it < s.heap.objs.size := by
      obtain ⟨_, _, _, _, e, _⟩ := st
      exact Heap.lt_size e
    have hi2 : i < es.size := by omega
    have een : es[i] = en := by
      rw [Array.getElem?_eq_getElem hi2] at hen
      exact Option.some.inj hen
    refine nextN st ⟨o, hgd, hx, hod⟩ hi2 fun h' st' hT hz hk => ?_
    refine ⟨_, rfl, wpAny_pure ?_⟩
    rw [een] at hT
    have new : ObjOk X.prog X.w (upd H s.heap.objs.size (.tup [k, v])) h' s.heap.objs.size (.tup [k, v]) :=
      ⟨by show 2 ≤ sizeLine; decide, [en.key, en.val], .cons rk (.cons rv .nil), ⟨_, hT, rfl, _, rfl⟩⟩
    have I1 : Inv X pins σ (upd H s.heap.objs.size (.tup [k, v])) { s with heap := h' } :=
      I.turnedNew (t' := s.toks) (ch := [it]) (fun b ob hb e => hk b ob (by simpa using hb) e) hf (Nat.le_refl _) new
    refine ⟨.ref s.heap.objs.size, _, I1, rfl, ⟨_, k, v, hkv, rfl, I.hok.fresh (Nat.le_refl _), rfl⟩, ?_, fun b hb => ?_⟩
    · rw [← hl]; exact st'
    · have e : b = it := by simpa using hb
      rw [e, upd_ne (Nat.ne_of_lt hlt)]
      exact (hf it (by simp)).1
  done := by
    intro X hP hw hK hc i pins s σ H E I hf st hg
    subst hP hw hK
    obtain ⟨hd, hi⟩ := hg
    obtain ⟨f0, f1, f2, f3, f4, f5⟩ := hf it (by simp)
    have hgd : s.heap.get? d = some o := (show ObjOk X.prog X.w H s.heap d (.frz o u) from I.hok d _ hd).1
    rw [← hl] at st
    exact endN (I.ok.hd hc) st ⟨o, hgd, hx, hod⟩ (by omega) fun h' eb => ⟨rfl, I.turned (t' := s.toks) (fun b ob hb e => eb b ob hb e) f0 f1 f3 f4 f5⟩
  self := fun A i s Q E st h => by
    obtain ⟨f0, f1, ok, ov, e, _⟩ := st
    have hT : s.TypeIs (.ref it) "dict_itemiterator" := ⟨_, e, rfl⟩
    refine wpAny_pyIter_slot hT F.slot_dict_itemiterator_iter (wpAny_call_entry F.slot_dict_itemiterator_iter hT PySem.W.kcp_entry ?_ (F.args_dict_itemiterator_iter_1 _))
    show wpAny _ _ (ret (.ref it)) _ _ s
    exact wpAny_pure ⟨_, rfl, "dict_itemiterator", _, hT, F.slot_dict_itemiterator_next.lookup, h⟩
/-- what a frozen dict's walk gives -/
def iItemsN (td : TE) : TI := fun σ H R => td σ H fun x H1 => ∃ d o, x = .ref d ∧ ((∃ kvs, H1 d = some (.frz o (.dK kvs)) ∧ R (ItN d o (.dK kvs) (kvs.map fun p => (kV p.1, p.2))) H1) ∨
  ∃ y es ep ws, H1 d = some (.frz o (.own y)) ∧ o.ExactDict ∧ o.data = .dict es ep ∧ es.size = List.length ws ∧ (∀ (i : Nat) (k v : V), ws[i]? = some (k, v) → ∃ en, es[i]? = some en ∧ RelV k en.key ∧ RelV v en.val) ∧ R (ItN d o (.own y) ws) H1)
theorem pairs_ent {prog : Program} {w : World} : ∀ {kvs : List (Key × V)} {vs : List (Key × Value)} {es : List DictEntry}, KV kvs vs → Pairs (mixKind prog w) es vs → ∀ (i : Nat) (k v : V), (kvs.map fun p => (kV p.1, p.2))[i]? = some (k, v) → ∃ en, es[i]? = some en ∧ RelV k en.key ∧ RelV v en.val
  | [], _, _, r, p, i, k, v, e => by simp at e
  | (q, x) :: kvs, _, _, r, p, i, k, v, e => by
    cases r with
    | @cons _ qa _ qs r1 r2 =>
      obtain ⟨qk, qv⟩ := qa
      cases p with
      | @cons e0 _ es _ p1 pe p2 =>
        have e1 : q = qk := r1.1
        subst e1
        cases i with
        | zero =>
          simp at e
          obtain ⟨rfl, rfl⟩ := e
          have pe : e0.val = qv := pe
          exact ⟨e0, rfl, relV_key (show keyIs q e0.key = true from p1), by rw [pe]; exact r1.2⟩
        | succ i => simpa using pairs_ent r2 p2 i k v (by simpa using e)
theorem RepE.ents {K : PySem.W.Frag} {H : Hp} : ∀ {kvs : List (PyData × PyData)} {es : List DictEntry}, RepE K H kvs es → ∃ ws : List (V × V), ws.length = es.length ∧ ws.length = kvs.length ∧ (∀ (i : Nat) (k v : V), ws[i]? = some (k, v) → ∃ en, es[i]? = some en ∧ RelV k en.key ∧ RelV v en.val) ∧
    ∀ (i : Nat) (p : PyData × PyData), kvs[i]? = some p → ∃ k v, ws[i]? = some (k, v) ∧ Rep K H p.1 k ∧ Rep K H p.2 v
  | [], _, h => by
    cases h
    exact ⟨[], rfl, rfl, fun i k v e => by simp at e, fun i p e => by simp at e⟩
  | p :: kvs, _, h => by
    obtain ⟨e, t, u, v, rfl, r1, r2, h1, h2, ht⟩ := h
    obtain ⟨ws, q1, q2, q3, q4⟩ := RepE.ents ht
    refine ⟨(u, v) :: ws, by simp [q1], by simp [q2], fun i k x ez => ?_, fun i z ez => ?_⟩
    · cases i with
      | zero =>
        simp at ez
        obtain ⟨rfl, rfl⟩ := ez
        exact ⟨e, rfl, r1, r2⟩
      | succ i => simpa using q3 i k x (by simpa using ez)
    · cases i with
      | zero =>
        simp at ez
        subst ez
        exact ⟨u, v, rfl, h1, h2⟩
      | succ i => simpa using q4 i z (by simpa using ez)
section
variable {X : Cx} {e : Expr} {td : TE} {apos cpos : Pos}
theorem pi_itemsN {y : Str} {yp : Pos} (hk : ∃ o, X.K.lookup sysModules = some o) (he : PE X e td) (hbase : attributeBase e "items" X.env (eval e X.env) = eval e X.env := by rfl) (hline : (apos.endLine == cpos.line) = true := by rfl) :
    PI X (.Name y yp) (.Call (.Attribute e "items" apos) [] [] cpos) (iItemsN td) := by
  refine ⟨fun pins s σ H R I h => ?_⟩
  refine wpAny_Call_method (T := "dict") (id := "dict.items") hbase rfl hline F.plainAttrs_dict F.slot_dict_items F.type_dict_items (thn (he.run pins s σ H _ I h) fun u s1 ⟨x, H1, I1, rx, d, o, ex, q⟩ => ?_)
  subst ex
  obtain rfl : u = Value.ref d := rx
  have I2 : Inv X pins σ H1 { s1 with heap := s1.heap.push { cls := .type "dict_items", data := .fields #[.ref d] } } := I1.kept (t' := s1.toks) fun b ob q => Heap.get?_push_of_some _ q
  have all : ∀ {u : HO} {es : Array DictEntry} {ep : Nat} {ws : List (V × V)}, (d == sysModules) = false → s1.heap.get? d = some o → o.ExactDict → o.data = .dict es ep → es.size = ws.length → (∀ (i : Nat) (k v : V), ws[i]? = some (k, v) → ∃ en, es[i]? = some en ∧ RelV k en.key ∧ RelV v en.val) → R (ItN d o u ws) H1 →
      s1.TypeIs (.ref d) "dict" ∧ wpAny (model X.prog X.w) X.A (callWith cpos (.builtin "dict.items") [.ref d] [] []) (fun v s2 => wpAny (model X.prog X.w) X.A (pyIter v) (PIE X pins σ (.Name y yp) R) X.xe s2) X.xe s1 := fun {u es ep ws} hs hgd hx hod hl hr q => by
    have hT : s1.TypeIs (.ref d) "dict" := ⟨o, hgd, hx.1⟩
    refine ⟨hT, ?_⟩
    have raw : DT.Raw s1.heap d es ep := ⟨o, hgd, hx, hod⟩
    have fin : wpAny (model X.prog X.w) X.A (pyIter (.ref s1.heap.objs.size)) (PIE X pins σ (.Name y yp) R) X.xe { s1 with heap := s1.heap.push { cls := .type "dict_items", data := .fields #[.ref d] } } := by
      refine DT.iterI (d := d) (es := es) (ep := ep) ⟨_, Heap.get?_push_size _ rfl, rfl, rfl⟩ (raw.push _) (pi_one (tk := s1.toks) I2 _ (turn_itemsN _ hx hod hl hr) ⟨.none, false, .none, .none, ?_, .inl rfl⟩ q)
      show Heap.get? _ _ = _
      rw [← hl]
      exact Heap.get?_push_size _ rfl
    exact method_meetsIn F.slot_dict_items F.entry_dict_items rfl (PySem.evalArgs_none ⟨rfl, hT, F.args_dict_items_1 _, _, DT.meetsItems (es := es) (ep := ep) hs, raw, fin⟩)
  rcases q with ⟨kvs, hd, q⟩ | ⟨yy, es, ep, ws, hd, hx, hod, hl, hr, q⟩
  · obtain ⟨hs, hgd, hx, es, ep, vs, hdt, hsz, kv, hm⟩ := I1.frzK hd
    obtain ⟨o', es', g1, g2, g3, g4, g5, g6⟩ := id hm
    rw [hgd] at g1
    cases g1
    obtain ⟨rfl, _⟩ := dict_ep hdt g3
    obtain ⟨t1, t2⟩ := all hs hgd hx hdt (by rw [hsz, List.length_map]) (fun i k v e => by
      obtain ⟨en, z1, z2⟩ := pairs_ent kv g5 i k v e
      exact ⟨en, by rw [← Array.getElem?_toList]; exact z1, z2⟩) q
    exact ⟨t1, hm.dictOf.mapOf.noDict, t2⟩
  · have hs : (d == sysModules) = false := by
      rw [beq_eq_false_iff_ne]
      intro z
      rw [z, nosys hk I1] at hd
      cases hd
    have hgd : s1.heap.get? d = some o := (show ObjOk X.prog X.w H1 s1.heap d (.frz o (.own yy)) from I1.hok d _ hd).1
    obtain ⟨t1, t2⟩ := all hs hgd hx hod hl hr q
    refine ⟨t1, ?_, t2⟩
    intro b e
    cases e
    exact ⟨o, hgd, hx.2.1⟩
end
/-! ### list(d.items()) -/
def rItemsLF : V → Hp → VK → Prop := fun x H Q => ∃ (d : Addr) (ob : Obj) (kvs : List (Key × V)), x = .ref d ∧ H d = some (.frz ob (.dK kvs)) ∧
  ∀ (H' : Hp) (p : Addr) (ts : List Addr), (∀ b o, H b = some o → H' b = some o) → H p = none → (∀ t ∈ ts, H t = none) → p ∉ ts → H' p = some (.lst (ts.map V.ref)) → Paired (fun (t : Addr) (q : Key × V) => H' t = some (.tup [kV q.1, q.2])) ts kvs → Q (.ref p) H'
section
variable {X : Cx} {e : Expr} {te : TE} {p apos cpos pos : Pos}
theorem pe_litems (hc : X.calm = true) (he : PE X e te) (hg : Gl X "list") (hm : X.mg "list" = none) (hv : bootBuiltins "list" = some (.type "list")) (hbase : attributeBase e "items" X.env (eval e X.env) = eval e X.env := by rfl) (hline : (apos.endLine == cpos.line) = true := by rfl)
    (hs : starEach [.Call (.Attribute e "items" apos) [] [] cpos] X.env = (false, eval (.Call (.Attribute e "items" apos) [] [] cpos) X.env) :: starEach [] X.env := by rfl) :
    PE X (.Call (.Name "list" p) [.Call (.Attribute e "items" apos) [] [] cpos] [] pos) (fun σ H Q => te σ H fun x H1 => rItemsLF x H1 Q) := by
  refine ⟨fun pins s σ H Q I hq => ?_⟩
  refine PySem.wpAny_Call_Name_kw (ld_blt I hg hm hv ?_)
  refine PyProof.Rows.callWith_type1 ?_ hs rfl
  rw [hs]
  show wpAny _ _ (spliced ((false, eval (.Call (.Attribute e "items" apos) [] [] cpos) X.env) :: backTo pos (starEach [] X.env))) _ _ s
  refine Calls.spliced_cons ?_
  refine wpAny_Call_method (T := "dict") (id := "dict.items") hbase rfl hline F.plainAttrs_dict F.slot_dict_items F.type_dict_items (thn (he.run pins s σ H _ I hq) fun u s1 ⟨x, H1, I1, rx, d, ob, kvs, ex, hd, q⟩ => ?_)
  subst ex
  obtain rfl : u = Value.ref d := rx
  obtain ⟨_, hz, hs0, vs, kv, hdo⟩ := (show ObjOk X.prog X.w H1 s1.heap d (.frz ob (.dK kvs)) from I1.hok d _ hd)
  obtain ⟨ep, hat⟩ := hdo.dictAt
  have lk : kvs.length = vs.length := Paired.length kv
  have I2 : Inv X pins σ H1 { s1 with heap := s1.heap.push { cls := .type "dict_items", data := .fields #[.ref d] } } := I1.kept (t' := s1.toks) fun b ob q => Heap.get?_push_of_some _ q
  refine ⟨hdo.typeIs, hdo.mapOf.noDict, ?_⟩
  show wpAny _ _ (callWith cpos (.builtin "dict.items") [.ref d] [] []) _ X.xe s1
  refine method_meetsIn F.slot_dict_items F.entry_dict_items rfl (PySem.evalArgs_none ⟨rfl, hdo.typeIs, F.args_dict_items_1 _, _, meets_dict_items (mixKind X.prog X.w) d hs0, ⟨vs, hdo⟩, ?_⟩)
  refine Calls.spliced_nil ?_
  refine PySem.W.kdx_call (knd := mixKind X.prog X.w) (kvs := vs) (ep := ep) (I1.ok.hd hc) ⟨_, Heap.get?_push_size _ rfl, rfl, rfl⟩ (hat.push _) (by omega) fun h' tk acc c as hk hS hl hG hacc => ?_
  obtain ⟨H', k1, k2, k3, k4, k5, k6, J⟩ := LiI.items_laid (tk := tk) I2 hz kv hk hS hl hG hacc
  exact ⟨.ref _, H', J, rfl, q H' _ as k1 k2 k3 k4 k5 k6⟩
end
theorem items_reps {K : PySem.W.Frag} {J : Hp} : ∀ {kvs : List (PyData × PyData)} {ks : List (Key × V)} {ts : List Addr}, RepK K J kvs ks → Paired (fun (t : Addr) (q : Key × V) => J t = some (.tup [kV q.1, q.2])) ts ks → Reps K J (kvs.map fun p => .tuple [p.1, p.2]) (ts.map V.ref)
  | [], ks, ts, r, p => by
    cases r
    cases p
    exact rfl
  | (k, d) :: kvs, _, _, ⟨q, v, ks, rfl, hk, h1, h2⟩, p => by
    cases p with
    | cons h t => exact ⟨_, _, rfl, ⟨_, [kV q, v], rfl, SqT.of h, _, [v], rfl, keyD_rep hk, v, [], rfl, h1, rfl⟩, items_reps h2 t⟩
section
variable {c : Cfg} {Φ : Phi} {n : Nat} {xr : XR} {X : Cx} {W : WX} {l e1 : Expr} {a : Ex} {pos p1 p2 cp ap : Pos}
theorem litP_of {d : PyData} {Q : PyData → Prop} (h : litP d Q) : ∃ kvs, d = .dict kvs ∧ plainK kvs = true ∧ Q (.list (kvs.map fun p => .tuple [p.1, p.2])) := by
  cases d <;> first | exact (show False from h).elim | exact ⟨_, rfl, h.1, h.2⟩
theorem snd_litems (o : CxOk c Φ n xr X W) {x m : Str} (hx : (x == ("list" : Str)) = true) (bx : bltB c x = true) (hm : (m == ("items" : Str)) = true) (hl : (ap.endLine == cp.line) = true) (hy : isNm l = true) (ha : PE X l (rE Φ xr W X.K a)) :
    PE X (.Call (.Name x p1) [.Call (.Attribute l m ap) [] [] cp] [] pos) (rE Φ xr W X.K (.litems a)) := by
  obtain rfl := eq_of_beq hx
  obtain rfl := eq_of_beq hm
  obtain ⟨g1, m1, _, _⟩ := o.bltn bx
  refine peI (pe_fz (pe_litems o.calm ha g1 m1 PyProof.Rows.boot_list (isNm_base hy) hl)) fun σ H Q ⟨G, ρ, S, E, P, R, w, post, ex⟩ => ?_
  have w : wpE Φ E a ρ S fun v ρ1 S1 => isD v fun d => litP d fun r => P (.d r) ρ1 S1 := w
  refine ⟨G, ρ, S, E, _, R, w, fun v ρ1 S1 u H1 p R1 rv l1 => ?_, ex⟩
  obtain ⟨d, rfl, p2⟩ := isD_of p
  obtain ⟨kvs, rfl, hp, p3⟩ := litP_of p2
  obtain ⟨b, ks, rfl, ⟨ob, hb⟩, rr⟩ := Rep.plain rv hp
  refine ⟨b, ob, ks, rfl, hb, fun J q ts sm hq _ _ hJ pr => ?_⟩
  have lJ : Le H1 J := Le.of_same sm
  have rz := items_reps (RepK.le lJ _ rr) pr
  refine ⟨q, _, rfl, hJ, trivial, fun ob => ?_⟩
  have le : Le J (upd J q (.frz ob (.lst (ts.map V.ref)))) := Le.mut hJ trivial
  have same : Same H1 (upd J q (.frz ob (.lst (ts.map V.ref)))) := fun c u e => by
    have hc : c ≠ q := fun z => by rw [z, hq] at e; cases e
    rw [upd_ne hc]
    exact sm c u e
  exact post (.d (.list (kvs.map fun p => .tuple [p.1, p.2]))) _ _ (.ref q) _ p3 (R1.ext same) ⟨q, ts.map V.ref, rfl, ⟨ob, upd_same⟩, Reps.le le _ rz⟩ (l1.trans (Le.of_same same))
end
/-! ### sorted() of texts -/
theorem strs_repN {K : PySem.W.Frag} {H : Hp} : ∀ {xs : List PyData} {ns : List Str} {vs : List V}, strsOf xs = some ns → Reps K H xs vs → vs = ns.map V.str
  | [], _, _, h, r => by cases h; cases r; rfl
  | .str b :: xs, _, _, h, r => by
    obtain ⟨v, t, rfl, h1, h2⟩ := r
    obtain ⟨cs, hc, rfl⟩ := Option.map_eq_some_iff.mp (show (strsOf xs).map (b :: ·) = some _ from h)
    rw [strs_repN hc h2, show v = .str b from h1]
    rfl
  | .none :: _, _, _, h, _ => nomatch h
  | .bool _ :: _, _, _, h, _ => nomatch h
  | .int _ :: _, _, _, h, _ => nomatch h
  | .list _ :: _, _, _, h, _ => nomatch h
  | .tuple _ :: _, _, _, h, _ => nomatch h
  | .dict _ :: _, _, _, h, _ => nomatch h
theorem reps_strs {K : PySem.W.Frag} {H : Hp} : ∀ (ns : List Str), Reps K H (ns.map .str) (ns.map V.str)
  | [] => rfl
  | n :: ns => ⟨_, _, rfl, rfl, reps_strs ns⟩
theorem srtP_of {d : PyData} {Q : PyData → Prop} (h : srtP d Q) : ∃ xs zs, d = .list xs ∧ strsOf xs = some zs ∧ zs.length < 64 ∧ ∀ ys : List Str, ys.Perm zs → sortedS ys = true → Q (.list (ys.map .str)) := by
  cases d <;> try exact (show False from h).elim
  rename_i xs
  have h' : (match strsOf xs with
    | some zs => zs.length < 64 ∧ ∀ ys : List Str, ys.Perm zs → sortedS ys = true → Q (.list (ys.map .str))
    | none => False) := h
  split at h'
  · rename_i zs e
    exact ⟨xs, zs, rfl, e, h'.1, h'.2⟩
  · exact h'.elim
section
variable {c : Cfg} {Φ : Phi} {n : Nat} {xr : XR} {X : Cx} {W : WX} {l e1 : Expr} {a : Ex} {pos p1 p2 cp ap : Pos}
theorem snd_srtS (o : CxOk c Φ n xr X W) {x : Str} (hx : (x == ("sorted" : Str)) = true) (bx : bltB c x = true) (hl : nst l = true) (ha : PE X l (rE Φ xr W X.K a)) :
    PE X (.Call (.Name x p1) [l] [] pos) (rE Φ xr W X.K (.srtS a)) := by
  obtain rfl := eq_of_beq hx
  obtain ⟨g, hm, hd, hn⟩ := o.bltn bx
  have pa : PA X [l] (tCons (rE Φ xr W X.K a) tNil) := pa_cons ha pa_nil (star_cons hl)
  refine peI (pe_fz (pe_callB cr_sortedS g hm (boot_bf .sorted) pa hn hd (star_cons hl) rfl)) fun σ H Q ⟨G, ρ, S, E, P, R, w, post, ex⟩ => ?_
  have w : wpE Φ E a ρ S fun v ρ1 S1 => isD v fun d => srtP d fun r => P (.d r) ρ1 S1 := w
  refine ⟨G, ρ, S, E, _, R, w, fun v ρ1 S1 u H1 p R1 rv l1 => ?_, ex⟩
  obtain ⟨d, rfl, p2⟩ := isD_of p
  obtain ⟨xs, zs, rfl, ez, hz, p3⟩ := srtP_of p2
  obtain ⟨b, vs, rfl, ⟨ob, hb⟩, rr⟩ := rv
  obtain rfl := strs_repN ez rr
  refine ⟨b, zs, rfl, .inl (.inr ⟨ob, hb⟩), hz, fun ys q hp hs hq => ?_⟩
  exact fz_list (Q := Q) (reps_strs ys) (fun v H' sm rp => post (.d (.list (ys.map .str))) _ _ v _ (p3 ys hp hs) (R1.ext sm) rp (l1.trans (Le.of_same sm))) hq
end
/-! ### dict() of pairs whose keys are truth values -/
def PB (K : PySem.W.Frag) (H : Hp) (ps : List (Bool × PyData)) (qs : List (Bool × Value)) : Prop := Paired (fun p q => p.1 = q.1 ∧ ∃ v, RelV v q.2 ∧ Rep K H p.2 v) ps qs
theorem PB.any {K : PySem.W.Frag} {H : Hp} {b : Bool} : ∀ {m : List (Bool × PyData)} {mv : List (Bool × Value)}, PB K H m mv → (m.any fun p => decide (p.1 = b)) = (mv.any fun p => decide (p.1 = b))
  | _, _, .nil => rfl
  | _, _, .cons h t => by rw [List.any_cons, List.any_cons, h.1, PB.any t]
theorem PB.map {K : PySem.W.Frag} {H : Hp} {b : Bool} {d : PyData} {u : Value} {v : V} (rv : RelV v u) (rd : Rep K H d v) : ∀ {m : List (Bool × PyData)} {mv : List (Bool × Value)}, PB K H m mv → PB K H (m.map fun p => if p.1 = b then (p.1, d) else p) (mv.map fun p => if p.1 = b then (p.1, u) else p)
  | _, _, .nil => .nil
  | _, _, .cons (a := p) (b := q) h t => by
    refine .cons ?_ (PB.map rv rd t)
    dsimp only
    by_cases e : p.1 = b
    · rw [if_pos e, if_pos (h.1.symm.trans e)]
      exact ⟨h.1, v, rv, rd⟩
    · rw [if_neg e, if_neg (fun z => e (h.1.trans z))]
      exact h
theorem PB.app {K : PySem.W.Frag} {H : Hp} {b : Bool} {d : PyData} {u : Value} {v : V} (rv : RelV v u) (rd : Rep K H d v) : ∀ {m : List (Bool × PyData)} {mv : List (Bool × Value)}, PB K H m mv → PB K H (m ++ [(b, d)]) (mv ++ [(b, u)])
  | _, _, .nil => .cons ⟨rfl, v, rv, rd⟩ .nil
  | _, _, .cons h t => .cons h (PB.app rv rd t)
theorem PB.put {K : PySem.W.Frag} {H : Hp} {b : Bool} {d : PyData} {u : Value} {v : V} {m : List (Bool × PyData)} {mv : List (Bool × Value)} (rv : RelV v u) (rd : Rep K H d v) (h : PB K H m mv) : PB K H (putB m b d) (stored mv b u) := by
  unfold putB stored
  rw [PB.any h]
  by_cases e : (mv.any fun p => decide (p.1 = b)) = true
  · rw [if_pos e, if_pos e]
    exact PB.map rv rd h
  · rw [if_neg e, if_neg e]
    exact PB.app rv rd h
theorem PB.merge {K : PySem.W.Frag} {H : Hp} : ∀ {ps : List (Bool × PyData)} {qs : List (Bool × Value)} {m : List (Bool × PyData)} {mv : List (Bool × Value)}, PB K H ps qs → PB K H m mv → PB K H (ps.foldl (fun m p => putB m p.1 p.2) m) (merged mv qs)
  | _, _, _, _, .nil, h => h
  | _, _, m, mv, .cons (a := p) (b := q) h t, hm => by
    obtain ⟨e, v, rv, rd⟩ := h
    have := PB.merge t (PB.put (b := p.1) rv rd hm)
    rw [List.foldl_cons]
    rw [e] at this ⊢
    exact this
theorem PB.ents {K : PySem.W.Frag} {H : Hp} {prog : Program} {w : World} : ∀ {m : List (Bool × PyData)} {mv : List (Bool × Value)} {es : List DictEntry}, PB K H m mv → Pairs (PpSet.boolK prog w) es mv → RepE K H (m.map fun p => (.bool p.1, p.2)) es
  | _, _, _, .nil, p => by
    cases p
    rfl
  | _, _, _, .cons (a := x) (b := q) h t, p => by
    cases p with
    | @cons e _ es _ p1 pe p2 =>
      obtain ⟨e1, v, rv, rd⟩ := h
      refine ⟨e, es, .bl x.1, v, rfl, ?_, by rw [pe]; exact rv, rfl, rd, PB.ents t p2⟩
      rw [PpSet.isB_shape (show PpSet.isB q.1 e.key = true from p1), e1]
      exact rfl
theorem putB_ne {m : List (Bool × PyData)} {b : Bool} {d : PyData} : putB m b d ≠ [] := by
  unfold putB
  split
  · rename_i h
    intro e
    rw [List.map_eq_nil_iff] at e
    subst e
    cases h
  · simp
theorem foldB_ne : ∀ {ps m : List (Bool × PyData)}, m ≠ [] → ps.foldl (fun m p => putB m p.1 p.2) m ≠ []
  | [], m, h => h
  | p :: ps, m, h => by
    rw [List.foldl_cons]
    exact foldB_ne (ps := ps) putB_ne
theorem mergeB_err {ps : List (Bool × PyData)} : errOf (mergeB ps) = none := by
  unfold mergeB
  cases (ps.foldl (fun m p => putB m p.1 p.2) []) <;> rfl
theorem mergeB_odd {ps : List (Bool × PyData)} (h : ps ≠ []) : plainK (mergeB ps) = false := by
  have ne : ps.foldl (fun m p => putB m p.1 p.2) [] ≠ [] := by
    cases ps with
    | nil => exact absurd rfl h
    | cons p ps =>
      rw [List.foldl_cons]
      exact foldB_ne putB_ne
  unfold mergeB
  cases e : ps.foldl (fun m p => putB m p.1 p.2) [] with
  | nil => exact absurd e ne
  | cons q qs => rfl
theorem pairsB_rep {X : Cx} {pins : List (Addr × Obj)} {σ : L2.St} {H : Hp} {s : Shared} (I : Inv X pins σ H s) : ∀ {ds : List PyData} {ps : List (Bool × PyData)} {vs : List V}, pairsB ds = some ps → Reps X.K H ds vs → ∃ (as : List Addr) (prs : List (Bool × Value)), vs = as.map V.ref ∧ as.length = prs.length ∧ PB X.K H ps prs ∧
    ∀ (j : Nat) (q : Bool × Value), prs[j]? = some q → ∃ T, as[j]? = some T ∧ s.heap.IsTuple T #[.bool q.1, q.2]
  | [], _, _, h, r => by
    cases h
    cases r
    exact ⟨[], [], rfl, rfl, .nil, fun j q e => by simp at e⟩
  | x :: ds, ps, _, h, ⟨v, t, rfl, r1, r2⟩ => by
    unfold pairsB at h
    split at h
    · cases ‹_ :: _ = []›
    · rename_i b d r heq
      cases heq
      obtain ⟨ps', hp, rfl⟩ := Option.map_eq_some_iff.mp h
      obtain ⟨as, prs, rfl, l1, pb, at_⟩ := pairsB_rep I hp r2
      obtain ⟨T, ws, rfl, sq, u1, t1, rfl, q1, w1, t2, rfl, q2, q3⟩ := r1
      rw [show t2 = [] from q3, show u1 = .bl b from q1] at sq
      obtain ⟨its, rv, pl, _⟩ := I.tuple sq
      obtain ⟨y1, y2, rfl, z1, z2⟩ := vals2 rv
      have e1 : y1 = .bool b := z1
      subst e1
      refine ⟨T :: as, (b, y2) :: prs, rfl, by simp [l1], .cons ⟨rfl, w1, z2, q2⟩ pb, fun j q e => ?_⟩
      cases j with
      | zero =>
        simp at e
        subst e
        exact ⟨T, rfl, pl⟩
      | succ j => simpa using at_ j q (by simpa using e)
    · cases h
theorem call_dictB {X : Cx} (hc : X.calm = true) : CallR X (.type "dict") (fun xs H Q => ∃ a ds ps, xs = [.ref a] ∧ Rep X.K H (.list ds) (.ref a) ∧ pairsB ds = some ps ∧ ps ≠ [] ∧
    ∀ p ob, Rep X.K (upd H p (.frz ob (.own p))) (.dict (mergeB ps)) (.ref p) → H p = none → Q (.ref p) (upd H p (.frz ob (.own p)))) := by
  intro pins s σ H xs us Q I r ⟨a, ds, ps, ex, hr, hp, ne, q⟩
  subst ex
  obtain ⟨u, eu, rx⟩ := vals1 r
  subst eu
  cases rx
  obtain ⟨a', vs, ea, ⟨ob, hb⟩, rr⟩ := hr
  cases ea
  obtain ⟨as, prs, rfl, l1, pb, at_⟩ := pairsB_rep I hp rr
  obtain ⟨its, rv, pl, hz⟩ := I.list (show SqL X.K H a (as.map V.ref) from .inl (.inr ⟨ob, hb⟩))
  have ei := refs_at rv
  subst ei
  rw [List.length_map] at hz
  obtain ⟨o, k, ho, hcl, hd, hdat⟩ := pl
  have PI0 : PairItems s.heap (as.map Value.ref).toArray (fun j => (as[j]?).getD 0) (prs.map fun q => (.bool q.1, q.2)) := by
    refine ⟨by simp [l1], fun j k v e => ?_⟩
    rw [List.getElem?_map] at e
    obtain ⟨q, eq, e2⟩ := Option.map_eq_some_iff.mp e
    cases e2
    obtain ⟨T, eT, hT⟩ := at_ j q eq
    refine ⟨by simp [eT], ?_⟩
    show PairAt s.heap ((as[j]?).getD 0) (.bool q.1) q.2
    rw [eT]
    exact .inl hT
  refine PySem.call_dict_pairs (knd := PpSet.boolK X.prog X.w) (kvs := prs) (PairArg.list a (as.map Value.ref).toArray (fun j => (as[j]?).getD 0) (prs.map fun q => (.bool q.1, q.2))) (I.ok.hd hc) ⟨⟨o, k, ho, hcl, hd, hdat⟩, PI0⟩ ⟨by simp, fun j key v e => ?_⟩ (by rw [List.length_map, ← l1]; exact hz) fun h' tk hd' hk => ?_
  · have e : (prs.map fun q => (Value.bool q.1, q.2))[j]? = some (key, v) := e
    rw [List.getElem?_map] at e
    obtain ⟨q, eq, e2⟩ := Option.map_eq_some_iff.mp e
    cases e2
    exact ⟨q.1, eq, PpSet.boolK_is _ _ _⟩
  · obtain ⟨od, es, ep, g1, g2, g3, g4, g5, g6⟩ := hd'
    have hn : H s.heap.objs.size = none := I.hok.fresh (Nat.le_refl _)
    have I1 : Inv X pins σ (upd H s.heap.objs.size (.frz od (.own s.heap.objs.size))) { s with heap := h', toks := tk } :=
      I.laid (a := s.heap.objs.size) (o := .frz od (.own s.heap.objs.size)) (h' := h') (t' := tk) (fun b ob e => hk b ob (by simp) e) (Nat.le_refl _) ⟨g1, od, g1⟩
    have le : Le H (upd H s.heap.objs.size (.frz od (.own s.heap.objs.size))) := Le.new hn
    refine ⟨.ref s.heap.objs.size, _, I1, rfl, q _ od (.inr (.inl ⟨s.heap.objs.size, od, s.heap.objs.size, es, ep, rfl, ⟨mergeB_odd ne, mergeB_err⟩, upd_same, g2, g3, ?_, ?_⟩)) hn⟩
    · have z := g5.length
      have z2 := merged_length_le ([] : List (Bool × Value)) prs
      rw [Array.length_toList] at z
      rw [List.length_nil] at z2
      omega
    · exact RepE.le le _ (PB.ents (PB.merge pb .nil) g5)
theorem dctP_of {d : PyData} {Q : PyData → Prop} (h : dctP d Q) : ∃ ds ps, d = .list ds ∧ pairsB ds = some ps ∧ Q (.dict (mergeB ps)) := by
  cases d <;> try exact (show False from h).elim
  rename_i xs
  have h' : (match pairsB xs with
    | some ps => Q (.dict (mergeB ps))
    | none => False) := h
  split at h'
  · rename_i ps e
    exact ⟨xs, ps, rfl, e, h'⟩
  · exact h'.elim
theorem pairsB_nil : ∀ {ds : List PyData}, pairsB ds = some [] → ds = []
  | [], _ => rfl
  | d :: ds, h => by
    unfold pairsB at h
    split at h
    · cases ‹_ :: _ = []›
    · obtain ⟨_, _, z⟩ := Option.map_eq_some_iff.mp h
      cases z
    · cases h
section
variable {c : Cfg} {Φ : Phi} {n : Nat} {xr : XR} {X : Cx} {W : WX} {l e1 : Expr} {a : Ex} {pos p1 p2 cp ap : Pos}
theorem snd_dctB (o : CxOk c Φ n xr X W) {x : Str} (hx : (x == ("dict" : Str)) = true) (bx : bltB c x = true) (hl : nst l = true) (ha : PE X l (rE Φ xr W X.K a)) :
    PE X (.Call (.Name x p1) [l] [] pos) (rE Φ xr W X.K (.dctB a)) := by
  obtain rfl := eq_of_beq hx
  obtain ⟨g, hm, hd, hn⟩ := o.bltn bx
  have pa : PA X [l] (tCons (rE Φ xr W X.K a) tNil) := pa_cons ha pa_nil (star_cons hl)
  have cr : CallR X (.type "dict") (fun xs H Q => ∃ v d, xs = [v] ∧ Rep X.K H d v ∧ dctP d (Giv X.K H Q)) := by
    intro pins s σ H xs us Q I r ⟨v, d, ex, rd, h⟩
    subst ex
    obtain ⟨ds, ps, rfl, hp, q⟩ := dctP_of h
    by_cases ne : ps = []
    · subst ne
      obtain rfl := pairsB_nil hp
      exact opFnc o.sys o.gd (by have := o.room.units; omega) o.calm .dict pins s σ H _ us Q I r ⟨v, _, rfl, Rep.cur rd, q⟩
    · obtain ⟨b, vs, rfl, hb, rr⟩ := id rd
      exact call_dictB o.calm pins s σ H _ us Q I r ⟨b, ds, ps, rfl, rd, hp, ne, fun p ob rp hp => q _ _ (Same.upd hp) rp⟩
  refine peI (pe_callTy cr g hm (boot_bf .dict) pa hn hd (star_cons hl) rfl) fun σ H Q ⟨G, ρ, S, E, P, R, w, post, ex⟩ => ?_
  have w : wpE Φ E a ρ S fun v ρ1 S1 => isD v fun d => dctP d fun r => P (.d r) ρ1 S1 := w
  refine ⟨G, ρ, S, E, _, R, w, fun v ρ1 S1 u H1 p R1 rv l1 => ?_, ex⟩
  obtain ⟨d, rfl, p2⟩ := isD_of p
  refine ⟨u, d, rfl, rv, ?_⟩
  obtain ⟨ds, ps, rfl, hp, q⟩ := dctP_of p2
  show (match pairsB ds with
    | some ps => Giv X.K H1 Q (.dict (mergeB ps))
    | none => False)
  rw [hp]
  exact fun v H' sm rp => post (.d (.dict (mergeB ps))) _ _ v _ q (R1.ext sm) rp (l1.trans (Le.of_same sm))
end
end Lk
/-! D8: sources, targets, comprehensions. -/
namespace Lk
open PySem PySem.Spec PyProof.Rows L2
/-- what an iterator gives, while gH stands -/
structure Src (K : PySem.W.Frag) (J : It) (xs : List PyData) (gH : Hp → Prop) : Prop where
  goes : ∀ i H, i < xs.length → gH H → J.go i H
  stops : ∀ H, gH H → J.stop xs.length H
  yields : ∀ i H x H' d, xs[i]? = some d → gH H → J.yld i H x H' → Same H H' ∧ Rep K H' d x
def gdH (K : PySem.W.Frag) (H : Hp) : Gd → Prop
  | none => True
  | some (a, xs) => RepO K H a (.lst xs)
section
variable {K : PySem.W.Frag} {a b : Addr} {xs ys : List PyData} {gH : Hp → Prop}
theorem src_list (h : ∀ H, gH H → ∃ vs, SqL K H a vs ∧ Reps K H xs vs) : Src K (Itl K a) xs gH where
  goes := fun i H hi g => by
    obtain ⟨vs, q, r⟩ := h H g
    have l := r.length
    exact ⟨vs, vs[i]'(by omega), q, List.getElem?_eq_getElem (by omega)⟩
  stops := fun H g => by
    obtain ⟨vs, q, r⟩ := h H g
    exact ⟨vs, q, Nat.le_of_eq r.length⟩
  yields := fun i H x H' d e g y => by
    obtain ⟨vs, q, r⟩ := h H g
    obtain ⟨rfl, y⟩ := y
    obtain ⟨v, e1, rv⟩ := r.get e
    rw [y vs q] at e1
    cases e1
    exact ⟨Same.refl _, rv⟩
theorem src_tup (h : ∀ H, gH H → ∃ vs, SqT K H a vs ∧ Reps K H xs vs) : Src K (Itt K a) xs gH where
  goes := fun i H hi g => by
    obtain ⟨vs, q, r⟩ := h H g
    have l := r.length
    exact ⟨vs, vs[i]'(by omega), q, List.getElem?_eq_getElem (by omega)⟩
  stops := fun H g => by
    obtain ⟨vs, q, r⟩ := h H g
    exact ⟨vs, q, Nat.le_of_eq r.length⟩
  yields := fun i H x H' d e g y => by
    obtain ⟨vs, q, r⟩ := h H g
    obtain ⟨rfl, y⟩ := y
    obtain ⟨v, e1, rv⟩ := r.get e
    rw [y vs q] at e1
    cases e1
    exact ⟨Same.refl _, rv⟩
theorem src_str {z : Str} : Src K (Its z) (signsOf z) gH where
  goes := fun i H hi g => by simpa [signsOf, Its] using hi
  stops := fun H g => by simp [signsOf, Its]
  yields := fun i H x H' d e g y => by
    obtain ⟨rfl, ch, hc, rfl⟩ := y
    unfold signsOf at e
    rw [List.getElem?_map, Array.getElem?_toList, hc] at e
    cases e
    exact ⟨Same.refl _, rfl⟩
theorem src_rng {lo hi : Int} {k : Nat} (hk : k = (hi - lo).toNat) : Src K (Itr lo k) (rangeL lo hi) gH where
  goes := fun i H h g => by
    rw [show (rangeL lo hi).length = k by simp [rangeL, hk]] at h
    exact h
  stops := fun H g => by
    rw [show (rangeL lo hi).length = k by simp [rangeL, hk]]
    exact Nat.le_refl _
  yields := fun i H x H' d e g y => by
    obtain ⟨rfl, rfl⟩ := y
    have hi : i < k := by
      have := (List.getElem?_eq_some_iff.mp e).1
      rwa [show (rangeL lo hi).length = k by simp [rangeL, hk]] at this
    unfold rangeL at e
    rw [List.getElem?_map, List.getElem?_range (by omega)] at e
    cases e
    exact ⟨Same.refl _, rfl⟩
theorem src_rngD {hi lo : Int} {k : Nat} (hk : k = (hi - lo).toNat) : Src K (Itc hi (-1) k) (rangeD hi lo) gH where
  goes := fun i H h g => by
    rw [show (rangeD hi lo).length = k by simp [rangeD, hk]] at h
    exact h
  stops := fun H g => by
    rw [show (rangeD hi lo).length = k by simp [rangeD, hk]]
    exact Nat.le_refl _
  yields := fun i H x H' d e g y => by
    obtain ⟨rfl, rfl⟩ := y
    have hi' : i < k := by
      have := (List.getElem?_eq_some_iff.mp e).1
      rwa [show (rangeD hi lo).length = k by simp [rangeD, hk]] at this
    unfold rangeD at e
    rw [List.getElem?_map, List.getElem?_range (by omega)] at e
    cases e
    refine ⟨Same.refl _, ?_⟩
    show V.int _ = V.int _
    congr 1
    omega
theorem enumL_get {i : Nat} {d : PyData} (e : (enumL xs)[i]? = some d) : ∃ x, xs[i]? = some x ∧ d = .tuple [.int (i : Nat), x] := by
  unfold enumL at e
  rw [List.getElem?_map, List.getElem?_zipIdx] at e
  cases q : xs[i]? with
  | none => rw [q] at e; cases e
  | some x =>
    rw [q] at e
    cases e
    exact ⟨x, rfl, by simp⟩
theorem enumL_len : (enumL xs).length = xs.length := by simp [enumL]
theorem new_pair {H : Hp} {T : Addr} {x y : V} {d e : PyData} (h : H T = none) (hx : Rep K H d x) (hy : Rep K H e y) : Same H (upd H T (.tup [x, y])) ∧ Rep K (upd H T (.tup [x, y])) (.tuple [d, e]) (.ref T) :=
  ⟨Same.upd h, T, [x, y], rfl, SqT.of upd_same, x, [y], rfl, Rep.le (Le.new h) _ hx, y, [], rfl, Rep.le (Le.new h) _ hy, rfl⟩
theorem src_enum (h : ∀ H, gH H → ∃ vs, SqL K H a vs ∧ Reps K H xs vs) : Src K (Ite K a) (enumL xs) gH where
  goes := fun i H hi g => by
    obtain ⟨vs, q, r⟩ := h H g
    have l := r.length
    rw [enumL_len] at hi
    exact ⟨vs, vs[i]'(by omega), q, List.getElem?_eq_getElem (by omega)⟩
  stops := fun H g => by
    obtain ⟨vs, q, r⟩ := h H g
    exact ⟨vs, q, by rw [enumL_len, r.length]; exact Nat.le_refl _⟩
  yields := fun i H x H' d e g y => by
    obtain ⟨vs, q, r⟩ := h H g
    obtain ⟨T, u, rfl, hT, rfl, y⟩ := y
    obtain ⟨x, ex, rfl⟩ := enumL_get e
    obtain ⟨v, e1, rv⟩ := r.get ex
    rw [y vs q] at e1
    cases e1
    exact new_pair hT rfl rv
theorem src_enumT (h : ∀ H, gH H → ∃ vs, SqT K H a vs ∧ Reps K H xs vs) : Src K (ItEt K a) (enumL xs) gH where
  goes := fun i H hi g => by
    obtain ⟨vs, q, r⟩ := h H g
    have l := r.length
    rw [enumL_len] at hi
    exact ⟨vs, vs[i]'(by omega), q, List.getElem?_eq_getElem (by omega)⟩
  stops := fun H g => by
    obtain ⟨vs, q, r⟩ := h H g
    exact ⟨vs, q, by rw [enumL_len, r.length]; exact Nat.le_refl _⟩
  yields := fun i H x H' d e g y => by
    obtain ⟨vs, q, r⟩ := h H g
    obtain ⟨T, u, rfl, hT, rfl, y⟩ := y
    obtain ⟨x, ex, rfl⟩ := enumL_get e
    obtain ⟨v, e1, rv⟩ := r.get ex
    rw [y vs q] at e1
    cases e1
    exact new_pair hT rfl rv
theorem RepK.get : ∀ {kvs : List (PyData × PyData)} {H : Hp} {ks : List (Key × V)} {i : Nat} {p : PyData × PyData}, RepK K H kvs ks → kvs[i]? = some p → ∃ q v, ks[i]? = some (q, v) ∧ keyD p.1 = some q ∧ Rep K H p.2 v
  | [], _, _, _, _, h, e => by simp at e
  | p :: r, _, _, 0, _, ⟨q, v, s, rfl, h1, h2, t⟩, e => by simp at e; subst e; exact ⟨q, v, rfl, h1, h2⟩
  | p :: r, _, _, i + 1, x, ⟨q, v, s, rfl, h1, h2, t⟩, e => by
    obtain ⟨q', v', e1, e2, e3⟩ := RepK.get (i := i) (p := x) t (by simpa using e)
    exact ⟨q', v', by simpa using e1, e2, e3⟩
section
variable {o : Obj} {ks : List (Key × V)} {kvs : List (PyData × PyData)}
theorem src_keys (h : ∀ H, gH H → H a = some (.frz o (.dK ks)) ∧ RepK K H kvs ks) : Src K (Itk a o ks) (kvs.map (·.1)) gH where
  goes := fun i H hi g => by
    obtain ⟨q, r⟩ := h H g
    rw [List.length_map] at hi
    exact ⟨q, by rw [RepK.length r]; exact hi⟩
  stops := fun H g => by
    obtain ⟨q, r⟩ := h H g
    exact ⟨q, by rw [List.length_map, RepK.length r]; exact Nat.le_refl _⟩
  yields := fun i H x H' d e g y => by
    obtain ⟨q, r⟩ := h H g
    obtain ⟨rfl, k, v, e1, rfl⟩ := y
    rw [List.getElem?_map] at e
    obtain ⟨p, ep, rfl⟩ := Option.map_eq_some_iff.mp e
    obtain ⟨q', v', e2, e3, _⟩ := RepK.get r ep
    rw [e1] at e2
    cases e2
    exact ⟨Same.refl _, keyD_rep e3⟩
theorem src_vals (h : ∀ H, gH H → H a = some (.frz o (.dK ks)) ∧ RepK K H kvs ks) : Src K (Itd a o ks) (kvs.map (·.2)) gH where
  goes := fun i H hi g => by
    obtain ⟨q, r⟩ := h H g
    rw [List.length_map] at hi
    exact ⟨q, by rw [RepK.length r]; exact hi⟩
  stops := fun H g => by
    obtain ⟨q, r⟩ := h H g
    exact ⟨q, by rw [List.length_map, RepK.length r]; exact Nat.le_refl _⟩
  yields := fun i H x H' d e g y => by
    obtain ⟨q, r⟩ := h H g
    obtain ⟨rfl, k, e1⟩ := y
    rw [List.getElem?_map] at e
    obtain ⟨p, ep, rfl⟩ := Option.map_eq_some_iff.mp e
    obtain ⟨q', v', e2, _, e3⟩ := RepK.get r ep
    rw [e1] at e2
    cases e2
    exact ⟨Same.refl _, e3⟩
theorem src_its (h : ∀ H, gH H → H a = some (.frz o (.dK ks)) ∧ RepK K H kvs ks) : Src K (Iti a o ks) (kvs.map fun p => .tuple [p.1, p.2]) gH where
  goes := fun i H hi g => by
    obtain ⟨q, r⟩ := h H g
    rw [List.length_map] at hi
    exact ⟨q, by rw [RepK.length r]; exact hi⟩
  stops := fun H g => by
    obtain ⟨q, r⟩ := h H g
    exact ⟨q, by rw [List.length_map, RepK.length r]; exact Nat.le_refl _⟩
  yields := fun i H x H' d e g y => by
    obtain ⟨q, r⟩ := h H g
    obtain ⟨T, k, v, e1, rfl, hT, rfl⟩ := y
    rw [List.getElem?_map] at e
    obtain ⟨p, ep, rfl⟩ := Option.map_eq_some_iff.mp e
    obtain ⟨q', v', e2, e3, e4⟩ := RepK.get r ep
    rw [e1] at e2
    cases e2
    exact new_pair hT (keyD_rep e3) e4
end
/-- the keys of a locked dict of any keys -/
def Itr' (d : Addr) (o : Obj) (x : Addr) (ws : List V) : It :=
  ⟨fun i H => H d = some (.frz o (.own x)) ∧ i < ws.length, fun i H v H' => H' = H ∧ ws[i]? = some v, fun i H => H d = some (.frz o (.own x)) ∧ ws.length ≤ i⟩
theorem turn_keysR {P : Program} {w : World} {tg : Expr} {d : Addr} {o : Obj} {x : Addr} {es : Array DictEntry} {ep : Nat} {ws : List V} (it : Addr) (hod : o.data = .dict es ep) (hl : es.size = ws.length) (hr : ∀ (i : Nat) (v : V), ws[i]? = some v → ∃ en, es[i]? = some en ∧ RelV v en.key) :
    Turn P w K tg (Itr' d o x ws) [it] it (fun i h => h.IsKeyIter it d i ws.length ep) where
  mem := by simp
  obj := fun i h st b hb => by
    have e : b = it := by simpa using hb
    subst e
    obtain ⟨oi, e, c, dd⟩ := st
    exact ⟨oi, e, fun v z => by rw [dd] at z; cases z⟩
  keep := fun i h h' st k => st.at fun oi e => k it (by simp) oi e
  item := by
    intro X hP hw hK hc i pins s σ H E I hf st hg
    subst hP hw hK
    obtain ⟨hd, hi⟩ := hg
    obtain ⟨f0, f1, f2, f3, f4, f5⟩ := hf it (by simp)
    obtain ⟨hgd, _⟩ := (show ObjOk X.prog X.w H s.heap d (.frz o (.own x)) from I.hok d _ hd)
    obtain ⟨v, hv⟩ : ∃ v, ws[i]? = some v := ⟨ws[i], List.getElem?_eq_getElem hi⟩
    obtain ⟨en, hen, hrv⟩ := hr i v hv
    refine next_key_item st hgd hod hl hen fun h' st' sb => ?_
    have I1 : Inv X pins σ H { s with heap := h' } := I.turned (t' := s.toks) (fun b ob hb e => (sb.2 b hb).trans e) f0 f1 f3 f4 f5
    obtain ⟨oi, e, c, dd⟩ := id st'
    exact ⟨en.key, rfl, go_of (s := { s with heap := h' }) e c dd (by decide) ⟨v, H, I1, hrv, ⟨rfl, hv⟩, st', fun b hb => (hf b hb).1⟩⟩
  done := by
    intro X hP hw hK hc i pins s σ H E I hf st hg
    subst hP hw hK
    obtain ⟨hd, hi⟩ := hg
    obtain ⟨f0, f1, f2, f3, f4, f5⟩ := hf it (by simp)
    obtain ⟨hgd, _⟩ := (show ObjOk X.prog X.w H s.heap d (.frz o (.own x)) from I.hok d _ hd)
    exact next_key_end (I.ok.hd hc) st hgd hod hl hi fun h' eb => ⟨rfl, I.turned (t' := s.toks) (fun b ob hb e => eb b ob hb e) f0 f1 f3 f4 f5⟩
  self := fun A i s Q E st h => by
    refine wpAny_pyIter_slot st.typeIs F.slot_dict_keyiterator_iter (wpAny_call_entry F.slot_dict_keyiterator_iter st.typeIs F.entry_dict_keyiterator_iter ?_ (F.args_dict_keyiterator_iter_1 _))
    show wpAny _ _ (ret (.ref it)) _ _ s
    exact wpAny_pure ⟨_, rfl, "dict_keyiterator", _, st.typeIs, F.slot_dict_keyiterator_next.lookup, h⟩
theorem RepE.keys {H : Hp} : ∀ {kvs : List (PyData × PyData)} {es : List DictEntry}, RepE K H kvs es → ∃ ws : List V, Reps K H (kvs.map (·.1)) ws ∧ ws.length = es.length ∧ ∀ (i : Nat) (v : V), ws[i]? = some v → ∃ en, es[i]? = some en ∧ RelV v en.key
  | [], _, h => by
    cases h
    exact ⟨[], rfl, rfl, fun i v e => by simp at e⟩
  | p :: kvs, _, h => by
    obtain ⟨e, t, u, v, rfl, r1, r2, h1, h2, ht⟩ := h
    obtain ⟨ws, q1, q2, q3⟩ := RepE.keys ht
    refine ⟨u :: ws, ⟨u, ws, rfl, h1, q1⟩, by simp [q2], fun i z ez => ?_⟩
    cases i with
    | zero => simp at ez; subst ez; exact ⟨e, rfl, r1⟩
    | succ i => simpa using q3 i z (by simpa using ez)
theorem src_keysR {o : Obj} {x : Addr} {ws : List V} {ds : List PyData} (h : ∀ H, gH H → H a = some (.frz o (.own x)) ∧ Reps K H ds ws) : Src K (Itr' a o x ws) ds gH where
  goes := fun i H hi g => by
    obtain ⟨q, r⟩ := h H g
    exact ⟨q, by rw [r.length]; exact hi⟩
  stops := fun H g => by
    obtain ⟨q, r⟩ := h H g
    exact ⟨q, by rw [r.length]; exact Nat.le_refl _⟩
  yields := fun i H v H' d e g y => by
    obtain ⟨q, r⟩ := h H g
    obtain ⟨rfl, e1⟩ := y
    obtain ⟨v', e2, e3⟩ := r.get e
    rw [e1] at e2
    cases e2
    exact ⟨Same.refl _, e3⟩
theorem zipL_get {i : Nat} {d : PyData} (e : (zipL xs ys)[i]? = some d) : ∃ x y, xs[i]? = some x ∧ ys[i]? = some y ∧ d = .tuple [x, y] := by
  unfold zipL at e
  rw [List.getElem?_map] at e
  cases q : (xs.zip ys)[i]? with
  | none => rw [q] at e; cases e
  | some p =>
    rw [q] at e
    cases e
    obtain ⟨h1, h2⟩ := List.getElem?_zip_eq_some.mp q
    exact ⟨p.1, p.2, h1, h2, rfl⟩
theorem zipL_len (hl : xs.length = ys.length) : (zipL xs ys).length = xs.length := by simp [zipL, hl]
theorem src_zip (hl : xs.length = ys.length) (h : ∀ H, gH H → ∃ vs us, SqL K H a vs ∧ Reps K H xs vs ∧ SqL K H b us ∧ Reps K H ys us) : Src K (Itz K a b) (zipL xs ys) gH where
  goes := fun i H hi g => by
    obtain ⟨vs, us, q, r, q2, r2⟩ := h H g
    have l := r.length
    have l2 := r2.length
    rw [zipL_len hl] at hi
    exact ⟨vs, us, vs[i]'(by omega), us[i]'(by omega), q, q2, List.getElem?_eq_getElem (by omega), List.getElem?_eq_getElem (by omega)⟩
  stops := fun H g => by
    obtain ⟨vs, us, q, r, q2, r2⟩ := h H g
    exact ⟨vs, us, q, q2, .inl (by rw [zipL_len hl, r.length]; exact Nat.le_refl _)⟩
  yields := fun i H x H' d e g y => by
    obtain ⟨vs, us, q, r, q2, r2⟩ := h H g
    obtain ⟨T, u, u2, rfl, hT, rfl, y, y2⟩ := y
    obtain ⟨x1, x2, ex, ex2, rfl⟩ := zipL_get e
    obtain ⟨v, e1, rv⟩ := r.get ex
    obtain ⟨v2, e2, rv2⟩ := r2.get ex2
    rw [y vs q] at e1
    rw [y2 us q2] at e2
    cases e1
    cases e2
    exact new_pair hT rv rv2
theorem src_zipT (hl : xs.length = ys.length) (h : ∀ H, gH H → ∃ vs us, SqT K H a vs ∧ Reps K H xs vs ∧ SqT K H b us ∧ Reps K H ys us) : Src K (RZ.ItzT K a b) (zipL xs ys) gH where
  goes := fun i H hi g => by
    obtain ⟨vs, us, q, r, q2, r2⟩ := h H g
    have l := r.length
    have l2 := r2.length
    rw [zipL_len hl] at hi
    exact ⟨vs, us, vs[i]'(by omega), us[i]'(by omega), q, q2, List.getElem?_eq_getElem (by omega), List.getElem?_eq_getElem (by omega)⟩
  stops := fun H g => by
    obtain ⟨vs, us, q, r, q2, r2⟩ := h H g
    exact ⟨vs, us, q, q2, .inl (by rw [zipL_len hl, r.length]; exact Nat.le_refl _)⟩
  yields := fun i H x H' d e g y => by
    obtain ⟨vs, us, q, r, q2, r2⟩ := h H g
    obtain ⟨T, u, u2, rfl, hT, rfl, y, y2⟩ := y
    obtain ⟨x1, x2, ex, ex2, rfl⟩ := zipL_get e
    obtain ⟨v, e1, rv⟩ := r.get ex
    obtain ⟨v2, e2, rv2⟩ := r2.get ex2
    rw [y vs q] at e1
    rw [y2 us q2] at e2
    cases e1
    cases e2
    exact new_pair hT rv rv2
theorem reps_tups {K : PySem.W.Frag} {H : Hp} : ∀ {rows : List (List PyData)} {vs : List V}, Reps K H (rows.map .tuple) vs → ∃ las vr, vs = las.map V.ref ∧ las.length = rows.length ∧ TupsAt K H las vr ∧ vr.length = rows.length ∧ ∀ (j : Nat) (r : List PyData) (ws : List V), rows[j]? = some r → vr[j]? = some ws → Reps K H r ws
  | [], vs, h => by
    cases h
    exact ⟨[], [], rfl, rfl, ⟨rfl, fun j l r e => nomatch e⟩, rfl, fun j r ws e => nomatch e⟩
  | r :: rows, vs, h => by
    obtain ⟨v, vs', rfl, ⟨a, ws, rfl, ha, ra⟩, t⟩ := h
    obtain ⟨las, vr, rfl, l1, ⟨l2, at_⟩, l3, rp⟩ := reps_tups t
    refine ⟨a :: las, ws :: vr, rfl, by simp [l1], ⟨by simp [l2], fun j l r e1 e2 => ?_⟩, by simp [l3], fun j r ws e1 e2 => ?_⟩
    · cases j with
      | zero =>
        cases e1
        cases e2
        exact ha
      | succ j => exact at_ j l r e1 e2
    · cases j with
      | zero =>
        cases e1
        cases e2
        exact ra
      | succ j => exact rp j r ws e1 e2
theorem reps_at {K : PySem.W.Frag} {H : Hp} : ∀ {ds : List PyData} {xs : List V}, ds.length = xs.length → (∀ (j : Nat) (d : PyData) (x : V), ds[j]? = some d → xs[j]? = some x → Rep K H d x) → Reps K H ds xs
  | [], [], _, _ => rfl
  | d :: ds, x :: xs, hl, h => ⟨x, xs, rfl, h 0 d x rfl rfl, reps_at (by simpa using hl) fun j d x e1 e2 => h (j + 1) d x e1 e2⟩
theorem colsL_len {n : Nat} {rows : List (List PyData)} : (colsL n rows).length = n := by simp [colsL]
theorem src_zipS {n : Nat} {rows : List (List PyData)} {las : List Addr} (ll : las.length = rows.length) (ne : rows ≠ []) (hn : ∀ r ∈ rows, r.length = n)
    (h : ∀ H, gH H → ∃ vr, TupsAt K H las vr ∧ vr.length = rows.length ∧ ∀ (j : Nat) (r : List PyData) (ws : List V), rows[j]? = some r → vr[j]? = some ws → Reps K H r ws) : Src K (ItzS K las) (colsL n rows) gH := by
  have lens : ∀ {H : Hp} {vr : List (List V)}, vr.length = rows.length → (∀ (j : Nat) (r : List PyData) (ws : List V), rows[j]? = some r → vr[j]? = some ws → Reps K H r ws) → ∀ r ∈ vr, r.length = n := fun {H vr} l rp r hr => by
    obtain ⟨j, hj⟩ := List.mem_iff_getElem?.mp hr
    have lt := (List.getElem?_eq_some_iff.mp hj).1
    have e : rows[j]? = some (rows[j]'(by omega)) := List.getElem?_eq_getElem (by omega)
    rw [(rp j _ r e hj).length]
    exact hn _ (List.mem_of_getElem? e)
  refine ⟨fun i H hi g => ?_, fun H g => ?_, fun i H x H' d e g y => ?_⟩
  · obtain ⟨vr, ta, l, rp⟩ := h H g
    rw [colsL_len] at hi
    exact ⟨vr, ta, fun r hr => by rw [lens l rp r hr]; exact hi⟩
  · obtain ⟨vr, ta, l, rp⟩ := h H g
    exact ⟨vr, ta, fun r hr => by rw [lens l rp r hr, colsL_len]; exact Nat.le_refl _⟩
  · obtain ⟨vr, ta, l, rp⟩ := h H g
    obtain ⟨T, xs, rfl, hT, rfl, lx, y⟩ := y
    have hi : i < n := by
      have := (List.getElem?_eq_some_iff.mp e).1
      rwa [colsL_len] at this
    unfold colsL at e
    rw [List.getElem?_map, List.getElem?_range hi] at e
    cases e
    refine ⟨Same.upd hT, T, xs, rfl, SqT.of upd_same, reps_at (by rw [List.length_map, lx, ll]) fun j d x e1 e2 => ?_⟩
    rw [List.getElem?_map] at e1
    cases er : rows[j]? with
    | none => rw [er] at e1; cases e1
    | some r =>
      rw [er] at e1
      cases e1
      have lj := (List.getElem?_eq_some_iff.mp er).1
      have ev : vr[j]? = some (vr[j]'(by omega)) := List.getElem?_eq_getElem (by omega)
      have hx := y vr ta j _ x ev e2
      have rr := rp j r _ er ev
      have li : r[i]? = some (r[i]'(by rw [hn r (List.mem_of_getElem? er)]; exact hi)) := List.getElem?_eq_getElem _
      obtain ⟨v, e3, rv⟩ := rr.get li
      rw [hx] at e3
      cases e3
      refine Rep.le (Le.new hT) _ ?_
      show Rep K H (r.getD i .none) x
      rw [List.getD_eq_getElem?_getD, li]
      exact rv
theorem src_enZ {n : Nat} {rows : List (List PyData)} {las : List Addr} (z : Src K (ItzS K las) (colsL n rows) gH) : Src K (IteS K las) (enumL (colsL n rows)) gH := by
  refine ⟨fun i H hi g => ?_, fun H g => ?_, fun i H x H' d e g y => ?_⟩
  · rw [enumL_len] at hi
    exact z.goes i H hi g
  · rw [enumL_len]
    exact z.stops H g
  · obtain ⟨T, U, xs, rfl, hT, hU, hne, rfl, lx, y⟩ := y
    obtain ⟨c, ec, rfl⟩ := enumL_get e
    obtain ⟨s1, r1⟩ := z.yields i H (.ref T) _ c ec g ⟨T, xs, rfl, hT, rfl, lx, y⟩
    obtain ⟨s2, r2⟩ := new_pair (T := U) (d := .int (i : Nat)) (x := .int (i : Nat)) (by rw [upd_ne hne]; exact hU) rfl r1
    exact ⟨s1.trans s2, r2⟩
end
/-! ### a loop's head -/
def rSrc (Φ : Phi) (xr : XR) (W : WX) (K : PySem.W.Frag) (sk : Sk) (as : List Ex) : TI := fun σ H R => ∃ G ρ S E, ∃ P : List PyData → Gd → VE → Sto → Prop, Rel K G ρ S σ H ∧ (wpAs Φ E as ρ S fun vs ρ1 S1 => srcP S1 sk vs fun xs gd => P xs gd ρ1 S1) ∧
  (∀ xs gd ρ1 S1 H1 J, P xs gd ρ1 S1 → Rel K G ρ1 S1 σ H1 → Src K J xs (fun H2 => Le H1 H2 ∧ gdH K H2 gd) → Le H H1 → R J H1) ∧ ExF K xr W G E σ H
section
variable {c : Cfg} {Φ : Phi} {n : Nat} {xr : XR} {X : Cx} {W : WX} {tg it : Expr} {es : List Expr} {a : Ex} {as : List Ex} {pos : Pos}
theorem piI {t t' : TI} (h : PI X tg it t) (i : ∀ σ H Q, t' σ H Q → t σ H Q) : PI X tg it t' := ⟨fun pins s σ H Q I w => h.run pins s σ H Q I (i σ H Q w)⟩
theorem fz_sq {K : PySem.W.Frag} {H1 H : Hp} {a : Addr} {vs : List V} {xs : List PyData} (h : FzL H1 a vs) (r : Reps K H1 xs vs) (l : Le H1 H) : ∃ vs, SqL K H a vs ∧ Reps K H xs vs := by
  obtain ⟨o, h⟩ := FzL.le l h
  exact ⟨vs, .inl (.inr ⟨o, h⟩), Reps.le l _ r⟩
theorem fz_dic {K : PySem.W.Frag} {H1 H : Hp} {a : Addr} {o : Obj} {ks : List (Key × V)} {kvs : List (PyData × PyData)} (h : H1 a = some (.frz o (.dK ks))) (r : RepK K H1 kvs ks) (l : Le H1 H) : H a = some (.frz o (.dK ks)) ∧ RepK K H kvs ks := ⟨l.frz _ _ _ h, RepK.le l _ r⟩
theorem src_val (hk : ∃ o, X.K.lookup sysModules = some o) (h : PE X it (rE Φ xr W X.K a)) : PI X tg it (rSrc Φ xr W X.K .val [a]) := by
  refine ⟨fun pins s σ H R I ⟨G, ρ, S, E, P, R0, w, post, ex⟩ => ?_⟩
  have w : wpE Φ E a ρ S fun v ρ1 S1 => srcP S1 .val [v] fun xs gd => P xs gd ρ1 S1 := w
  refine thn (h.run pins s σ H (fun x H1 => ∃ v ρ1 S1, Rel X.K G ρ1 S1 σ H1 ∧ RepV X.K H1 v x ∧ Le H H1 ∧ srcP S1 .val [v] fun xs gd => P xs gd ρ1 S1) I
    ⟨G, ρ, S, E, _, R0, w, fun v ρ1 S1 u H1 p R1 r1 l1 => ⟨v, ρ1, S1, R1, r1, l1, p⟩, ex⟩) fun u s1 ⟨x, H1, I1, rx, v, ρ1, S1, R1, rv, l1, w1⟩ => ?_
  have lists : ∀ {b : Addr} {xs : List PyData} {gd : Gd}, x = .ref b → (∃ vs, SqL X.K H1 b vs) → (∀ H2, (Le H1 H2 ∧ gdH X.K H2 gd) → ∃ vs, SqL X.K H2 b vs ∧ Reps X.K H2 xs vs) → P xs gd ρ1 S1 → wpAny (model X.prog X.w) X.A (pyIter u) (PIE X pins σ tg R) X.xe s1 := by
    intro b xs gd e hs hg p
    subst e
    cases rx
    obtain ⟨vs, hs⟩ := hs
    obtain ⟨its, rr, pl, hz⟩ := I1.list hs
    exact wpAny_pyIter_list pl.isList (pi_one (tk := s1.toks) I1 _ (turn_list b _) ⟨_, Heap.get?_push_size _ rfl, rfl, rfl⟩ (post xs gd ρ1 S1 H1 _ p R1 (src_list hg) l1))
  cases v with
  | s ns => exact (show False from w1).elim
  | r b =>
    have w2 : (match S1 b with
      | some (.lst xs) => P xs (some (b, xs)) ρ1 S1
      | _ => False) := w1
    split at w2
    · rename_i xs e
      obtain ⟨vs, hb, rr⟩ := R1.sto b _ e
      refine lists (show x = .ref b from rv) ⟨vs, .inl (.inl hb)⟩ (fun H2 g => ?_) w2
      obtain ⟨us, hu, ru⟩ := g.2
      exact ⟨us, .inl (.inl hu), ru⟩
    · exact w2.elim
  | d k =>
    cases k <;> try exact (show False from w1).elim
    · rename_i z
      have rz : x = .str z := rv
      subst rz
      obtain ⟨t, rfl⟩ := rx
      have q := post _ _ _ _ H1 (Its z) (show P (signsOf z) none ρ1 S1 from w1) R1 src_str l1
      cases ha : z.cps.all (· < 128)
      · exact wpAny_pyIter_wide ha (pi_one (tk := s1.toks) I1 _ (turn_str _ z t "str_iterator" (.inr rfl)) ⟨_, Heap.get?_push_size _ rfl, rfl, rfl⟩ q)
      · exact wpAny_pyIter_ascii ha (pi_one (tk := s1.toks) I1 _ (turn_str _ z t "str_ascii_iterator" (.inl rfl)) ⟨_, Heap.get?_push_size _ rfl, rfl, rfl⟩ q)
    · rename_i xs
      obtain ⟨b, vs, ex', hb, rr⟩ := rv
      have hs : SqL X.K H1 b vs := .inl (.inr hb)
      exact lists ex' ⟨vs, hs⟩ (fun H2 g => fz_sq hb rr g.1) (show P xs none ρ1 S1 from w1)
    · rename_i xs
      obtain ⟨b, vs, rfl, hb, rr⟩ := rv
      cases rx
      obtain ⟨its, rr2, pl, hz⟩ := I1.tuple hb
      exact wpAny_pyIter_tuple (show s1.heap.IsTuple b its.toArray from pl) (pi_one (tk := s1.toks) I1 _ (turn_tuple b _) ⟨_, Heap.get?_push_size _ rfl, rfl, rfl⟩
        (post xs none ρ1 S1 H1 _ w1 R1 (src_tup fun H2 g => ⟨vs, SqT.le g.1 hb, Reps.le g.1 _ rr⟩) l1))
    · rename_i kvs
      obtain ⟨wp, w1⟩ : plainK kvs = true ∧ P (kvs.map fun p : PyData × PyData => p.1) none ρ1 S1 := w1
      rcases rv with ⟨b, ks, rfl, ⟨o, hb⟩, rr⟩ | ⟨b, o, y, es, ep, rfl, _, hb, hx, hdt, hz, re⟩ | ⟨_, _, _, _, _, q⟩
      rotate_left
      rotate_left
      · exact (q.noPlain wp).elim
      rotate_left
      · cases rx
        obtain ⟨hgd, _⟩ := (show ObjOk X.prog X.w H1 s1.heap b (.frz o (.own y)) from I1.hok b _ hb)
        obtain ⟨ws, r1, r2, r3⟩ := RepE.keys re
        have hs : (b == sysModules) = false := by
          rw [beq_eq_false_iff_ne]
          intro z
          rw [z, nosys hk I1] at hb
          cases hb
        have hl : es.size = ws.length := by rw [r2, Array.length_toList]
        refine iter_keys hs hgd hx hdt (pi_one (tk := s1.toks) I1 _ (turn_keysR (x := y) (ws := ws) _ hdt hl fun i v e => ?_) ⟨_, Heap.get?_push_size _ rfl, rfl, ?_⟩ (post _ _ ρ1 S1 H1 _ (show P (kvs.map (·.1)) none ρ1 S1 from w1) R1 (src_keysR fun H2 g => ⟨g.1.frz _ _ _ hb, Reps.le g.1 _ r1⟩) l1))
        · obtain ⟨en, e1, e2⟩ := r3 i v e
          exact ⟨en, by rw [← Array.getElem?_toList]; exact e1, e2⟩
        · rw [hl] <;> rfl
      cases rx
      obtain ⟨hs, hgd, hx, es, ep, vs, hdt, hsz, kv, hm⟩ := I1.frzK hb
      refine iter_keys hs hgd hx hdt (pi_one (tk := s1.toks) I1 _ (turn_keys _ hdt) ⟨_, Heap.get?_push_size _ rfl, rfl, ?_⟩ (post _ _ ρ1 S1 H1 _ (show P (kvs.map (·.1)) none ρ1 S1 from w1) R1 (src_keys fun H2 g => fz_dic hb rr g.1) l1))
      rw [hsz] <;> rfl
theorem srcI_of {S : Sto} {v : PV} {Q : List PyData → Gd → Prop} (h : srcP S .items [v] Q) : ∃ kvs, v = .d (.dict kvs) ∧ plainK kvs = true ∧ Q (kvs.map fun p => .tuple [p.1, p.2]) none := by
  cases v with
  | s ns => exact (show False from h).elim
  | r b => exact (show False from h).elim
  | d k => cases k <;> first | exact (show False from h).elim | exact ⟨_, rfl, h.1, h.2⟩
theorem srcN_of {S : Sto} {v : PV} {Q : List PyData → Gd → Prop} (h : srcP S .itemsN [v] Q) : ∃ kvs, v = .d (.dict kvs) ∧ plainK kvs = true ∧ Q (kvs.map fun p => .tuple [p.1, p.2]) none := by
  cases v with
  | s ns => exact (show False from h).elim
  | r b => exact (show False from h).elim
  | d k => cases k <;> first | exact (show False from h).elim | exact ⟨_, rfl, h.1, h.2⟩
theorem src_itN {K : PySem.W.Frag} {gH : Hp → Prop} {d : Addr} {o : Obj} {u : HO} {ws : List (V × V)} {kvs : List (PyData × PyData)} (hl : ws.length = kvs.length) (h : ∀ H, gH H → H d = some (.frz o u) ∧ ∀ (i : Nat) (p : PyData × PyData), kvs[i]? = some p → ∃ k v, ws[i]? = some (k, v) ∧ Rep K H p.1 k ∧ Rep K H p.2 v) :
    Src K (ItN d o u ws) (kvs.map fun p => .tuple [p.1, p.2]) gH where
  goes := fun i H hi g => by
    rw [List.length_map] at hi
    exact ⟨(h H g).1, by omega⟩
  stops := fun H g => ⟨(h H g).1, by rw [List.length_map, hl]; exact Nat.le_refl _⟩
  yields := fun i H x H' d e g y => by
    obtain ⟨T, k, v, e1, rfl, hT, rfl⟩ := y
    rw [List.getElem?_map] at e
    obtain ⟨p, ep, rfl⟩ := Option.map_eq_some_iff.mp e
    obtain ⟨k', v', e2, e3, e4⟩ := (h H g).2 i p ep
    rw [e1] at e2
    cases e2
    exact new_pair hT e3 e4
theorem RepK.ents {K : PySem.W.Frag} {H : Hp} : ∀ {kvs : List (PyData × PyData)} {ks : List (Key × V)}, RepK K H kvs ks → ∀ (i : Nat) (p : PyData × PyData), kvs[i]? = some p → ∃ k v, (ks.map fun q => (kV q.1, q.2))[i]? = some (k, v) ∧ Rep K H p.1 k ∧ Rep K H p.2 v := fun {kvs ks} r i p e => by
  obtain ⟨q, v, e1, e2, e3⟩ := RepK.get r e
  exact ⟨kV q, v, by rw [List.getElem?_map, e1]; rfl, keyD_rep e2, e3⟩
theorem src_itemsN {e : Expr} {m y : Str} {ap p yp : Pos} (hk : ∃ o, X.K.lookup sysModules = some o) (hm : (m == ("items" : Str)) = true) (hl : (ap.endLine == p.line) = true) (hy : isNm e = true) (h : PE X e (rE Φ xr W X.K a)) : PI X (.Name y yp) (.Call (.Attribute e m ap) [] [] p) (rSrc Φ xr W X.K .itemsN [a]) := by
  obtain rfl := eq_of_beq hm
  refine piI (pi_itemsN hk h (isNm_base hy) hl) fun σ H R ⟨G, ρ, S, E, P, R0, w, post, ex⟩ => ?_
  have w : wpE Φ E a ρ S fun v ρ1 S1 => srcP S1 .itemsN [v] fun xs gd => P xs gd ρ1 S1 := w
  refine ⟨G, ρ, S, E, _, R0, w, fun v ρ1 S1 u H1 p R1 rv l1 => ?_, ex⟩
  obtain ⟨kvs, rfl, wp, p⟩ := srcN_of p
  rcases rv with ⟨b, ks, rfl, ⟨o, hb⟩, rr⟩ | ⟨b, o, y, es, ep, rfl, _, hb, hx, hdt, hz, re⟩ | ⟨_, _, _, _, _, q⟩
  · exact ⟨b, o, rfl, .inl ⟨ks, hb, post _ _ _ _ _ _ p R1 (src_itN (by rw [List.length_map, RepK.length rr]) fun H2 g => ⟨g.1.frz _ _ _ hb, RepK.ents (RepK.le g.1 _ rr)⟩) l1⟩⟩
  · obtain ⟨ws, z1, z2, z3, z4⟩ := RepE.ents re
    refine ⟨b, o, rfl, .inr ⟨y, es, ep, ws, hb, hx, hdt, by rw [z1, Array.length_toList], fun i k v e => ?_, post _ _ _ _ _ _ p R1 (src_itN z2 fun H2 g => ⟨g.1.frz _ _ _ hb, fun i q e => ?_⟩) l1⟩⟩
    · obtain ⟨en, y1, y2⟩ := z3 i k v e
      exact ⟨en, by rw [← Array.getElem?_toList]; exact y1, y2⟩
    · obtain ⟨k, v, y1, y2, y3⟩ := z4 i q e
      exact ⟨k, v, y1, Rep.le g.1 _ y2, Rep.le g.1 _ y3⟩
  · exact (q.noPlain wp).elim
theorem srcV_of {S : Sto} {v : PV} {Q : List PyData → Gd → Prop} (h : srcP S .values [v] Q) : ∃ kvs, v = .d (.dict kvs) ∧ plainK kvs = true ∧ Q (kvs.map (·.2)) none := by
  cases v with
  | s ns => exact (show False from h).elim
  | r b => exact (show False from h).elim
  | d k => cases k <;> first | exact (show False from h).elim | exact ⟨_, rfl, h.1, h.2⟩
theorem src_items {e : Expr} {m : Str} {ap p : Pos} {elts : List Expr} {kk : Nat} {tp : Pos} (hm : (m == ("items" : Str)) = true) (hl : (ap.endLine == p.line) = true) (hy : isNm e = true) (h : PE X e (rE Φ xr W X.K a)) : PI X (.Tuple elts kk tp) (.Call (.Attribute e m ap) [] [] p) (rSrc Φ xr W X.K .items [a]) := by
  obtain rfl := eq_of_beq hm
  refine piI (pi_items h (isNm_base hy) hl) fun σ H R ⟨G, ρ, S, E, P, R0, w, post, ex⟩ => ?_
  have w : wpE Φ E a ρ S fun v ρ1 S1 => srcP S1 .items [v] fun xs gd => P xs gd ρ1 S1 := w
  refine ⟨G, ρ, S, E, _, R0, w, fun v ρ1 S1 u H1 p R1 rv l1 => ?_, ex⟩
  obtain ⟨kvs, rfl, hp, p⟩ := srcI_of p
  obtain ⟨b, ks, rfl, ⟨o, hb⟩, rr⟩ := Rep.plain rv hp
  exact ⟨b, o, ks, rfl, hb, post _ _ _ _ _ _ p R1 (src_its fun H2 g => fz_dic hb rr g.1) l1⟩
theorem src_values {e : Expr} {m : Str} {ap p : Pos} (hm : (m == ("values" : Str)) = true) (hl : (ap.endLine == p.line) = true) (hy : isNm e = true) (h : PE X e (rE Φ xr W X.K a)) : PI X tg (.Call (.Attribute e m ap) [] [] p) (rSrc Φ xr W X.K .values [a]) := by
  obtain rfl := eq_of_beq hm
  refine piI (pi_values h (isNm_base hy) hl) fun σ H R ⟨G, ρ, S, E, P, R0, w, post, ex⟩ => ?_
  have w : wpE Φ E a ρ S fun v ρ1 S1 => srcP S1 .values [v] fun xs gd => P xs gd ρ1 S1 := w
  refine ⟨G, ρ, S, E, _, R0, w, fun v ρ1 S1 u H1 p R1 rv l1 => ?_, ex⟩
  obtain ⟨kvs, rfl, hp, p⟩ := srcV_of p
  obtain ⟨b, ks, rfl, ⟨o, hb⟩, rr⟩ := Rep.plain rv hp
  exact ⟨b, o, ks, rfl, hb, post _ _ _ _ _ _ p R1 (src_vals fun H2 g => fz_dic hb rr g.1) l1⟩
variable {e e2 : Expr} {a2 : Ex} {x : Str} {p1 : Pos}
theorem srcR1 {S : Sto} {v : PV} {Q : List PyData → Gd → Prop} (h : srcP S .rng [v] Q) : ∃ j, v = .d (.int j) ∧ inRg j ∧ Q (rangeL 0 j) none := by
  cases v with
  | s ns => exact (show False from h).elim
  | r b => exact (show False from h).elim
  | d k =>
    cases k <;> first | exact (show False from h).elim | exact ⟨_, rfl, h.1, h.2⟩
theorem srcR2 {S : Sto} {v u : PV} {Q : List PyData → Gd → Prop} (h : srcP S .rng [v, u] Q) : ∃ i j, v = .d (.int i) ∧ u = .d (.int j) ∧ inRg i ∧ inRg j ∧ Q (rangeL i j) none := by
  cases v with
  | s ns => exact (show False from h).elim
  | r b => exact (show False from h).elim
  | d k =>
    cases k <;> try exact (show False from h).elim
    cases u with
    | s ns => exact (show False from h).elim
    | r b => exact (show False from h).elim
    | d k => cases k <;> first | exact (show False from h).elim | exact ⟨_, _, rfl, rfl, h.1, h.2.1, h.2.2⟩
theorem srcE1 {S : Sto} {v : PV} {Q : List PyData → Gd → Prop} (h : srcP S .enum [v] Q) : ∃ xs, (v = .d (.list xs) ∨ v = .d (.tuple xs)) ∧ Q (enumL xs) none := by
  cases v with
  | s ns => exact (show False from h).elim
  | r b => exact (show False from h).elim
  | d k => cases k <;> first | exact (show False from h).elim | exact ⟨_, .inl rfl, h⟩ | exact ⟨_, .inr rfl, h⟩
theorem srcZ {S : Sto} {v u : PV} {Q : List PyData → Gd → Prop} (h : srcP S .zip [v, u] Q) : ∃ xs ys, ((v = .d (.list xs) ∧ u = .d (.list ys)) ∨ (v = .d (.tuple xs) ∧ u = .d (.tuple ys))) ∧ xs.length = ys.length ∧ Q (zipL xs ys) none := by
  cases v with
  | s ns => exact (show False from h).elim
  | r b => exact (show False from h).elim
  | d k =>
    cases k <;> try exact (show False from h).elim
    all_goals
      cases u with
      | s ns => exact (show False from h).elim
      | r b => exact (show False from h).elim
      | d k => cases k <;> first | exact (show False from h).elim | exact ⟨_, _, .inl ⟨rfl, rfl⟩, h.1, h.2⟩ | exact ⟨_, _, .inr ⟨rfl, rfl⟩, h.1, h.2⟩
theorem src_rng1 (o : CxOk c Φ n xr X W) (hx : (x == ("range" : Str)) = true) (bx : bltB c x = true) (hn : nst e = true) (h : PE X e (rE Φ xr W X.K a)) : PI X tg (.Call (.Name x p1) [e] [] pos) (rSrc Φ xr W X.K .rng [a]) := by
  obtain rfl := eq_of_beq hx
  obtain ⟨g, hm, _, _⟩ := o.bltn bx
  refine piI (pi_range1 g hm (pa_cons h pa_nil (star_cons hn)) (star_cons hn)) fun σ H R ⟨G, ρ, S, E, P, R0, w, post, ex⟩ => ⟨G, ρ, S, E, fun v ρ1 S1 => srcP S1 .rng [v] fun xs gd => P xs gd ρ1 S1, R0, w, fun v ρ1 S1 u H1 p R1 rv l1 => ?_, ex⟩
  obtain ⟨j, rfl, q1, q2⟩ := srcR1 p
  exact ⟨j, by rw [show u = .int j from rv], q1.1, q1.2, post _ _ _ _ _ _ q2 R1 (src_rng (by simp)) l1⟩
theorem src_rng2 (o : CxOk c Φ n xr X W) (hx : (x == ("range" : Str)) = true) (bx : bltB c x = true) (hn : nst e = true) (hn2 : nst e2 = true) (h : PE X e (rE Φ xr W X.K a)) (h2 : PE X e2 (rE Φ xr W X.K a2)) : PI X tg (.Call (.Name x p1) [e, e2] [] pos) (rSrc Φ xr W X.K .rng [a, a2]) := by
  obtain rfl := eq_of_beq hx
  obtain ⟨g, hm, _, _⟩ := o.bltn bx
  refine piI (pi_range2 g hm (pa_cons h (pa_cons h2 pa_nil (star_cons hn2)) (star_cons hn)) (by rw [star_cons hn, star_cons hn2]; rfl) (star_cons hn2)) fun σ H R ⟨G, ρ, S, E, P, R0, w, post, ex⟩ =>
    ⟨G, ρ, S, E, fun v ρ1 S1 => wpE Φ E a2 ρ1 S1 fun v2 ρ2 S2 => srcP S2 .rng [v, v2] fun xs gd => P xs gd ρ2 S2, R0, w, fun v ρ1 S1 u H1 p R1 rv l1 => ⟨G, ρ1, S1, E, _, R1, p, fun v2 ρ2 S2 u2 H2 p R2 rv2 l2 => ?_, ex.le l1⟩, ex⟩
  obtain ⟨i, j, rfl, rfl, q1, q2, q3⟩ := srcR2 p
  exact ⟨i, j, by rw [show u = .int i from rv, show u2 = .int j from rv2], ⟨q1.1, q1.2, q2.1, q2.2⟩, post _ _ _ _ _ _ q3 R2 (src_rng rfl) (l1.trans l2)⟩
theorem srcR3 {S : Sto} {v u w : PV} {Q : List PyData → Gd → Prop} (h : srcP S .rngC [v, u, w] Q) : ∃ i j, v = .d (.int i) ∧ u = .d (.int j) ∧ w = .d (.int (-1)) ∧ inRg i ∧ inRg j ∧ Q (rangeD i j) none := by
  cases v with
  | s ns => exact (show False from h).elim
  | r b => exact (show False from h).elim
  | d k =>
    cases k <;> try exact (show False from h).elim
    cases u with
    | s ns => exact (show False from h).elim
    | r b => exact (show False from h).elim
    | d k2 =>
      cases k2 <;> try exact (show False from h).elim
      cases w with
      | s ns => exact (show False from h).elim
      | r b => exact (show False from h).elim
      | d k3 =>
        cases k3 <;> try exact (show False from h).elim
        obtain ⟨e, h1, h2, h3⟩ := h
        exact ⟨_, _, rfl, rfl, by rw [e], h1, h2, h3⟩
theorem src_rng3 {e2 e3 : Expr} {a2 a3 : Ex} {x : Str} {p1 : Pos} {e : Expr} (o : CxOk c Φ n xr X W) (hx : (x == ("range" : Str)) = true) (bx : bltB c x = true) (hn : nst e = true) (hn2 : nst e2 = true) (hn3 : nst e3 = true) (h : PE X e (rE Φ xr W X.K a)) (h2 : PE X e2 (rE Φ xr W X.K a2)) (h3 : PE X e3 (rE Φ xr W X.K a3)) :
    PI X tg (.Call (.Name x p1) [e, e2, e3] [] pos) (rSrc Φ xr W X.K .rngC [a, a2, a3]) := by
  obtain rfl := eq_of_beq hx
  obtain ⟨g, hm, _, _⟩ := o.bltn bx
  refine piI (pi_range3 g hm (pa_cons h (pa_cons h2 (pa_cons h3 pa_nil (star_cons hn3)) (star_cons hn2)) (star_cons hn)) (star_cons hn) (star_plain (by simp only [List.all_cons, List.all_nil, hn2, hn3, Bool.and_self]))) fun σ H R ⟨G, ρ, S, E, P, R0, w, post, ex⟩ =>
    ⟨G, ρ, S, E, fun v ρ1 S1 => wpE Φ E a2 ρ1 S1 fun v2 ρ2 S2 => wpE Φ E a3 ρ2 S2 fun v3 ρ3 S3 => srcP S3 .rngC [v, v2, v3] fun xs gd => P xs gd ρ3 S3, R0, w, fun v ρ1 S1 u H1 p R1 rv l1 => ⟨G, ρ1, S1, E, _, R1, p, fun v2 ρ2 S2 u2 H2 p R2 rv2 l2 => ⟨G, ρ2, S2, E, _, R2, p, fun v3 ρ3 S3 u3 H3 p R3 rv3 l3 => ?_, ex.le (l1.trans l2)⟩, ex.le l1⟩, ex⟩
  obtain ⟨i, j, rfl, rfl, rfl, q1, q2, q3⟩ := srcR3 p
  exact ⟨i, j, -1, (i - j).toNat, by rw [show u = .int i from rv, show u2 = .int j from rv2, show u3 = .int (-1) from rv3], RgC.neg q1.1 q1.2 q2.1 q2.2, post _ _ _ _ _ _ q3 R3 (src_rngD rfl) ((l1.trans l2).trans l3)⟩
theorem src_enum1 (o : CxOk c Φ n xr X W) (hx : (x == ("enumerate" : Str)) = true) (bx : bltB c x = true) (hn : nst e = true) (ht : isTup tg = true) (h : PE X e (rE Φ xr W X.K a)) : PI X tg (.Call (.Name x p1) [e] [] pos) (rSrc Φ xr W X.K .enum [a]) := by
  obtain rfl := eq_of_beq hx
  obtain ⟨g, hm, _, _⟩ := o.bltn bx
  obtain ⟨ts, kk, tp, rfl⟩ : ∃ ts kk tp, tg = .Tuple ts kk tp := by cases tg <;> first | exact ⟨_, _, _, rfl⟩ | cases ht
  refine ⟨fun pins s σ H R I ⟨G, ρ, S, E, P, R0, w, post, ex⟩ => ?_⟩
  have w : wpE Φ E a ρ S fun v ρ1 S1 => srcP S1 .enum [v] fun xs gd => P xs gd ρ1 S1 := w
  have pa := pa_cons h (pa_nil (X := X)) (star_cons hn)
  refine Call_ (ld_blt I g hm boot_enumerate (PyProof.Rows.callWith_type1 (thn (pa.run pos pins s σ H (fun us H1 => ∃ u v ρ1 S1, us = [u] ∧ Rel X.K G ρ1 S1 σ H1 ∧ RepV X.K H1 v u ∧ Le H H1 ∧ srcP S1 .enum [v] fun xs gd => P xs gd ρ1 S1) I
    ⟨G, ρ, S, E, _, R0, w, fun v ρ1 S1 u H1 p R1 r1 l1 => ⟨u, v, ρ1, S1, rfl, R1, r1, l1, p⟩, ex⟩) fun us s1 ⟨vs, H1, I1, rs, u, v, ρ1, S1, ev, R1, rv, l1, w1⟩ => ?_) (star_cons hn) rfl))
  subst ev
  obtain ⟨y, rfl, ry⟩ := vals1 rs
  obtain ⟨xs, hv, w1⟩ := srcE1 w1
  have fp2 : ∀ b ∈ [s1.heap.objs.size + 1, s1.heap.objs.size], FpOk X pins H1 b := fun b hb => by
    have hle : s1.heap.objs.size ≤ b := by
      rcases List.mem_cons.mp hb with z | z
      · rw [z]; exact Nat.le_add_right _ _
      · rw [List.mem_singleton.mp z]; exact Nat.le_refl _
    exact I1.fpOk hle (I1.hok.fresh hle)
  rcases hv with rfl | rfl
  · obtain ⟨b, vs, rfl, hb, rr⟩ := rv
    cases ry
    have hs : SqL X.K H1 b vs := .inl (.inr hb)
    obtain ⟨its, rl, pl, hz⟩ := I1.list hs
    refine call_enumerate_list pl.isList fun h' he hit hsz hk => wpAny_pyIter_enum he ?_
    exact ⟨s1.heap.objs.size + 1, [s1.heap.objs.size + 1, s1.heap.objs.size], _, _, H1, rfl, I1.kept (t' := s1.toks) hk, turn_enum b (s1.heap.objs.size + 1) s1.heap.objs.size, ⟨⟨.none, he⟩, hit, Nat.succ_ne_self _⟩, fp2, post _ _ _ _ _ _ w1 R1 (src_enum fun H2 g => fz_sq hb rr g.1) l1⟩
  · obtain ⟨b, vs, rfl, hb, rr⟩ := rv
    cases ry
    obtain ⟨its, rl, pl, hz⟩ := I1.tuple hb
    refine call_enumT pl fun h' he hit hsz hk => wpAny_pyIter_enum he ?_
    exact ⟨s1.heap.objs.size + 1, [s1.heap.objs.size + 1, s1.heap.objs.size], _, _, H1, rfl, I1.kept (t' := s1.toks) hk, turn_enumT b (s1.heap.objs.size + 1) s1.heap.objs.size, ⟨⟨.none, he⟩, hit, Nat.succ_ne_self _⟩, fp2, post _ _ _ _ _ _ w1 R1 (src_enumT fun H2 g => ⟨vs, SqT.le g.1 hb, Reps.le g.1 _ rr⟩) l1⟩
theorem src_zip2 (o : CxOk c Φ n xr X W) (hx : (x == ("zip" : Str)) = true) (bx : bltB c x = true) (hn : nst e = true) (hn2 : nst e2 = true) (ht : isTup tg = true) (h : PE X e (rE Φ xr W X.K a)) (h2 : PE X e2 (rE Φ xr W X.K a2)) : PI X tg (.Call (.Name x p1) [e, e2] [] pos) (rSrc Φ xr W X.K .zip [a, a2]) := by
  obtain rfl := eq_of_beq hx
  obtain ⟨g, hm, _, _⟩ := o.bltn bx
  obtain ⟨ts, kk, tp, rfl⟩ : ∃ ts kk tp, tg = .Tuple ts kk tp := by cases tg <;> first | exact ⟨_, _, _, rfl⟩ | cases ht
  refine piI (RZ.pi_zipA g hm (pa_cons h (pa_cons h2 pa_nil (star_cons hn2)) (star_cons hn)) (star_cons hn) (star_plain (by simp [hn2]))) fun σ H R ⟨G, ρ, S, E, P, R0, w, post, ex⟩ =>
    ⟨G, ρ, S, E, fun v ρ1 S1 => wpE Φ E a2 ρ1 S1 fun v2 ρ2 S2 => srcP S2 .zip [v, v2] fun xs gd => P xs gd ρ2 S2, R0, w, fun v ρ1 S1 u H1 p R1 rv l1 => ⟨G, ρ1, S1, E, _, R1, p, fun v2 ρ2 S2 u2 H2 p R2 rv2 l2 => ?_, ex.le l1⟩, ex⟩
  obtain ⟨xs, ys, hv, hl, q⟩ := srcZ p
  rcases hv with ⟨rfl, rfl⟩ | ⟨rfl, rfl⟩
  · obtain ⟨b, vs, rfl, hb, rr⟩ := RepV.le l2 rv
    obtain ⟨b2, vs2, rfl, hb2, rr2⟩ := rv2
    refine ⟨b, b2, vs, vs2, rfl, .inl ⟨.inl (.inr hb), .inl (.inr hb2), post _ _ _ _ _ _ q R2 (src_zip hl fun H3 g => ?_) (l1.trans l2)⟩⟩
    obtain ⟨z1, z2, z3⟩ := fz_sq hb rr g.1
    obtain ⟨y1, y2, y3⟩ := fz_sq hb2 rr2 g.1
    exact ⟨z1, y1, z2, z3, y2, y3⟩
  · obtain ⟨b, vs, rfl, hb, rr⟩ := RepV.le l2 rv
    obtain ⟨b2, vs2, rfl, hb2, rr2⟩ := rv2
    exact ⟨b, b2, vs, vs2, rfl, .inr ⟨hb, hb2, post _ _ _ _ _ _ q R2 (src_zipT hl fun H3 g => ⟨vs, vs2, SqT.le g.1 hb, Reps.le g.1 _ rr, SqT.le g.1 hb2, Reps.le g.1 _ rr2⟩) (l1.trans l2)⟩⟩
theorem srcS1 {S : Sto} {v : PV} {Q : List PyData → Gd → Prop} (h : srcP S .zipS [v] Q) : ∃ (rows : List (List PyData)) (n : Nat), v = .d (.list (rows.map .tuple)) ∧ rows ≠ [] ∧ (∀ r ∈ rows, r.length = n) ∧ Q (colsL n rows) none := by
  cases v with
  | s ns => exact (show False from h).elim
  | r b => exact (show False from h).elim
  | d k =>
    cases k <;> try exact (show False from h).elim
    obtain ⟨rows, n, rfl, h1, h2, h3⟩ := h
    exact ⟨rows, n, rfl, h1, h2, h3⟩
theorem src_zipS1 {sp : Pos} (o : CxOk c Φ n xr X W) (hx : (x == ("zip" : Str)) = true) (bx : bltB c x = true) (ht : isNm tg = true) (h : PE X e (rE Φ xr W X.K a)) : PI X tg (.Call (.Name x p1) [.Starred e sp] [] pos) (rSrc Φ xr W X.K .zipS [a]) := by
  obtain rfl := eq_of_beq hx
  obtain ⟨g, hm, _, _⟩ := o.bltn bx
  obtain ⟨y, yp, rfl⟩ : ∃ y yp, tg = .Name y yp := by cases tg <;> first | exact ⟨_, _, rfl⟩ | cases ht
  refine piI (pi_zipS g hm h rfl) fun σ H R ⟨G, ρ, S, E, P, R0, w, post, ex⟩ => ?_
  have w : wpE Φ E a ρ S fun v ρ1 S1 => srcP S1 .zipS [v] fun xs gd => P xs gd ρ1 S1 := w
  refine ⟨G, ρ, S, E, _, R0, w, fun v ρ1 S1 u H1 p R1 rv l1 => ?_, ex⟩
  obtain ⟨rows, k, rfl, ne, hn, q⟩ := srcS1 p
  obtain ⟨b, vs, rfl, hb, rr⟩ := rv
  obtain ⟨las, vr, rfl, ll, ta, lv, rp⟩ := reps_tups rr
  refine ⟨b, las, vr, rfl, .inr (.inl (.inr hb)), fun z => ne (List.length_eq_zero_iff.mp (by rw [← ll, z]; rfl)), ta, post _ _ _ _ _ _ q R1 (src_zipS ll ne hn fun H2 g => ?_) l1⟩
  exact ⟨vr, ⟨ta.1, fun j l r e1 e2 => SqT.le g.1 (ta.2 j l r e1 e2)⟩, lv, fun j r ws e1 e2 => Reps.le g.1 _ (rp j r ws e1 e2)⟩
theorem srcS2 {S : Sto} {v : PV} {Q : List PyData → Gd → Prop} (h : srcP S .enZ [v] Q) : ∃ (rows : List (List PyData)) (n : Nat), v = .d (.list (rows.map .tuple)) ∧ rows ≠ [] ∧ (∀ r ∈ rows, r.length = n) ∧ Q (enumL (colsL n rows)) none := by
  cases v with
  | s ns => exact (show False from h).elim
  | r b => exact (show False from h).elim
  | d k =>
    cases k <;> try exact (show False from h).elim
    obtain ⟨rows, n, rfl, h1, h2, h3⟩ := h
    exact ⟨rows, n, rfl, h1, h2, h3⟩
theorem src_enZ1 {y0 : Str} {p0 sp pos0 : Pos} (o : CxOk c Φ n xr X W) (hy : (y0 == ("enumerate" : Str)) = true) (by0 : bltB c y0 = true) (hx : (x == ("zip" : Str)) = true) (bx : bltB c x = true) (ht : isTup tg = true) (h : PE X e (rE Φ xr W X.K a)) :
    PI X tg (.Call (.Name y0 p0) [.Call (.Name x p1) [.Starred e sp] [] pos] [] pos0) (rSrc Φ xr W X.K .enZ [a]) := by
  obtain rfl := eq_of_beq hx
  obtain rfl := eq_of_beq hy
  obtain ⟨g, hm, _, _⟩ := o.bltn bx
  obtain ⟨g0, hm0, _, _⟩ := o.bltn by0
  obtain ⟨ts, kk, tp, rfl⟩ : ∃ ts kk tp, tg = .Tuple ts kk tp := by cases tg <;> first | exact ⟨_, _, _, rfl⟩ | cases ht
  refine piI (pi_enS g0 hm0 g hm h rfl rfl) fun σ H R ⟨G, ρ, S, E, P, R0, w, post, ex⟩ => ?_
  have w : wpE Φ E a ρ S fun v ρ1 S1 => srcP S1 .enZ [v] fun xs gd => P xs gd ρ1 S1 := w
  refine ⟨G, ρ, S, E, _, R0, w, fun v ρ1 S1 u H1 p R1 rv l1 => ?_, ex⟩
  obtain ⟨rows, k, rfl, ne, hn, q⟩ := srcS2 p
  obtain ⟨b, vs, rfl, hb, rr⟩ := rv
  obtain ⟨las, vr, rfl, ll, ta, lv, rp⟩ := reps_tups rr
  refine ⟨b, las, vr, rfl, .inr (.inl (.inr hb)), fun z => ne (List.length_eq_zero_iff.mp (by rw [← ll, z]; rfl)), ta, post _ _ _ _ _ _ q R1 (src_enZ (src_zipS ll ne hn fun H2 g => ?_)) l1⟩
  exact ⟨vr, ⟨ta.1, fun j l r e1 e2 => SqT.le g.1 (ta.2 j l r e1 e2)⟩, lv, fun j r ws e1 e2 => Reps.le g.1 _ (rp j r ws e1 e2)⟩
end
end Lk
/-! D9: targets, comprehensions, all expressions. -/
namespace Lk
open PySem PySem.Spec PyProof.Rows L2
/-! ### targets -/
def gNms : List Nat → TGs
  | [] => gNil
  | i :: is => gCons (gName i) (gNms is)
def gTg (K : PySem.W.Frag) : Tg → TG
  | .nm i => gName i
  | .tup is => gTup K is.length (gNms is)
theorem wipe_set {σ : L2.St} {i : Nat} {v : Option V} : ∀ {vs : List Nat}, i ∈ vs → wipe (σ.set i v) vs = wipe σ vs
  | j :: vs, h => by
    unfold wipe
    by_cases e : i ∈ vs
    · rw [wipe_set e]
    · have ij : i = j := by
        rcases List.mem_cons.mp h with z | z
        · exact z
        · exact absurd z e
      subst ij
      have : ∀ (ws : List Nat), i ∉ ws → (wipe (σ.set i v) ws) = (wipe σ ws).set i v := by
        intro ws
        induction ws with
        | nil => intro _; rfl
        | cons k ws ih =>
          intro hk
          rw [List.mem_cons, not_or] at hk
          show (wipe (σ.set i v) ws).set k none = ((wipe σ ws).set k none).set i v
          rw [ih hk.2, List.set_comm _ _ hk.1]
      rw [this vs e, List.set_set]
section
variable {K : PySem.W.Frag} {G : Gh} {S : Sto} {H : Hp}
theorem tgs_sound : ∀ (is : List Nat) (xs : List PyData) (vs : List V) (ρ : VE) (σ : L2.St) (ρ' : VE) (Z : L2.St → Hp → Prop), Rel K G ρ S σ H → Reps K H xs vs → setAll is xs ρ = some ρ' →
    (∀ σ', Rel K G ρ' S σ' H → (∀ ws, (is.all ws.contains) = true → wipe σ' ws = wipe σ ws) → Z σ' H) → gNms is vs σ H Z ∧ vs.length = is.length
  | [], [], vs, ρ, σ, ρ', Z, R, r, e, z => by
    cases e
    have r : vs = [] := r
    subst r
    exact ⟨⟨rfl, z σ R fun _ _ => rfl⟩, rfl⟩
  | i :: is, x :: xs, vs, ρ, σ, ρ', Z, R, r, e, z => by
    obtain ⟨v, us, rfl, rv, rr⟩ := r
    have e : setAll is xs (ρ.set i (some (.v (.d x)))) = some ρ' := e
    have R1 := R.setVal (i := i) (p := .d x) (v := v) rv
    obtain ⟨g, hl⟩ := tgs_sound is xs us _ _ ρ' Z R1 rr e fun σ' R' w => z σ' R' fun ws hw => by
      rw [List.all_cons, Bool.and_eq_true] at hw
      rw [w ws hw.2, wipe_set (List.contains_iff_mem.mp hw.1)]
    exact ⟨⟨v, us, rfl, g⟩, by rw [List.length_cons, List.length_cons, hl]⟩
  | [], _ :: _, _, _, _, _, _, _, _, e, _ => nomatch e
  | _ :: _, [], _, _, _, _, _, _, _, e, _ => nomatch e
theorem tg_sound {tg : Tg} {x : PyData} {v : V} {ρ : VE} {σ : L2.St} {Q : VE → Prop} {Z : L2.St → Hp → Prop} (R : Rel K G ρ S σ H) (rv : Rep K H x v) (h : tgP ρ tg x Q)
    (z : ∀ ρ' σ', Rel K G ρ' S σ' H → Q ρ' → (∀ ws, tgIn tg ws = true → wipe σ' ws = wipe σ ws) → Z σ' H) : gTg K tg v σ H Z := by
  cases tg with
  | nm i => exact z _ _ (R.setVal (p := .d x) rv) h fun ws hw => wipe_set (List.contains_iff_mem.mp hw)
  | tup is =>
    cases x <;> try exact (show False from h).elim
    rename_i xs
    have h' : (match setAll is xs ρ with
      | some ρ' => Q ρ'
      | none => False) := h
    split at h'
    · rename_i ρ' e
      obtain ⟨a, vs, rfl, ha, rr⟩ := rv
      obtain ⟨g, hl⟩ := tgs_sound is xs vs ρ σ ρ' Z R rr e fun σ' R' w => z ρ' σ' R' h' w
      exact ⟨a, vs, rfl, ha, hl, g⟩
    · exact h'.elim
end
section
variable {c : Cfg} {Φ : Phi} {n : Nat} {xr : XR} {X : Cx} {W : WX}
theorem CxOk.sto (o : CxOk c Φ n xr X W) {i : Nat} {x : Str} (h : stoB c i x = true) : X.N[i]? = some x ∧ L2.Loc X.env.scope x ∧ (X.fn x = true ∨ X.env.scope.names.lookup x = some .local) := by
  unfold stoB at h
  rw [Bool.and_eq_true] at h
  obtain ⟨h1, h2⟩ := h
  refine ⟨by rw [o.N]; exact of_decide_eq_true h1, ?_⟩
  rw [o.sc]
  unfold L2.Loc
  split at h2
  · rename_i q
    exact ⟨.inl q, .inr q⟩
  · rename_i q
    exact ⟨.inr q, .inl (o.fn x h2)⟩
  · cases h2
theorem pg_nm (o : CxOk c Φ n xr X W) {i : Nat} {x : Str} {pos : Pos} (h : stoB c i x = true) : PG X (.Name x pos) (gName i) := by
  obtain ⟨h1, h2, h3⟩ := o.sto h
  exact pg_name (by rw [o.N]; exact o.nd) h1 h2 h3
theorem pg_nms (o : CxOk c Φ n xr X W) : ∀ (is : List Nat) (es : List Expr), stosB c is es = true → PGs X es (gNms is) ∧ (assignEach es X.env).length = is.length ∧ (assignEach es X.env).findIdx? (·.1) = none
  | [], [], _ => ⟨pgs_nil, rfl, rfl⟩
  | i :: is, .Name x p :: es, h => by
    have h : (stoB c i x && stosB c is es) = true := h
    rw [Bool.and_eq_true] at h
    obtain ⟨a, b, d⟩ := pg_nms o is es h.2
    refine ⟨pgs_cons (pg_nm o h.1) a rfl, ?_, ?_⟩
    · show (assignEach es X.env).length + 1 = is.length + 1
      rw [b]
    · show ((false, assign (.Name x p) X.env) :: assignEach es X.env).findIdx? (·.1) = none
      rw [List.findIdx?_cons, d] <;> rfl
  | [], _ :: _, h => by cases h
  | _ :: _, [], h => by cases h
  | i :: is, e :: es, h => by
    cases e <;> first
      | (rename_i x p
         have h : (stoB c i x && stosB c is es) = true := h
         rw [Bool.and_eq_true] at h
         obtain ⟨a, b, d⟩ := pg_nms o is es h.2
         refine ⟨pgs_cons (pg_nm o h.1) a rfl, ?_, ?_⟩
         · show (assignEach es X.env).length + 1 = is.length + 1
           rw [b]
         · show ((false, assign (.Name x p) X.env) :: assignEach es X.env).findIdx? (·.1) = none
           rw [List.findIdx?_cons, d] <;> rfl)
      | cases h
theorem pg_tg (o : CxOk c Φ n xr X W) {tg : Tg} {e : Expr} (h : tgB c tg e = true) : PG X e (gTg X.K tg) := by
  unfold tgB at h
  split at h
  · exact pg_nm o h
  · rename_i is es _ _
    obtain ⟨a, b, d⟩ := pg_nms o is es h
    exact pg_tup o.calm a b d
  · cases h
end
/-! ### comprehensions -/
section
variable {K : PySem.W.Frag} {G : Gh} {ρ ρ1 : VE} {S S1 : Sto} {σ : L2.St} {H H1 : Hp}
theorem wipeV_len (ρ : VE) : ∀ vs : List Nat, (wipeV ρ vs).length = ρ.length
  | [] => rfl
  | v :: vs => by
    show ((wipeV ρ vs).set v none).length = _
    rw [List.length_set, wipeV_len ρ vs]
theorem wipeV_get {i : Nat} {l : Lo} : ∀ {vs : List Nat}, (wipeV ρ vs)[i]? = some (some l) → ρ[i]? = some (some l) ∧ i ∉ vs
  | [], h => ⟨h, by simp⟩
  | v :: vs, h => by
    have h : ((wipeV ρ vs).set v none)[i]? = some (some l) := h
    by_cases hi : v = i
    · subst hi
      by_cases hv : v < (wipeV ρ vs).length
      · rw [List.getElem?_set_self hv] at h; cases h
      · rw [List.getElem?_eq_none (by simpa using hv)] at h; cases h
    · rw [List.getElem?_set_ne hi] at h
      obtain ⟨h1, h2⟩ := wipeV_get h
      exact ⟨h1, by rw [List.mem_cons, not_or]; exact ⟨fun e => hi e.symm, h2⟩⟩
theorem wipe_keep {i : Nat} : ∀ {vs : List Nat}, i ∉ vs → (wipe σ vs)[i]? = σ[i]?
  | [], _ => rfl
  | v :: vs, h => by
    rw [List.mem_cons, not_or] at h
    show ((wipe σ vs).set v none)[i]? = _
    rw [List.getElem?_set_ne (Ne.symm h.1), wipe_keep h.2]
theorem IsOwn.unwipe {a : Addr} {vs : List Nat} (h : IsOwn (wipeV ρ vs) (wipe σ vs) a) : IsOwn ρ σ a := by
  obtain ⟨i, l, e, n, ea⟩ := h
  obtain ⟨e1, e2⟩ := wipeV_get e
  rw [wipe_keep e2] at ea
  exact ⟨i, l, e1, n, ea⟩
theorem Rel.wipe (R : Rel K G ρ S σ H) (vs : List Nat) : Rel K G (wipeV ρ vs) S (wipe σ vs) H := by
  refine ⟨fun i p e => ?_, fun i l e nl => ?_, R.sto, R.old, R.new, R.mon, by rw [wipeV_len, wipe_length]; exact R.len⟩
  · obtain ⟨e1, e2⟩ := wipeV_get e
    rw [wipe_keep e2]
    exact R.val i p e1
  · obtain ⟨e1, e2⟩ := wipeV_get e
    rw [wipe_keep e2]
    obtain ⟨a, h1, o, f1, f2, ap⟩ := R.own i l e1 nl
    refine ⟨a, h1, o, f1, f2, fun j l' hj ej nj => ?_⟩
    obtain ⟨e3, e4⟩ := wipeV_get ej
    rw [wipe_keep e4]
    exact ap j l' hj e3 nj
theorem Out.wipe {a : Addr} (o : Out G ρ S σ a) (vs : List Nat) : Out G (wipeV ρ vs) S (wipe σ vs) a := ⟨o.gh, o.sto, fun h => o.own h.unwipe⟩
theorem backV_len (ρ₀ ρ : VE) : ∀ vs : List Nat, (backV ρ₀ ρ vs).length = ρ.length
  | [] => rfl
  | v :: vs => by
    show ((backV ρ₀ ρ vs).set v _).length = _
    rw [List.length_set, backV_len ρ₀ ρ vs]
theorem backV_out {ρ₀ : VE} {i : Nat} : ∀ {vs : List Nat}, i ∉ vs → (backV ρ₀ ρ vs)[i]? = ρ[i]?
  | [], _ => rfl
  | v :: vs, h => by
    rw [List.mem_cons, not_or] at h
    show ((backV ρ₀ ρ vs).set v _)[i]? = _
    rw [List.getElem?_set_ne (Ne.symm h.1), backV_out h.2]
theorem backV_in {ρ₀ : VE} {i : Nat} {l : Lo} : ∀ {vs : List Nat}, i ∈ vs → (backV ρ₀ ρ vs)[i]? = some (some l) → ρ₀[i]? = some (some l)
  | v :: vs, h, e => by
    have e : ((backV ρ₀ ρ vs).set v (ρ₀[v]?.join))[i]? = some (some l) := e
    by_cases hi : v = i
    · subst hi
      by_cases hv : v < (backV ρ₀ ρ vs).length
      · rw [List.getElem?_set_self hv] at e
        have e : ρ₀[v]?.join = some l := Option.some.inj e
        cases q : ρ₀[v]? with
        | none => rw [q] at e; cases e
        | some z => rw [q] at e; exact congrArg some e
      · rw [List.getElem?_eq_none (by simpa using hv)] at e; cases e
    · rw [List.getElem?_set_ne hi] at e
      rcases List.mem_cons.mp h with z | z
      · exact absurd z.symm hi
      · exact backV_in z e
/-- behind a comprehension -/
theorem Rel.unwipe {vs : List Nat} (R1 : Rel K G ρ1 S1 σ H1) (R : Rel K (regh (wipeV ρ1 vs) (L2.wipe σ vs) S1 H1) ρ S (L2.wipe σ vs) H) (le : Le H1 H) : Rel K G (backV ρ1 ρ vs) S σ H := by
  have Rw := R1.wipe vs
  have Rb := Rw.back R
  have stays : ∀ {i : Nat} {l : Lo} {a : Addr}, i ∈ vs → ρ1[i]? = some (some l) → (∀ p, l ≠ .v p) → σ[i]? = some (some (V.ref a)) → OwnAt K H1 a l → S1 a = none → ∃ u, (regh (wipeV ρ1 vs) (L2.wipe σ vs) S1 H1).H0 a = some u ∧ H1 a = some u ∧ H a = some u := by
    intro i l a hi e nl ea o s
    obtain ⟨u, hu, mu⟩ := o.tracked
    have no : ¬ IsOwn (wipeV ρ1 vs) (L2.wipe σ vs) a := fun ⟨j, l', e', n', ea'⟩ => by
      obtain ⟨e1, e2⟩ := wipeV_get e'
      rw [wipe_keep e2] at ea'
      obtain ⟨b, q, _, _, _, ap⟩ := R1.own i l e nl
      rw [ea] at q; cases q
      exact ap j l' (fun z => e2 (z ▸ hi)) e1 n' ea'
    have g : (regh (wipeV ρ1 vs) (L2.wipe σ vs) S1 H1).H0 a = some u := by rw [regh_of no]; exact hu
    exact ⟨u, g, hu, R.old a u g s⟩
  refine ⟨fun i p e => ?_, fun i l e nl => ?_, R.sto, Rb.old, Rb.new, Rb.mon, by rw [backV_len]; have := R.len; rw [wipe_length] at this; exact this⟩
  · by_cases hi : i ∈ vs
    · obtain ⟨v, e1, r⟩ := R1.val i p (backV_in hi e)
      exact ⟨v, e1, r.le le⟩
    · rw [backV_out hi] at e
      obtain ⟨v, e1, r⟩ := R.val i p e
      rw [wipe_keep hi] at e1
      exact ⟨v, e1, r⟩
  · by_cases hi : i ∈ vs
    · have e' := backV_in hi e
      obtain ⟨a, e1, o, f1, f2, ap⟩ := R1.own i l e' nl
      obtain ⟨u, g, hu, hu'⟩ := stays hi e' nl e1 o f2
      refine ⟨a, e1, o.move le (hu'.trans hu.symm), f1, ?_, fun j l' hj ej nj => ?_⟩
      · cases q : S a with
        | none => rfl
        | some z =>
          rcases R.new a (by rw [q]; simp) with z | z
          · exact absurd f2 z
          · rw [g] at z; cases z
      · by_cases hjv : j ∈ vs
        · exact ap j l' hj (backV_in hjv ej) nj
        · rw [backV_out hjv] at ej
          obtain ⟨b, q1, _, q2, _⟩ := R.own j l' ej nj
          rw [wipe_keep hjv] at q1
          rw [q1]
          intro z
          cases z
          rw [g] at q2; cases q2
    · have e' := e
      rw [backV_out hi] at e'
      obtain ⟨a, e1, o, f1, f2, ap⟩ := R.own i l e' nl
      obtain ⟨a', e1', _, f1', _⟩ := Rb.own i l e' nl
      rw [e1] at e1'; cases e1'
      rw [wipe_keep hi] at e1
      refine ⟨a, e1, o, f1', f2, fun j l' hj ej nj => ?_⟩
      by_cases hjv : j ∈ vs
      · have ej' := backV_in hjv ej
        obtain ⟨b, q1, q2, q3, q4, _⟩ := R1.own j l' ej' nj
        obtain ⟨u, g, _⟩ := stays hjv ej' nj q1 q2 q4
        rw [q1]
        intro z
        cases z
        rw [g] at f1; cases f1
      · rw [backV_out hjv] at ej
        have := ap j l' hj ej nj
        rw [wipe_keep hjv] at this
        exact this
theorem Out.back {vs : List Nat} {D : Addr} (R1 : Rel K G ρ1 S1 σ H1) (hD : H1 D = none) (o : Out (regh (wipeV ρ1 vs) (L2.wipe σ vs) S1 H1) ρ S (L2.wipe σ vs) D) : Out G (backV ρ1 ρ vs) S σ D := by
  refine ⟨(R1.free hD).2, o.sto, fun ⟨i, l, e, nl, ea⟩ => ?_⟩
  by_cases hi : i ∈ vs
  · obtain ⟨a, e1, ow, _⟩ := R1.own i l (backV_in hi e) nl
    rw [ea] at e1; cases e1
    obtain ⟨u, hu, _⟩ := ow.tracked
    rw [hD] at hu; cases hu
  · rw [backV_out hi] at e
    exact o.own ⟨i, l, e, nl, by rw [wipe_keep hi]; exact ea⟩
end
section
variable {c : Cfg} {Φ : Phi} {n : Nat} {xr : XR} {X : Cx} {W : WX}
abbrev WF : WX := fun _ _ _ _ => False
theorem CxOk.blk (o : CxOk c Φ n xr X W) (scope : Scope) (s : Shared) (H : Hp) (C : Addr) (cl : List (Str × Addr)) (fp : List Addr) : CxOk (c.blk scope) Φ n xr (X.blk s H scope (compEnvC scope cl C X.env) fp) WF where
  N := o.N
  nd := o.nd
  sc := by
    show relS scope X.env.scope = relS scope c.sc
    rw [o.sc]
  fn := fun _ h => h
  calm := o.calm
  room := o.room
  gd := o.gd
  tk := fun _ _ ⟨_, _, _, _, _, _, _, _, _, _, _, _, _, _, _, _, w⟩ => w.elim
  sys := o.sys
  blt := o.blt
  cst := o.cst
  fns := fun x h => by
    obtain ⟨f, fd, ps, F⟩ := o.fns x h
    exact ⟨f, fd, ps, F.mg, F.keep, F.binds, F.len, F.runs⟩
  exs := o.exs
  err := o.err
theorem drop_cons {α : Type} {xs : List α} {i : Nat} (h : i < xs.length) : ∃ x, xs[i]? = some x ∧ xs.drop i = x :: xs.drop (i + 1) := ⟨xs[i], List.getElem?_eq_getElem h, List.drop_eq_getElem_cons h⟩
/-- the turns of a comprehension: fin: what the end is to give -/
theorem comp_go {own : List Nat} {tg : Tg} {cs : List Te} {e : Ex} {tt : TT} {K : PySem.W.Frag} (htt : ∀ σ H Q, rTA Φ xr WF K cs σ H Q → tt σ H Q) {gd : Gd} {xs : List PyData} {ρ1 : VE} {S1 : Sto} {σ : L2.St} {H1 : Hp} {G : Gh} {J : It} {Q : VK} {P : List PyData → VE → Sto → Prop} {D : Addr}
    (ht : tgIn tg own = true) (R1 : Rel K G ρ1 S1 σ H1) (src : Src K J xs (fun H2 => Le H1 H2 ∧ gdH K H2 gd)) (hD : H1 D = none) (w : compW own tg (wpTAnd Φ noE cs) (wpE Φ noE e) gd xs [] (wipeV ρ1 own) S1 P)
    (fin : ∀ ys vs ρ S H, P ys ρ S → Rel K (regh (wipeV ρ1 own) (wipe σ own) S1 H1) ρ S (wipe σ own) H → Out (regh (wipeV ρ1 own) (wipe σ own) S1 H1) ρ S (wipe σ own) D → H D = some (.lst vs) → Reps K H ys vs → Le H1 H → Q (.ref D) H) :
    ∃ Wt : Nat → Nat → Hp → Prop, (∃ m, Wt 0 m (upd H1 D (.lst []))) ∧ ∀ i m H, Wt i m H →
      (J.stop i H ∧ Q (.ref D) H) ∨ (J.go i H ∧ ∃ Nx : Hp → Prop, (∀ H', Nx H' → ∃ m', m' < m ∧ Wt (i + 1) m' H') ∧ ∀ x H', J.yld i H x H' → gTg K tg x (wipe σ own) H' fun σ2 H2 => wipe σ2 own = wipe σ own ∧ tt σ2 H2 fun b H3 =>
        if b = true then rE Φ xr WF K e σ2 H3 fun y H4 => ∃ acc, H4 D = some (.lst acc) ∧ acc.length < sizeLine ∧ Nx (upd H4 D (.lst (acc ++ [y]))) else Nx H3) := by
  have Rw := R1.wipe own
  have oD : Out (regh (wipeV ρ1 own) (wipe σ own) S1 H1) (wipeV ρ1 own) S1 (wipe σ own) D := by
    have q := Rw.outNew hD
    refine ⟨?_, q.sto, q.own⟩
    rw [regh_of q.own]
    exact hD
  generalize hG : regh (wipeV ρ1 own) (wipe σ own) S1 H1 = G1 at fin oD
  have RG : Rel K G1 (wipeV ρ1 own) S1 (wipe σ own) H1 := by rw [← hG]; exact Rw.reg
  refine ⟨fun i m H => m = xs.length - i ∧ i ≤ xs.length ∧ ∃ ρ S acc vs, Rel K G1 ρ S (wipe σ own) H ∧ Out G1 ρ S (wipe σ own) D ∧ H D = some (.lst vs) ∧ Reps K H acc vs ∧ Le H1 H ∧ compW own tg (wpTAnd Φ noE cs) (wpE Φ noE e) gd (xs.drop i) acc ρ S P,
    ⟨xs.length, rfl, Nat.zero_le _, _, S1, [], [], RG.ext (Same.upd hD), oD, upd_same, Reps.nil, Le.new hD, w⟩, ?_⟩
  rintro i m H ⟨rfl, hi, ρ, S, acc, vs, R, o, hd, rr, le, w⟩
  have ok : ∀ {gd : Gd}, Gd.ok S gd → gdH K H gd := fun {gd} h => by
    cases gd with
    | none => trivial
    | some p => exact R.sto p.1 _ h
  by_cases hlt : i < xs.length
  · obtain ⟨x, ex, dx⟩ := drop_cons hlt
    rw [dx] at w
    obtain ⟨wg, wl, w⟩ := w
    refine .inr ⟨src.goes i H hlt ⟨le, ok wg⟩, fun H' => ∃ ρ S acc vs, Rel K G1 ρ S (wipe σ own) H' ∧ Out G1 ρ S (wipe σ own) D ∧ H' D = some (.lst vs) ∧ Reps K H' acc vs ∧ Le H1 H' ∧ compW own tg (wpTAnd Φ noE cs) (wpE Φ noE e) gd (xs.drop (i + 1)) acc ρ S P,
      fun H' h => ⟨xs.length - (i + 1), by omega, rfl, hlt, h⟩, fun u H' y => ?_⟩
    obtain ⟨sm, d, ed, rv⟩ : Same H H' ∧ ∃ d, xs[i]? = some d ∧ Rep K H' d u := by
      obtain ⟨z1, z2⟩ := src.yields i H u H' x ex ⟨le, ok wg⟩ y
      exact ⟨z1, x, ex, z2⟩
    rw [ex] at ed
    cases ed
    have R' := R.ext sm
    have hd' := sm _ _ hd
    have le' := le.trans (Le.of_same sm)
    refine tg_sound (G := regh ρ (wipe σ own) S H') R'.reg rv w fun ρ2 σ2 R2 w2 hw => ?_
    have e2 : wipe σ2 own = wipe σ own := by
      rw [hw own ht]
      have : ∀ (ws us : List Nat) (τ : L2.St), (∀ k ∈ us, k ∈ ws) → wipe (wipe τ us) ws = wipe τ ws := by
        intro ws us τ
        induction us with
        | nil => intro _; rfl
        | cons k us ih =>
          intro h
          show wipe ((wipe τ us).set k none) ws = _
          rw [wipe_set (h k List.mem_cons_self), ih fun j hj => h j (List.mem_cons_of_mem _ hj)]
      exact this own own σ fun _ h => h
    refine ⟨e2, htt _ _ _ ⟨_, ρ2, S, noE, _, R2, w2, fun b ρ3 S3 b' H3 w3 R3 eb l3 => ?_, fun _ _ _ _ _ _ z => z.elim⟩⟩
    have eb : b = b' := eb
    subst eb
    have again : ∀ {ρ4 : VE} {S4 : Sto} {H4 : Hp} {acc' : List PyData} {vs' : List V}, Rel K G1 ρ4 S4 σ2 H4 → Out G1 ρ4 S4 σ2 D → H4 D = some (.lst vs') → Reps K H4 acc' vs' → Le H1 H4 → compW own tg (wpTAnd Φ noE cs) (wpE Φ noE e) gd (xs.drop (i + 1)) acc' (wipeV ρ4 own) S4 P →
        ∃ ρ S acc vs, Rel K G1 ρ S (wipe σ own) H4 ∧ Out G1 ρ S (wipe σ own) D ∧ H4 D = some (.lst vs) ∧ Reps K H4 acc vs ∧ Le H1 H4 ∧ compW own tg (wpTAnd Φ noE cs) (wpE Φ noE e) gd (xs.drop (i + 1)) acc ρ S P := fun {ρ4 S4 H4 acc' vs'} R4 o4 h4 r4 l4 w4 => by
      have q1 := R4.wipe own
      have q2 := o4.wipe own
      rw [e2] at q1 q2
      exact ⟨_, _, _, _, q1, q2, h4, r4, l4, w4⟩
    cases b with
    | false =>
      dsimp only
      rw [if_neg Bool.false_ne_true] at w3 ⊢
      obtain ⟨o3, h3⟩ := R'.outBack R3 hd' o
      exact again (R'.back R3) o3 h3 (Reps.le ((Le.of_same sm).trans l3) _ rr) (le'.trans l3) w3
    | true =>
      dsimp only
      rw [if_pos rfl] at w3 ⊢
      refine ⟨_, ρ3, S3, noE, _, R3, w3, fun v ρ4 S4 y H4 w4 R4 rv4 l4 => ?_, fun _ _ _ _ _ _ z => z.elim⟩
      obtain ⟨yd, rfl, w4⟩ := isD_of w4
      have rv4 : Rep K H4 yd y := rv4
      obtain ⟨o4, h4⟩ := R'.outBack R4 hd' o
      have rr4 : Reps K H4 acc vs := Reps.le (((Le.of_same sm).trans l3).trans l4) _ rr
      refine ⟨vs, h4, by rw [rr.length]; exact wl, ?_⟩
      have lm : Le H4 (upd H4 D (.lst (vs ++ [y]))) := Le.mut h4 trivial
      exact again ((R'.back R4).bump h4 trivial o4) o4 upd_same ((Reps.le lm _ rr4).append (es := [yd]) ⟨y, [], rfl, Rep.le lm _ rv4, rfl⟩) (((le'.trans l3).trans l4).trans lm) w4
  · have e : i = xs.length := by omega
    subst e
    rw [List.drop_length] at w
    obtain ⟨wg, w⟩ := w
    refine .inl ⟨src.stops H ⟨le, ok wg⟩, fin acc vs ρ S H w ?_ o hd rr le⟩
    exact R
/-- .. from a list that has items -/
theorem comp_goG {own : List Nat} {tg : Tg} {cs : List Te} {e : Ex} {tt : TT} {K : PySem.W.Frag} (htt : ∀ σ H Q, rTA Φ xr WF K cs σ H Q → tt σ H Q) {gd : Gd} {xs : List PyData} {ρ0 : VE} {S0 : Sto} {σ : L2.St} {H1 H0 : Hp} {G1 : Gh} {J : It} {Z : Hp → Prop} {acc0 : List PyData} {vs0 : List V} {P : List PyData → VE → Sto → Prop} {D : Addr}
    (ht : tgIn tg own = true) (R0 : Rel K G1 ρ0 S0 (wipe σ own) H0) (o0 : Out G1 ρ0 S0 (wipe σ own) D) (h0 : H0 D = some (.lst vs0)) (r0 : Reps K H0 acc0 vs0) (l0 : Le H1 H0) (src : Src K J xs (fun H2 => Le H1 H2 ∧ gdH K H2 gd)) (w : compW own tg (wpTAnd Φ noE cs) (wpE Φ noE e) gd xs acc0 ρ0 S0 P)
    (fin : ∀ ys vs ρ S H, P ys ρ S → Rel K G1 ρ S (wipe σ own) H → Out G1 ρ S (wipe σ own) D → H D = some (.lst vs) → Reps K H ys vs → Le H1 H → Z H) :
    ∃ Wt : Nat → Nat → Hp → Prop, (∃ m, Wt 0 m H0) ∧ ∀ i m H, Wt i m H →
      (J.stop i H ∧ Z H) ∨ (J.go i H ∧ ∃ Nx : Hp → Prop, (∀ H', Nx H' → ∃ m', m' < m ∧ Wt (i + 1) m' H') ∧ ∀ x H', J.yld i H x H' → gTg K tg x (wipe σ own) H' fun σ2 H2 => wipe σ2 own = wipe σ own ∧ tt σ2 H2 fun b H3 =>
        if b = true then rE Φ xr WF K e σ2 H3 fun y H4 => ∃ acc, H4 D = some (.lst acc) ∧ acc.length < sizeLine ∧ Nx (upd H4 D (.lst (acc ++ [y]))) else Nx H3) := by
  refine ⟨fun i m H => m = xs.length - i ∧ i ≤ xs.length ∧ ∃ ρ S acc vs, Rel K G1 ρ S (wipe σ own) H ∧ Out G1 ρ S (wipe σ own) D ∧ H D = some (.lst vs) ∧ Reps K H acc vs ∧ Le H1 H ∧ compW own tg (wpTAnd Φ noE cs) (wpE Φ noE e) gd (xs.drop i) acc ρ S P,
    ⟨xs.length, rfl, Nat.zero_le _, _, S0, acc0, vs0, R0, o0, h0, r0, l0, w⟩, ?_⟩
  rintro i m H ⟨rfl, hi, ρ, S, acc, vs, R, o, hd, rr, le, w⟩
  have ok : ∀ {gd : Gd}, Gd.ok S gd → gdH K H gd := fun {gd} h => by
    cases gd with
    | none => trivial
    | some p => exact R.sto p.1 _ h
  by_cases hlt : i < xs.length
  · obtain ⟨x, ex, dx⟩ := drop_cons hlt
    rw [dx] at w
    obtain ⟨wg, wl, w⟩ := w
    refine .inr ⟨src.goes i H hlt ⟨le, ok wg⟩, fun H' => ∃ ρ S acc vs, Rel K G1 ρ S (wipe σ own) H' ∧ Out G1 ρ S (wipe σ own) D ∧ H' D = some (.lst vs) ∧ Reps K H' acc vs ∧ Le H1 H' ∧ compW own tg (wpTAnd Φ noE cs) (wpE Φ noE e) gd (xs.drop (i + 1)) acc ρ S P,
      fun H' h => ⟨xs.length - (i + 1), by omega, rfl, hlt, h⟩, fun u H' y => ?_⟩
    obtain ⟨sm, d, ed, rv⟩ : Same H H' ∧ ∃ d, xs[i]? = some d ∧ Rep K H' d u := by
      obtain ⟨z1, z2⟩ := src.yields i H u H' x ex ⟨le, ok wg⟩ y
      exact ⟨z1, x, ex, z2⟩
    rw [ex] at ed
    cases ed
    have R' := R.ext sm
    have hd' := sm _ _ hd
    have le' := le.trans (Le.of_same sm)
    refine tg_sound (G := regh ρ (wipe σ own) S H') R'.reg rv w fun ρ2 σ2 R2 w2 hw => ?_
    have e2 : wipe σ2 own = wipe σ own := by
      rw [hw own ht]
      have : ∀ (ws us : List Nat) (τ : L2.St), (∀ k ∈ us, k ∈ ws) → wipe (wipe τ us) ws = wipe τ ws := by
        intro ws us τ
        induction us with
        | nil => intro _; rfl
        | cons k us ih =>
          intro h
          show wipe ((wipe τ us).set k none) ws = _
          rw [wipe_set (h k List.mem_cons_self), ih fun j hj => h j (List.mem_cons_of_mem _ hj)]
      exact this own own σ fun _ h => h
    refine ⟨e2, htt _ _ _ ⟨_, ρ2, S, noE, _, R2, w2, fun b ρ3 S3 b' H3 w3 R3 eb l3 => ?_, fun _ _ _ _ _ _ z => z.elim⟩⟩
    have eb : b = b' := eb
    subst eb
    have again : ∀ {ρ4 : VE} {S4 : Sto} {H4 : Hp} {acc' : List PyData} {vs' : List V}, Rel K G1 ρ4 S4 σ2 H4 → Out G1 ρ4 S4 σ2 D → H4 D = some (.lst vs') → Reps K H4 acc' vs' → Le H1 H4 → compW own tg (wpTAnd Φ noE cs) (wpE Φ noE e) gd (xs.drop (i + 1)) acc' (wipeV ρ4 own) S4 P →
        ∃ ρ S acc vs, Rel K G1 ρ S (wipe σ own) H4 ∧ Out G1 ρ S (wipe σ own) D ∧ H4 D = some (.lst vs) ∧ Reps K H4 acc vs ∧ Le H1 H4 ∧ compW own tg (wpTAnd Φ noE cs) (wpE Φ noE e) gd (xs.drop (i + 1)) acc ρ S P := fun {ρ4 S4 H4 acc' vs'} R4 o4 h4 r4 l4 w4 => by
      have q1 := R4.wipe own
      have q2 := o4.wipe own
      rw [e2] at q1 q2
      exact ⟨_, _, _, _, q1, q2, h4, r4, l4, w4⟩
    cases b with
    | false =>
      dsimp only
      rw [if_neg Bool.false_ne_true] at w3 ⊢
      obtain ⟨o3, h3⟩ := R'.outBack R3 hd' o
      exact again (R'.back R3) o3 h3 (Reps.le ((Le.of_same sm).trans l3) _ rr) (le'.trans l3) w3
    | true =>
      dsimp only
      rw [if_pos rfl] at w3 ⊢
      refine ⟨_, ρ3, S3, noE, _, R3, w3, fun v ρ4 S4 y H4 w4 R4 rv4 l4 => ?_, fun _ _ _ _ _ _ z => z.elim⟩
      obtain ⟨yd, rfl, w4⟩ := isD_of w4
      have rv4 : Rep K H4 yd y := rv4
      obtain ⟨o4, h4⟩ := R'.outBack R4 hd' o
      have rr4 : Reps K H4 acc vs := Reps.le (((Le.of_same sm).trans l3).trans l4) _ rr
      refine ⟨vs, h4, by rw [rr.length]; exact wl, ?_⟩
      have lm : Le H4 (upd H4 D (.lst (vs ++ [y]))) := Le.mut h4 trivial
      exact again ((R'.back R4).bump h4 trivial o4) o4 upd_same ((Reps.le lm _ rr4).append (es := [yd]) ⟨y, [], rfl, Rep.le lm _ rv4, rfl⟩) (((le'.trans l3).trans l4).trans lm) w4
  · have e : i = xs.length := by omega
    subst e
    rw [List.drop_length] at w
    obtain ⟨wg, w⟩ := w
    refine .inl ⟨src.stops H ⟨le, ok wg⟩, fin acc vs ρ S H w ?_ o hd rr le⟩
    exact R
variable {own : List (Str × Nat)} {tg : Tg} {sk : Sk} {as : List Ex} {cs : List Te} {w : Ex} {elt t it : Expr} {ifs : List Expr} {scope : Scope} {pos : Pos} {tt : TT}
/-- the end of a comprehension, told of its list -/
theorem comp_tLc {K : PySem.W.Frag} (htt : ∀ σ H Q, rTA Φ xr WF K cs σ H Q → tt σ H Q) (ht : tgIn tg (own.map (·.2)) = true) {σ : L2.St} {H : Hp} {Q : VK} {G : Gh} {ρ : VE} {S : Sto} {E : EK} {P : List PyData → VE → Sto → Prop} (R : Rel K G ρ S σ H) (ex : ExF K xr W G E σ H)
    (wp : wpAs Φ E as ρ S fun vs ρ1 S1 => srcP S1 sk vs fun xs gd => compW (own.map (·.2)) tg (wpTAnd Φ noE cs) (wpE Φ noE w) gd xs [] (wipeV ρ1 (own.map (·.2))) S1 fun ys ρ2 S2 => P ys (backV ρ1 ρ2 (own.map (·.2))) S2)
    (fin : ∀ ys ρ' S' H' D vs, P ys ρ' S' → Rel K G ρ' S' σ H' → Out G ρ' S' σ D → H' D = some (.lst vs) → Reps K H' ys vs → Le H H' → Q (.ref D) H') :
    tLc (rSrc Φ xr W K sk as) (gTg K tg) tt (rE Φ xr WF K w) (own.map (·.2)) σ H Q := by
  refine ⟨G, ρ, S, E, _, R, wp, fun xs gd ρ1 S1 H1 J p R1 src l1 D hD => ?_, ex⟩
  exact comp_go htt ht R1 src hD p fun ys vs ρ2 S2 H2 q R2 o hd rr l2 => fin ys _ _ H2 D vs q (R1.unwipe R2 l2) (o.back R1 hD) hd rr (l1.trans l2)
theorem nset_it {it : Expr} {env : Env} (h : nset it = true) : ∀ x, foldedSetIterable it env x = pure x := by
  intro x
  cases it <;> first | rfl | cases h
/-- what a comprehension needs of its parts -/
structure CompOk (c : Cfg) (Φ : Phi) (n : Nat) (xr : XR) (X : Cx) (W : WX) (own : List (Str × Nat)) (tg : Tg) (sk : Sk) (as : List Ex) (cs : List Te) (w : Ex) (elt t it : Expr) (ifs : List Expr) (scope : Scope) : Prop where
  blk : blkC c.N c.sc scope own = true
  tgt : tgB (c.blk scope) tg t = true
  tin : tgIn tg (own.map (·.2)) = true
  set : nset it = true
  few : cs.length ≤ 1
  len : ifs.length = cs.length
  src : PI X t it (rSrc Φ xr W X.K sk as)
  tests : ∀ X' W', CxOk (c.blk scope) Φ n xr X' W' → ∀ t e, cs = [t] → ifs = [e] → PT X' e (rT Φ xr W' X'.K t)
  elt : ∀ X' W', CxOk (c.blk scope) Φ n xr X' W' → PE X' elt (rE Φ xr W' X'.K w)
theorem compTT (o : CxOk c Φ n xr X W) (k : CompOk c Φ n xr X W own tg sk as cs w elt t it ifs scope) : ∃ tt, (∀ (s : Shared) (H : Hp) (C : Addr) (cl : List (Str × Addr)) (fp : List Addr), PTs (X.blk s H scope (compEnvC scope cl C X.env) fp) ifs tt) ∧ ∀ σ H Q, rTA Φ xr WF X.K cs σ H Q → tt σ H Q := by
  cases cs with
  | nil =>
    refine ⟨tYes, fun s H C cl fp => ?_, fun σ H Q ⟨G, ρ, S, E, P, R, wp, post, ex⟩ => post true _ _ true _ wp R rfl (Le.refl H)⟩
    have e : ifs = [] := List.eq_nil_of_length_eq_zero k.len
    rw [e]
    exact pts_nil
  | cons t' cs =>
    have e2 : cs = [] := by
      have := k.few
      simp at this
      exact this
    subst e2
    obtain ⟨e, rfl⟩ : ∃ e, ifs = [e] := by
      have := k.len
      match ifs, this with
      | [e], _ => exact ⟨e, rfl⟩
    refine ⟨rT Φ xr WF X.K t', fun s H C cl fp => pts_one (k.tests _ _ (o.blk scope s H C cl fp) t' e rfl rfl), fun σ H Q ⟨G, ρ, S, E, P, R, wp, post, ex⟩ => ⟨G, ρ, S, E, _, R, wp, fun k ρ1 S1 k' H1 p R1 e l1 => ?_, ex⟩⟩
    have e : k = k' := e
    subst e
    cases k with
    | true => exact post true _ _ _ _ (show P true ρ1 S1 by rw [if_pos rfl] at p; exact p) R1 rfl l1
    | false => exact post false _ _ _ _ (show P false ρ1 S1 by rw [if_neg Bool.false_ne_true] at p; exact p) R1 rfl l1
theorem snd_comp (o : CxOk c Φ n xr X W) (k : CompOk c Φ n xr X W own tg sk as cs w elt t it ifs scope) : PE X (.ListComp elt [⟨t, it, ifs, 0⟩] scope pos) (rE Φ xr W X.K (.comp own tg sk as cs w)) := by
  obtain ⟨tt, h1, h2⟩ := compTT o k
  have hb : BlkOk X.N X.env.scope scope own := by
    rw [o.N, o.sc]
    exact blkOk_by k.blk
  refine peI (pe_fz (pe_lc (te := rE Φ xr WF X.K w) (g := gTg X.K tg) o.calm (by rw [o.N]; exact o.nd) k.src hb (fun s H C cl fp => pg_tg (o.blk scope s H C cl fp) k.tgt) h1 (fun s H C cl fp => k.elt _ _ (o.blk scope s H C cl fp)) (nset_it k.set))) fun σ H Q ⟨G, ρ, S, E, P, R, wp, post, ex⟩ => ?_
  refine comp_tLc (P := fun ys => P (.d (.list ys))) h2 k.tin R ex wp fun ys ρ' S' H' D vs p R' f hd rr le => ⟨D, _, rfl, hd, trivial, fun ob => ?_⟩
  have lm : Le H' (upd H' D (.frz ob (.lst vs))) := Le.mut hd trivial
  exact post (.d (.list ys)) _ _ (.ref D) _ p (R'.bump hd trivial f) ⟨D, vs, rfl, ⟨ob, upd_same⟩, Reps.le lm _ rr⟩ (le.trans lm)
end
theorem Rel.adopt {K : PySem.W.Frag} {G : Gh} {ρ : VE} {S : Sto} {σ : L2.St} {H : Hp} {a : Addr} {q : SO} (R : Rel K G ρ S σ H) (f : Out G ρ S σ a) (h : RepO K H a q) : Rel K G ρ (sput S a q) σ H := by
  refine ⟨R.val, fun i l e n => ?_, fun b z e => ?_, R.old, fun b hb => ?_, fun b hb => ?_, R.len⟩
  · obtain ⟨b, e1, ob, f1, f2, ap⟩ := R.own i l e n
    have hb : b ≠ a := fun z => by subst z; exact f.own ⟨i, l, e, n, e1⟩
    exact ⟨b, e1, ob, f1, by rw [sput_ne hb]; exact f2, ap⟩
  · by_cases hb : b = a
    · subst hb
      rw [sput_same] at e
      cases e
      exact h
    · rw [sput_ne hb] at e
      exact R.sto b z e
  · by_cases hba : b = a
    · subst hba
      exact .inr f.gh
    · rw [sput_ne hba] at hb
      exact R.new b hb
  · by_cases hba : b = a
    · subst hba
      rw [sput_same]
      simp
    · rw [sput_ne hba]
      exact R.mon b hb
theorem snd_compS {c : Cfg} {Φ : Phi} {n : Nat} {xr : XR} {X : Cx} {W : WX} {own : List (Str × Nat)} {tg : Tg} {sk : Sk} {as : List Ex} {cs : List Te} {w : Ex} {elt t it : Expr} {ifs : List Expr} {scope : Scope} {pos : Pos}
    (o : CxOk c Φ n xr X W) (k : CompOk c Φ n xr X W own tg sk as cs w elt t it ifs scope) : PE X (.ListComp elt [⟨t, it, ifs, 0⟩] scope pos) (rE Φ xr W X.K (.compS own tg sk as cs w)) := by
  obtain ⟨tt, h1, h2⟩ := compTT o k
  have hb : BlkOk X.N X.env.scope scope own := by
    rw [o.N, o.sc]
    exact blkOk_by k.blk
  refine peI (pe_lc (te := rE Φ xr WF X.K w) (g := gTg X.K tg) o.calm (by rw [o.N]; exact o.nd) k.src hb (fun s H C cl fp => pg_tg (o.blk scope s H C cl fp) k.tgt) h1 (fun s H C cl fp => k.elt _ _ (o.blk scope s H C cl fp)) (nset_it k.set)) fun σ H Q ⟨G, ρ, S, E, P, R, wp, post, ex⟩ => ?_
  refine comp_tLc (P := fun ys ρ2 S2 => ∀ a, S2 a = none → P (.r a) ρ2 (sput S2 a (.lst ys))) h2 k.tin R ex wp fun ys ρ' S' H' D vs p R' f hd rr le => ?_
  exact post (.r D) _ _ (.ref D) _ (p D f.sto) (R'.adopt f ⟨vs, hd, rr⟩) rfl le
/-! ### dict comprehensions -/
theorem dcomp_go {Φ : Phi} {xr : XR} {own : List Nat} {tg : Tg} {cs : List Te} {ke e : Ex} {tt : TT} {K : PySem.W.Frag} (htt : ∀ σ H Q, rTA Φ xr WF K cs σ H Q → tt σ H Q) {gd : Gd} {xs : List PyData} {ρ1 : VE} {S1 : Sto} {σ : L2.St} {H1 : Hp} {G : Gh} {J : It} {Q : VK} {P : List (PyData × PyData) → VE → Sto → Prop} {D : Addr}
    (ht : tgIn tg own = true) (R1 : Rel K G ρ1 S1 σ H1) (src : Src K J xs (fun H2 => Le H1 H2 ∧ gdH K H2 gd)) (hD : H1 D = none) (w : dcompW own tg (wpTAnd Φ noE cs) (wpE Φ noE ke) (wpE Φ noE e) gd xs [] (wipeV ρ1 own) S1 P)
    (fin : ∀ ys ks ρ S H, P ys ρ S → Rel K (regh (wipeV ρ1 own) (wipe σ own) S1 H1) ρ S (wipe σ own) H → Out (regh (wipeV ρ1 own) (wipe σ own) S1 H1) ρ S (wipe σ own) D → H D = some (.dK ks) → RepK K H ys ks → Le H1 H → Q (.ref D) H) :
    ∃ Wt : Nat → Nat → Hp → Prop, (∃ m, Wt 0 m (upd H1 D (.dK []))) ∧ ∀ i m H, Wt i m H →
      (J.stop i H ∧ Q (.ref D) H) ∨ (J.go i H ∧ ∃ Nx : Hp → Prop, (∀ H', Nx H' → ∃ m', m' < m ∧ Wt (i + 1) m' H') ∧ ∀ x H', J.yld i H x H' → gTg K tg x (wipe σ own) H' fun σ2 H2 => wipe σ2 own = wipe σ own ∧ tt σ2 H2 fun b H3 =>
        if b = true then rE Φ xr WF K ke σ2 H3 fun y H4 => rE Φ xr WF K e σ2 H4 fun z H5 => ∃ kvs k, y = kV k ∧ H5 D = some (.dK kvs) ∧ kvs.length < sizeLine ∧ Nx (upd H5 D (.dK (putK kvs k z))) else Nx H3) := by
  have Rw := R1.wipe own
  have oD : Out (regh (wipeV ρ1 own) (wipe σ own) S1 H1) (wipeV ρ1 own) S1 (wipe σ own) D := by
    have q := Rw.outNew hD
    refine ⟨?_, q.sto, q.own⟩
    rw [regh_of q.own]
    exact hD
  generalize hG : regh (wipeV ρ1 own) (wipe σ own) S1 H1 = G1 at fin oD
  have RG : Rel K G1 (wipeV ρ1 own) S1 (wipe σ own) H1 := by rw [← hG]; exact Rw.reg
  refine ⟨fun i m H => m = xs.length - i ∧ i ≤ xs.length ∧ ∃ ρ S acc ks, Rel K G1 ρ S (wipe σ own) H ∧ Out G1 ρ S (wipe σ own) D ∧ H D = some (.dK ks) ∧ RepK K H acc ks ∧ Le H1 H ∧ dcompW own tg (wpTAnd Φ noE cs) (wpE Φ noE ke) (wpE Φ noE e) gd (xs.drop i) acc ρ S P,
    ⟨xs.length, rfl, Nat.zero_le _, _, S1, [], [], RG.ext (Same.upd hD), oD, upd_same, RepK.nil, Le.new hD, w⟩, ?_⟩
  rintro i m H ⟨rfl, hi, ρ, S, acc, ks, R, o, hd, rr, le, w⟩
  have ok : ∀ {gd : Gd}, Gd.ok S gd → gdH K H gd := fun {gd} h => by
    cases gd with
    | none => trivial
    | some p => exact R.sto p.1 _ h
  by_cases hlt : i < xs.length
  · obtain ⟨x, ex, dx⟩ := drop_cons hlt
    rw [dx] at w
    obtain ⟨wg, wl, w⟩ := w
    refine .inr ⟨src.goes i H hlt ⟨le, ok wg⟩, fun H' => ∃ ρ S acc ks, Rel K G1 ρ S (wipe σ own) H' ∧ Out G1 ρ S (wipe σ own) D ∧ H' D = some (.dK ks) ∧ RepK K H' acc ks ∧ Le H1 H' ∧ dcompW own tg (wpTAnd Φ noE cs) (wpE Φ noE ke) (wpE Φ noE e) gd (xs.drop (i + 1)) acc ρ S P,
      fun H' h => ⟨xs.length - (i + 1), by omega, rfl, hlt, h⟩, fun u H' y => ?_⟩
    obtain ⟨sm, d, ed, rv⟩ : Same H H' ∧ ∃ d, xs[i]? = some d ∧ Rep K H' d u := by
      obtain ⟨z1, z2⟩ := src.yields i H u H' x ex ⟨le, ok wg⟩ y
      exact ⟨z1, x, ex, z2⟩
    rw [ex] at ed
    cases ed
    have R' := R.ext sm
    have hd' := sm _ _ hd
    have le' := le.trans (Le.of_same sm)
    refine tg_sound (G := regh ρ (wipe σ own) S H') R'.reg rv w fun ρ2 σ2 R2 w2 hw => ?_
    have e2 : wipe σ2 own = wipe σ own := by
      rw [hw own ht]
      have : ∀ (ws us : List Nat) (τ : L2.St), (∀ k ∈ us, k ∈ ws) → wipe (wipe τ us) ws = wipe τ ws := by
        intro ws us τ
        induction us with
        | nil => intro _; rfl
        | cons k us ih =>
          intro h
          show wipe ((wipe τ us).set k none) ws = _
          rw [wipe_set (h k List.mem_cons_self), ih fun j hj => h j (List.mem_cons_of_mem _ hj)]
      exact this own own σ fun _ h => h
    refine ⟨e2, htt _ _ _ ⟨_, ρ2, S, noE, _, R2, w2, fun b ρ3 S3 b' H3 w3 R3 eb l3 => ?_, fun _ _ _ _ _ _ z => z.elim⟩⟩
    have eb : b = b' := eb
    subst eb
    have again : ∀ {ρ4 : VE} {S4 : Sto} {H4 : Hp} {acc' : List (PyData × PyData)} {ks' : List (Key × V)}, Rel K G1 ρ4 S4 σ2 H4 → Out G1 ρ4 S4 σ2 D → H4 D = some (.dK ks') → RepK K H4 acc' ks' → Le H1 H4 → dcompW own tg (wpTAnd Φ noE cs) (wpE Φ noE ke) (wpE Φ noE e) gd (xs.drop (i + 1)) acc' (wipeV ρ4 own) S4 P →
        ∃ ρ S acc ks, Rel K G1 ρ S (wipe σ own) H4 ∧ Out G1 ρ S (wipe σ own) D ∧ H4 D = some (.dK ks) ∧ RepK K H4 acc ks ∧ Le H1 H4 ∧ dcompW own tg (wpTAnd Φ noE cs) (wpE Φ noE ke) (wpE Φ noE e) gd (xs.drop (i + 1)) acc ρ S P := fun {ρ4 S4 H4 acc' ks'} R4 o4 h4 r4 l4 w4 => by
      have q1 := R4.wipe own
      have q2 := o4.wipe own
      rw [e2] at q1 q2
      exact ⟨_, _, _, _, q1, q2, h4, r4, l4, w4⟩
    cases b with
    | false =>
      dsimp only
      rw [if_neg Bool.false_ne_true] at w3 ⊢
      obtain ⟨o3, h3⟩ := R'.outBack R3 hd' o
      exact again (R'.back R3) o3 h3 (RepK.le ((Le.of_same sm).trans l3) _ rr) (le'.trans l3) w3
    | true =>
      dsimp only
      rw [if_pos rfl] at w3 ⊢
      refine ⟨_, ρ3, S3, noE, _, R3, w3, fun v ρ4 S4 y H4 w4 R4 rv4 l4 => ?_, fun _ _ _ _ _ _ z => z.elim⟩
      obtain ⟨kd, rfl, hk, w4⟩ := isD_of w4
      have rv4 : Rep K H4 kd y := rv4
      refine ⟨_, ρ4, S4, noE, _, R4, w4, fun v ρ5 S5 z H5 w5 R5 rv5 l5 => ?_, fun _ _ _ _ _ _ z => z.elim⟩
      obtain ⟨yd, rfl, w5⟩ := isD_of w5
      have rv5 : Rep K H5 yd z := rv5
      obtain ⟨key, ek, rfl⟩ := keyD_rep' hk rv4
      obtain ⟨o5, h5⟩ := R'.outBack R5 hd' o
      have rr5 : RepK K H5 acc ks := RepK.le ((((Le.of_same sm).trans l3).trans l4).trans l5) _ rr
      refine ⟨ks, key, rfl, h5, by rw [RepK.length rr]; exact wl, ?_⟩
      have lm : Le H5 (upd H5 D (.dK (putK ks key z))) := Le.mut h5 trivial
      exact again ((R'.back R5).bump h5 trivial o5) o5 upd_same (RepK.le lm _ (repK_put' ek rv5 rr5)) ((((le'.trans l3).trans l4).trans l5).trans lm) w5
  · have e : i = xs.length := by omega
    subst e
    rw [List.drop_length] at w
    obtain ⟨wg, w⟩ := w
    exact .inl ⟨src.stops H ⟨le, ok wg⟩, fin acc ks ρ S H w R o hd rr le⟩
section
variable {c : Cfg} {Φ : Phi} {n : Nat} {xr : XR} {X : Cx} {W : WX} {own : List (Str × Nat)} {tg : Tg} {sk : Sk} {as : List Ex} {cs : List Te} {ke w : Ex} {kx elt t it : Expr} {ifs : List Expr} {scope : Scope} {pos : Pos} {tt : TT}
theorem dcomp_tDc {K : PySem.W.Frag} (htt : ∀ σ H Q, rTA Φ xr WF K cs σ H Q → tt σ H Q) (ht : tgIn tg (own.map (·.2)) = true) {σ : L2.St} {H : Hp} {Q : VK} {G : Gh} {ρ : VE} {S : Sto} {E : EK} {P : List (PyData × PyData) → VE → Sto → Prop} (R : Rel K G ρ S σ H) (ex : ExF K xr W G E σ H)
    (wp : wpAs Φ E as ρ S fun vs ρ1 S1 => srcP S1 sk vs fun xs gd => dcompW (own.map (·.2)) tg (wpTAnd Φ noE cs) (wpE Φ noE ke) (wpE Φ noE w) gd xs [] (wipeV ρ1 (own.map (·.2))) S1 fun ys ρ2 S2 => P ys (backV ρ1 ρ2 (own.map (·.2))) S2)
    (fin : ∀ ys ρ' S' H' D ks, P ys ρ' S' → Rel K G ρ' S' σ H' → Out G ρ' S' σ D → H' D = some (.dK ks) → RepK K H' ys ks → Le H H' → Q (.ref D) H') :
    tDc (rSrc Φ xr W K sk as) (gTg K tg) tt (rE Φ xr WF K ke) (rE Φ xr WF K w) (own.map (·.2)) σ H Q := by
  refine ⟨G, ρ, S, E, _, R, wp, fun xs gd ρ1 S1 H1 J p R1 src l1 D hD => ?_, ex⟩
  exact dcomp_go htt ht R1 src hD p fun ys ks ρ2 S2 H2 q R2 o hd rr l2 => fin ys _ _ H2 D ks q (R1.unwipe R2 l2) (o.back R1 hD) hd rr (l1.trans l2)
theorem pe_dcomp (o : CxOk c Φ n xr X W) (k : CompOk c Φ n xr X W own tg sk as cs w elt t it ifs scope) (kk : ∀ X' W', CxOk (c.blk scope) Φ n xr X' W' → PE X' kx (rE Φ xr W' X'.K ke)) : ∃ tt, PE X (.DictComp kx elt [⟨t, it, ifs, 0⟩] scope pos) (tDc (rSrc Φ xr W X.K sk as) (gTg X.K tg) tt (rE Φ xr WF X.K ke) (rE Φ xr WF X.K w) (own.map (·.2))) ∧
    ∀ σ H Q, rTA Φ xr WF X.K cs σ H Q → tt σ H Q := by
  obtain ⟨tt, h1, h2⟩ := compTT o k
  have hb : BlkOk X.N X.env.scope scope own := by
    rw [o.N, o.sc]
    exact blkOk_by k.blk
  exact ⟨tt, pe_dc (tk := rE Φ xr WF X.K ke) (tv := rE Φ xr WF X.K w) (g := gTg X.K tg) o.calm (by rw [o.N]; exact o.nd) k.src hb (fun s H C cl fp => pg_tg (o.blk scope s H C cl fp) k.tgt) h1 (fun s H C cl fp => kk _ _ (o.blk scope s H C cl fp)) (fun s H C cl fp => k.elt _ _ (o.blk scope s H C cl fp)) (nset_it k.set), h2⟩
theorem snd_dcomp (o : CxOk c Φ n xr X W) (k : CompOk c Φ n xr X W own tg sk as cs w elt t it ifs scope) (kk : ∀ X' W', CxOk (c.blk scope) Φ n xr X' W' → PE X' kx (rE Φ xr W' X'.K ke)) : PE X (.DictComp kx elt [⟨t, it, ifs, 0⟩] scope pos) (rE Φ xr W X.K (.dcomp own tg sk as cs ke w)) := by
  obtain ⟨tt, pd, h2⟩ := pe_dcomp (pos := pos) o k kk
  refine peI (pe_fz pd) fun σ H Q ⟨G, ρ, S, E, P, R, wp, post, ex⟩ => ?_
  refine dcomp_tDc (P := fun ys ρ2 S2 => P (.d (.dict ys)) ρ2 S2) h2 k.tin R ex wp fun ys ρ' S' H' D ks p R' f hd rr le => ?_
  refine ⟨D, _, rfl, hd, trivial, fun ob => ?_⟩
  have lm : Le H' (upd H' D (.frz ob (.dK ks))) := Le.mut hd trivial
  exact post (.d (.dict ys)) _ _ (.ref D) _ p (R'.bump hd trivial f) (.inl ⟨D, ks, rfl, ⟨ob, upd_same⟩, RepK.le lm _ rr⟩) (le.trans lm)
theorem snd_dcompS (o : CxOk c Φ n xr X W) (k : CompOk c Φ n xr X W own tg sk as cs w elt t it ifs scope) (kk : ∀ X' W', CxOk (c.blk scope) Φ n xr X' W' → PE X' kx (rE Φ xr W' X'.K ke)) : PE X (.DictComp kx elt [⟨t, it, ifs, 0⟩] scope pos) (rE Φ xr W X.K (.dcompS own tg sk as cs ke w)) := by
  obtain ⟨tt, pd, h2⟩ := pe_dcomp (pos := pos) o k kk
  refine peI pd fun σ H Q ⟨G, ρ, S, E, P, R, wp, post, ex⟩ => ?_
  refine dcomp_tDc (P := fun ys ρ2 S2 => ∀ a, S2 a = none → P (.r a) ρ2 (sput S2 a (.dic ys))) h2 k.tin R ex wp fun ys ρ' S' H' D ks p R' f hd rr le => ?_
  exact post (.r D) _ _ (.ref D) _ (p D f.sto) (R'.adopt f ⟨ks, hd, rr⟩) rfl le
end
/-! ### all expressions -/
theorem and_of {a b : Bool} (h : (a && b) = true) : a = true ∧ b = true := by rwa [Bool.and_eq_true] at h
theorem chkAs_len {c : Cfg} : ∀ {as : List Ex} {es : List Expr}, chkAs c as es = true → as.length = es.length
  | [], [], _ => rfl
  | a :: as, e :: es, h => by
    have h : (chkE c a e && chkAs c as es) = true := h
    rw [List.length_cons, List.length_cons, chkAs_len (and_of h).2]
  | [], _ :: _, h => nomatch h
  | _ :: _, [], h => nomatch h
theorem chkTs_len {c : Cfg} : ∀ {as : List Te} {es : List Expr}, chkTs c as es = true → as.length = es.length
  | [], [], _ => rfl
  | a :: as, e :: es, h => by
    have h : (chkT c a e && chkTs c as es) = true := h
    rw [List.length_cons, List.length_cons, chkTs_len (and_of h).2]
  | [], _ :: _, h => nomatch h
  | _ :: _, [], h => nomatch h
end Lk
/-! DX: a comprehension of two sources; sep.join(list). -/
namespace Lk
open PySem PySem.Spec PyProof.Rows L2
theorem wipe_wipe {us ws : List Nat} {τ : L2.St} (h : ∀ k ∈ us, k ∈ ws) : wipe (wipe τ us) ws = wipe τ ws := by
  induction us with
  | nil => rfl
  | cons k us ih =>
    show wipe ((wipe τ us).set k none) ws = _
    rw [wipe_set (h k List.mem_cons_self), ih fun j hj => h j (List.mem_cons_of_mem _ hj)]
section
variable {Φ : Phi} {xr : XR}
theorem comp2_go {own own1 : List Nat} {tg tg1 : Tg} {cs cs1 : List Te} {sk1 : Sk} {as1 : List Ex} {e : Ex} {tt tt1 : TT} {K : PySem.W.Frag} (htt : ∀ σ H Q, rTA Φ xr WF K cs σ H Q → tt σ H Q) (htt1 : ∀ σ H Q, rTA Φ xr WF K cs1 σ H Q → tt1 σ H Q) {gd : Gd} {xs : List PyData} {ρ1 : VE} {S1 : Sto} {σ : L2.St} {H1 : Hp} {G : Gh} {J : It} {Q : VK} {P : List PyData → VE → Sto → Prop} {D : Addr}
    (ht : tgIn tg own = true) (ht1 : tgIn tg1 own1 = true) (hsub : ∀ k ∈ own1, k ∈ own) (R1 : Rel K G ρ1 S1 σ H1) (src : Src K J xs (fun H2 => Le H1 H2 ∧ gdH K H2 gd)) (hD : H1 D = none)
    (w : comp2W own tg (wpTAnd Φ noE cs) (fun ρ S K => wpAs Φ noE as1 ρ S fun vs ρ1 S1 => srcP S1 sk1 vs fun ys gd1 => K ys gd1 ρ1 S1) own1 tg1 (wpTAnd Φ noE cs1) (wpE Φ noE e) gd xs [] (wipeV ρ1 own) S1 P)
    (fin : ∀ ys vs ρ S H, P ys ρ S → Rel K (regh (wipeV ρ1 own) (wipe σ own) S1 H1) ρ S (wipe σ own) H → Out (regh (wipeV ρ1 own) (wipe σ own) S1 H1) ρ S (wipe σ own) D → H D = some (.lst vs) → Reps K H ys vs → Le H1 H → Q (.ref D) H) :
    ∃ Wt : Nat → Nat → Hp → Prop, (∃ m, Wt 0 m (upd H1 D (.lst []))) ∧ ∀ i m H, Wt i m H →
      (J.stop i H ∧ Q (.ref D) H) ∨ (J.go i H ∧ ∃ Nx : Hp → Prop, (∀ H', Nx H' → ∃ m', m' < m ∧ Wt (i + 1) m' H') ∧ ∀ x H', J.yld i H x H' → gTg K tg x (wipe σ own) H' fun σ2 H2 => wipe σ2 own = wipe σ own ∧ tt σ2 H2 fun b H3 =>
        if b = true then rSrc Φ xr WF K sk1 as1 σ2 H3 fun J1 H4 => ∃ W1 : Nat → Nat → Hp → Prop, (∃ m, W1 0 m H4) ∧ ∀ j k H, W1 j k H →
          (J1.stop j H ∧ Nx H) ∨ (J1.go j H ∧ ∃ Nx1 : Hp → Prop, (∀ H', Nx1 H' → ∃ k', k' < k ∧ W1 (j + 1) k' H') ∧ ∀ x H', J1.yld j H x H' → gTg K tg1 x (wipe σ2 own1) H' fun σ3 H5 => wipe σ3 own1 = wipe σ2 own1 ∧ tt1 σ3 H5 fun b H6 =>
            if b = true then rE Φ xr WF K e σ3 H6 fun y H7 => ∃ acc, H7 D = some (.lst acc) ∧ acc.length < sizeLine ∧ Nx1 (upd H7 D (.lst (acc ++ [y]))) else Nx1 H6)
        else Nx H3) := by
  have Rw := R1.wipe own
  have oD : Out (regh (wipeV ρ1 own) (wipe σ own) S1 H1) (wipeV ρ1 own) S1 (wipe σ own) D := by
    have q := Rw.outNew hD
    refine ⟨?_, q.sto, q.own⟩
    rw [regh_of q.own]
    exact hD
  generalize hG : regh (wipeV ρ1 own) (wipe σ own) S1 H1 = G1 at fin oD
  have RG : Rel K G1 (wipeV ρ1 own) S1 (wipe σ own) H1 := by rw [← hG]; exact Rw.reg
  generalize hs1 : (fun (ρ : VE) (S : Sto) (K : List PyData → Gd → VE → Sto → Prop) => wpAs Φ noE as1 ρ S fun vs ρ1 S1 => srcP S1 sk1 vs fun ys gd1 => K ys gd1 ρ1 S1) = src1 at w
  refine ⟨fun i m H => m = xs.length - i ∧ i ≤ xs.length ∧ ∃ ρ S acc vs, Rel K G1 ρ S (wipe σ own) H ∧ Out G1 ρ S (wipe σ own) D ∧ H D = some (.lst vs) ∧ Reps K H acc vs ∧ Le H1 H ∧ comp2W own tg (wpTAnd Φ noE cs) src1 own1 tg1 (wpTAnd Φ noE cs1) (wpE Φ noE e) gd (xs.drop i) acc ρ S P,
    ⟨xs.length, rfl, Nat.zero_le _, _, S1, [], [], RG.ext (Same.upd hD), oD, upd_same, Reps.nil, Le.new hD, w⟩, ?_⟩
  rintro i m H ⟨rfl, hi, ρ, S, acc, vs, R, o, hd, rr, le, w⟩
  have ok : ∀ {gd : Gd}, Gd.ok S gd → gdH K H gd := fun {gd} h => by
    cases gd with
    | none => trivial
    | some p => exact R.sto p.1 _ h
  by_cases hlt : i < xs.length
  · obtain ⟨x, ex, dx⟩ := drop_cons hlt
    rw [dx] at w
    obtain ⟨wg, w⟩ := w
    refine .inr ⟨src.goes i H hlt ⟨le, ok wg⟩, fun H' => ∃ ρ S acc vs, Rel K G1 ρ S (wipe σ own) H' ∧ Out G1 ρ S (wipe σ own) D ∧ H' D = some (.lst vs) ∧ Reps K H' acc vs ∧ Le H1 H' ∧ comp2W own tg (wpTAnd Φ noE cs) src1 own1 tg1 (wpTAnd Φ noE cs1) (wpE Φ noE e) gd (xs.drop (i + 1)) acc ρ S P,
      fun H' h => ⟨xs.length - (i + 1), by omega, rfl, hlt, h⟩, fun u H' y => ?_⟩
    obtain ⟨sm, d, ed, rv⟩ : Same H H' ∧ ∃ d, xs[i]? = some d ∧ Rep K H' d u := by
      obtain ⟨z1, z2⟩ := src.yields i H u H' x ex ⟨le, ok wg⟩ y
      exact ⟨z1, x, ex, z2⟩
    rw [ex] at ed
    cases ed
    have R' := R.ext sm
    have hd' := sm _ _ hd
    have le' := le.trans (Le.of_same sm)
    refine tg_sound (G := regh ρ (wipe σ own) S H') R'.reg rv w fun ρ2 σ2 R2 w2 hw => ?_
    have e2 : wipe σ2 own = wipe σ own := by
      rw [hw own ht]
      exact wipe_wipe fun _ h => h
    refine ⟨e2, htt _ _ _ ⟨_, ρ2, S, noE, _, R2, w2, fun b ρ3 S3 b' H3 w3 R3 eb l3 => ?_, fun _ _ _ _ _ _ z => z.elim⟩⟩
    have eb : b = b' := eb
    subst eb
    have again : ∀ {ρ4 : VE} {S4 : Sto} {τ : L2.St} {H4 : Hp} {acc' : List PyData} {vs' : List V}, wipe τ own = wipe σ own → Rel K G1 ρ4 S4 τ H4 → Out G1 ρ4 S4 τ D → H4 D = some (.lst vs') → Reps K H4 acc' vs' → Le H1 H4 → comp2W own tg (wpTAnd Φ noE cs) src1 own1 tg1 (wpTAnd Φ noE cs1) (wpE Φ noE e) gd (xs.drop (i + 1)) acc' (wipeV ρ4 own) S4 P →
        ∃ ρ S acc vs, Rel K G1 ρ S (wipe σ own) H4 ∧ Out G1 ρ S (wipe σ own) D ∧ H4 D = some (.lst vs) ∧ Reps K H4 acc vs ∧ Le H1 H4 ∧ comp2W own tg (wpTAnd Φ noE cs) src1 own1 tg1 (wpTAnd Φ noE cs1) (wpE Φ noE e) gd (xs.drop (i + 1)) acc ρ S P := fun {ρ4 S4 τ H4 acc' vs'} eτ R4 o4 h4 r4 l4 w4 => by
      have q1 := R4.wipe own
      have q2 := o4.wipe own
      rw [eτ] at q1 q2
      exact ⟨_, _, _, _, q1, q2, h4, r4, l4, w4⟩
    cases b with
    | false =>
      dsimp only
      rw [if_neg Bool.false_ne_true] at w3 ⊢
      obtain ⟨o3, h3⟩ := R'.outBack R3 hd' o
      exact again e2 (R'.back R3) o3 h3 (Reps.le ((Le.of_same sm).trans l3) _ rr) (le'.trans l3) w3
    | true =>
      dsimp only
      rw [if_pos rfl] at w3 ⊢
      rw [← hs1] at w3
      refine ⟨_, ρ3, S3, noE, _, R3, w3, fun ys gd1 ρ4 S4 H4 J1 p4 R4 sr1 l4 => ?_, fun _ _ _ _ _ _ z => z.elim⟩
      obtain ⟨o4, h4⟩ := R'.outBack R4 hd' o
      have Rb := R'.back R4
      have l14 := (le'.trans l3).trans l4
      refine comp_goG (Z := fun H' => ∃ ρ S acc vs, Rel K G1 ρ S (wipe σ own) H' ∧ Out G1 ρ S (wipe σ own) D ∧ H' D = some (.lst vs) ∧ Reps K H' acc vs ∧ Le H1 H' ∧ comp2W own tg (wpTAnd Φ noE cs) src1 own1 tg1 (wpTAnd Φ noE cs1) (wpE Φ noE e) gd (xs.drop (i + 1)) acc ρ S P)
        htt1 ht1 (Rb.wipe own1) (o4.wipe own1) h4 (Reps.le (((Le.of_same sm).trans l3).trans l4) _ rr) (Le.refl H4) sr1 p4 fun acc' vs' ρ5 S5 H5 q R5 o5 h5 r5 l5 => ?_
      rw [hs1] at q
      exact again (by rw [wipe_wipe hsub, e2]) R5 o5 h5 r5 (l14.trans l5) q
  · have e : i = xs.length := by omega
    subst e
    rw [List.drop_length] at w
    obtain ⟨wg, w⟩ := w
    exact .inl ⟨src.stops H ⟨le, ok wg⟩, fin acc vs ρ S H w R o hd rr le⟩
end
section
variable {c : Cfg} {Φ : Phi} {n : Nat} {xr : XR} {X : Cx} {W : WX} {own : List (Str × Nat)} {own1 : List Nat} {tg tg1 : Tg} {sk sk1 : Sk} {as as1 : List Ex} {cs cs1 : List Te} {w : Ex} {elt t it t1 it1 : Expr} {ifs ifs1 : List Expr} {scope : Scope} {pos : Pos}
theorem tt_of (o : CxOk c Φ n xr X W) (few : cs.length ≤ 1) (len : ifs.length = cs.length) (tests : ∀ X' W', CxOk (c.blk scope) Φ n xr X' W' → ∀ t e, cs = [t] → ifs = [e] → PT X' e (rT Φ xr W' X'.K t)) :
    ∃ tt, (∀ (s : Shared) (H : Hp) (C : Addr) (cl : List (Str × Addr)) (fp : List Addr), PTs (X.blk s H scope (compEnvC scope cl C X.env) fp) ifs tt) ∧ ∀ σ H Q, rTA Φ xr WF X.K cs σ H Q → tt σ H Q := by
  cases cs with
  | nil =>
    refine ⟨tYes, fun s H C cl fp => ?_, fun σ H Q ⟨G, ρ, S, E, P, R, wp, post, ex⟩ => post true _ _ true _ wp R rfl (Le.refl H)⟩
    have e : ifs = [] := List.eq_nil_of_length_eq_zero len
    rw [e]
    exact pts_nil
  | cons t' cs =>
    have e2 : cs = [] := by
      simp at few
      exact few
    subst e2
    obtain ⟨e, rfl⟩ : ∃ e, ifs = [e] := by
      match ifs, len with
      | [e], _ => exact ⟨e, rfl⟩
    refine ⟨rT Φ xr WF X.K t', fun s H C cl fp => pts_one (tests _ _ (o.blk scope s H C cl fp) t' e rfl rfl), fun σ H Q ⟨G, ρ, S, E, P, R, wp, post, ex⟩ => ⟨G, ρ, S, E, _, R, wp, fun k ρ1 S1 k' H1 p R1 e l1 => ?_, ex⟩⟩
    have e : k = k' := e
    subst e
    cases k with
    | true => exact post true _ _ _ _ (show P true ρ1 S1 by rw [if_pos rfl] at p; exact p) R1 rfl l1
    | false => exact post false _ _ _ _ (show P false ρ1 S1 by rw [if_neg Bool.false_ne_true] at p; exact p) R1 rfl l1
/-- what a comprehension of two sources needs of its parts -/
structure Comp2Ok (c : Cfg) (Φ : Phi) (n : Nat) (xr : XR) (X : Cx) (W : WX) (own : List (Str × Nat)) (tg : Tg) (sk : Sk) (as : List Ex) (cs : List Te) (own1 : List Nat) (tg1 : Tg) (sk1 : Sk) (as1 : List Ex) (cs1 : List Te) (w : Ex) (elt t it t1 it1 : Expr) (ifs ifs1 : List Expr) (scope : Scope) : Prop where
  blk : blkC c.N c.sc scope own = true
  tgt : tgB (c.blk scope) tg t = true
  tgt1 : tgB (c.blk scope) tg1 t1 = true
  tin : tgIn tg (own.map (·.2)) = true
  tin1 : tgIn tg1 own1 = true
  sub : own1.all (own.map (·.2)).contains = true
  set : nset it = true
  set1 : nset it1 = true
  few : cs.length ≤ 1
  few1 : cs1.length ≤ 1
  len : ifs.length = cs.length
  len1 : ifs1.length = cs1.length
  src : PI X t it (rSrc Φ xr W X.K sk as)
  src1 : ∀ X' W', CxOk (c.blk scope) Φ n xr X' W' → PI X' t1 it1 (rSrc Φ xr W' X'.K sk1 as1)
  tests : ∀ X' W', CxOk (c.blk scope) Φ n xr X' W' → ∀ t e, cs = [t] → ifs = [e] → PT X' e (rT Φ xr W' X'.K t)
  tests1 : ∀ X' W', CxOk (c.blk scope) Φ n xr X' W' → ∀ t e, cs1 = [t] → ifs1 = [e] → PT X' e (rT Φ xr W' X'.K t)
  elt : ∀ X' W', CxOk (c.blk scope) Φ n xr X' W' → PE X' elt (rE Φ xr W' X'.K w)
theorem snd_comp2 (o : CxOk c Φ n xr X W) (k : Comp2Ok c Φ n xr X W own tg sk as cs own1 tg1 sk1 as1 cs1 w elt t it t1 it1 ifs ifs1 scope) : PE X (.ListComp elt [⟨t, it, ifs, 0⟩, ⟨t1, it1, ifs1, 0⟩] scope pos) (rE Φ xr W X.K (.comp2 own tg sk as cs own1 tg1 sk1 as1 cs1 w)) := by
  obtain ⟨tt, h1, h2⟩ := tt_of o k.few k.len k.tests
  obtain ⟨tt1, h3, h4⟩ := tt_of o k.few1 k.len1 k.tests1
  have hb : BlkOk X.N X.env.scope scope own := by
    rw [o.N, o.sc]
    exact blkOk_by k.blk
  have hsub : ∀ i ∈ own1, i ∈ own.map (·.2) := fun i hi => List.contains_iff_mem.mp (List.all_eq_true.mp k.sub i hi)
  refine peI (pe_fz (pe_lc2 (te := rE Φ xr WF X.K w) (g := gTg X.K tg) (g1 := gTg X.K tg1) (wi1 := rSrc Φ xr WF X.K sk1 as1) (vs1 := own1) o.calm (by rw [o.N]; exact o.nd) k.src hb hsub (fun s H C cl fp => pg_tg (o.blk scope s H C cl fp) k.tgt) h1
    (fun s H C cl fp => k.src1 _ _ (o.blk scope s H C cl fp)) (fun s H C cl fp => pg_tg (o.blk scope s H C cl fp) k.tgt1) h3 (fun s H C cl fp => k.elt _ _ (o.blk scope s H C cl fp)) (nset_it k.set) (fun env x => nset_it (env := env) k.set1 x))) fun σ H Q ⟨G, ρ, S, E, P, R, wp, post, ex⟩ => ?_
  refine ⟨G, ρ, S, E, _, R, wp, fun xs gd ρ1 S1 H1 J p R1 src l1 D hD => ?_, ex⟩
  exact comp2_go h2 h4 k.tin k.tin1 hsub R1 src hD p fun ys vs ρ2 S2 H2 q R2 o2 hd rr l2 => by
    have R3 := R1.unwipe R2 l2
    have f := o2.back R1 hD
    refine ⟨D, _, rfl, hd, trivial, fun ob => ?_⟩
    have lm : Le H2 (upd H2 D (.frz ob (.lst vs))) := Le.mut hd trivial
    exact post (.d (.list ys)) _ _ (.ref D) _ q (R3.bump hd trivial f) ⟨D, vs, rfl, ⟨ob, upd_same⟩, Reps.le lm _ rr⟩ ((l1.trans l2).trans lm)
/-! ### sep.join(list) -/
theorem strs_rep {K : PySem.W.Frag} {H : Hp} : ∀ {xs : List PyData} {ys : List Str} {vs : List V}, strsOf xs = some ys → Reps K H xs vs → vs = ys.map V.str
  | [], _, _, h, r => by cases h; cases r; rfl
  | .str b :: xs, _, _, h, r => by
    obtain ⟨v, t, rfl, h1, h2⟩ := r
    obtain ⟨cs, hc, rfl⟩ := Option.map_eq_some_iff.mp (show (strsOf xs).map (b :: ·) = some _ from h)
    rw [strs_rep hc h2, show v = .str b from h1]
    rfl
  | .none :: _, _, _, h, _ => nomatch h
  | .bool _ :: _, _, _, h, _ => nomatch h
  | .int _ :: _, _, _, h, _ => nomatch h
  | .list _ :: _, _, _, h, _ => nomatch h
  | .tuple _ :: _, _, _, h, _ => nomatch h
  | .dict _ :: _, _, _, h, _ => nomatch h
theorem joinP_of {sep : Str} {d : PyData} {Q : PyData → Prop} (h : joinP sep d Q) : ∃ xs ys, d = .list xs ∧ strsOf xs = some ys ∧ (ys.map (·.length)).sum + ys.length * sep.length ≤ 16777216 ∧ Q (.str (Str.join sep ys)) := by
  cases d <;> try exact (show False from h).elim
  rename_i xs
  have h' : (match strsOf xs with
    | some ys => (ys.map (·.length)).sum + ys.length * sep.length ≤ 16777216 ∧ Q (.str (Str.join sep ys))
    | none => False) := h
  split at h'
  · rename_i ys hy
    exact ⟨xs, ys, rfl, hy, h'.1, h'.2⟩
  · exact h'.elim
theorem snd_join (o : CxOk c Φ n xr X W) {sep m : Str} {kk : Nat} {cp ap : Pos} {l : Expr} {a : Ex} (hm : (m == ("join" : Str)) = true) (hl : (ap.endLine == pos.line) = true) (n1 : nst l = true) (ha : PE X l (rX Φ xr W X.K a)) :
    PE X (.Call (.Attribute (.Constant (.str sep) kk cp) m ap) [l] [] pos) (rE Φ xr W X.K (.join sep a)) := by
  obtain rfl := eq_of_beq hm
  refine peI (pe_join (to := tC (.str sep)) pe_str ha (by rw [star_cons n1]; rfl) rfl hl) fun σ H Q ⟨G, ρ, S, E, P, R, w, post, ex⟩ => ?_
  refine ⟨⟨sep, rfl⟩, G, ρ, S, E, _, R, w, fun y ρ1 S1 u H1 p1 R1 r1 l1 => ?_, ex⟩
  obtain ⟨d, cd, p⟩ := con_sound R1 p1 r1
  obtain ⟨xs, ys, rfl, hy, hz, q⟩ := joinP_of p
  obtain ⟨b, vs, rfl, hb, rb⟩ := cd
  have e := strs_rep hy rb
  subst e
  refine ⟨sep, b, ys, rfl, rfl, .inl (.inl hb), hz, ?_⟩
  rw [show Txt.join sep ys = Str.join sep ys from TL.join_eq sep ys]
  exact post (.d (.str (Str.join sep ys))) _ _ (.str _) _ q R1 rfl l1
end
end Lk
/-! DQ: errors held as values: made, asked for their class, their fields read. -/
namespace Lk
open PySem PySem.Spec PySem.Calls PyProof.Rows L2
section
variable {X : Cx} {e : Expr} {es : List Expr} {ta : TA} {p1 p2 pos : Pos}
/-- ShownError.__init__(self, ..), found in ValueError -/
theorem pe_seinit {Sh : Addr} (hg : Gl X "ShownError") (hm : X.mg "ShownError" = some (.ref Sh)) (sg : PySem.W.specialIn X.K (.ref Sh) "__getattribute__" = some (some (.builtin "type.__getattribute__"))) (hr : PySem.W.readsIn X.K Sh (.type "type") = true)
    (vV : PySem.W.findCls X.K (.ref Sh) (.type "type") "__init__" = some (.val (.builtin "ValueError.__init__"))) (ha : PA X (e :: es) ta)
    (hl : (p2.endLine == pos.line) = true)
    (hf : methodCallForm ((e :: es).length + ([] : List Keyword).length) (backTo pos (starEach (e :: es) X.env)) (backToKw pos (keywordEach [] X.env)) = true := by rfl)
    (he : starEach (e :: es) X.env = (false, eval e X.env) :: starEach es X.env := by rfl) (hpl : (backTo pos (starEach es X.env)).any (·.1) = false := by rfl) :
    PE X (.Call (.Attribute (.Name "ShownError" p1) "__init__" p2) (e :: es) [] pos) (tVeI X.K ta) := by
  refine ⟨fun pins s σ H Q I h => ?_⟩
  have hbase : attributeBase (.Name "ShownError" p1) "__init__" X.env (eval (.Name "ShownError" p1) X.env) = eval (.Name "ShownError" p1) X.env := by rfl
  have hc : eval (.Call (.Attribute (.Name "ShownError" p1) "__init__" p2) (e :: es) [] pos) X.env = (do
      let ov ← eval (.Name "ShownError" p1) X.env
      standAt p2.atName
      let (f, first) ← holding [ov] (getMethod ov "__init__" (plainOf (.Name "ShownError" p1) X.env))
      callWith pos f first (backTo pos (starEach (e :: es) X.env)) (backToKw pos (keywordEach [] X.env))) := by
    rw [arm_eval_Call, hbase]
    refine congrArg _ (funext fun ov => ?_)
    refine congrArg _ (funext fun _ => ?_)
    exact mcall_line hf hl
  refine PySem.W.methodCall_KW (ld_glob I hg hm ?_ (by decide)) hc
  refine PySem.W.method_cls I.kIn sg (PySem.W.cls_value I.kIn hr vV (by decide +kernel) ?_)
  show wpAny _ _ (callWith pos (Value.builtin "ValueError.__init__") [] (backTo pos (starEach (e :: es) X.env)) []) _ _ _
  refine PyProof.Rows.callWith_method1 (thn (ha.run pos pins _ σ H _ (I.tok _) h) fun us s1 ⟨vs, H1, I1, r1, a, C, ws, ev, hl, T, ea, q⟩ => ?_) he hpl
  subst ev
  cases r1 with
  | @cons _ u0 _ ur ra rw' =>
    obtain rfl : u0 = Value.ref a := ra
    have hlen : ur.length ≤ sizeLine := by
      rw [← Paired.length rw', sizeLine_eq]
      omega
    exact oinit_ok T I1 ea hlen fun s' J => ⟨.non, H1, J, rfl, q⟩
end
/-! ### the class of an error -/
section
variable {prog : Program} {w : World} {A : Around} {E : Value → Shared → Prop} {s : Shared} {K : PySem.W.Frag} {x D C : Addr} {ox : Obj} {od : Option Obj}
theorem find_clsD {name : Str} {a g : Value} (hc : (PySem.W.clsIn K C).isSome = true) (ha : PySem.W.findIn K (.ref C) name = some (some a)) (hg : PySem.W.specialIn K a "__get__" = some (some g)) (ht : PySem.W.takesIn K a = some true) : PySem.W.findObj K C od name = some (.bind g a) := by
  obtain ⟨cd, e⟩ := Option.isSome_iff_exists.mp hc
  unfold PySem.W.findObj; rw [e, Option.bind_some, ha, Option.bind_some]
  simp [hg, ht]
theorem kin_clsD {Q : Option Value → Shared → Prop} (c : ExcC K D) (X : K.In s.heap) (I : PySem.W.InstAt s.heap x ox D od) (h : Q (some (.ref D)) { s with toks := s.toks + 1 }) : wpAny (model prog w) A (getAttr? (.ref x) "__class__") Q E s := by
  have hf : PySem.W.findObj K D od "__class__" = some (.bind (.builtin "getset_descriptor.__get__") (.builtin "object.__class__")) := find_clsD (by obtain ⟨cd, hc, _⟩ := PySem.W.any_some c.hd; rw [hc] <;> rfl) c.ha c.hn c.ht
  obtain ⟨hp, g, d, t, os⟩ := s
  have lt := I.type (M := model prog w)
  have lg := PySem.W.looks_findIn (M := model prog w) X c.hg
  have lk := PySem.W.looks_findIn (M := model prog w) X c.hk
  have lf := PySem.W.looks_find (M := model prog w) X I hf
  have lb : PySem.W.Looks (model prog w) hp (isInstance (.ref x) (.type "BaseException")) true := lt.andThen (PySem.W.looks_subIn X c.hs)
  have b0 : (false && onTheHeap (Value.builtin "BaseException.__getattribute__")) = false := rfl
  have b2 : (Value.builtin "BaseException.__getattribute__" == Value.builtin "object.__getattribute__") = false := by decide +kernel
  have b1 : (onTheHeap (Value.ref D) && Value.builtin "BaseException.__getattribute__" == Value.builtin "object.__getattribute__") = false := by rw [b2] <;> rfl
  unfold getAttr? getAttrBy? getAttrBy; refine wpAny_bind (wpAny_mkText (wpAny_bind (wpAny_attempt (wpAny_holding (wpAny_bind (lt.at (wpAny_bind (lg.at ?_))))))))
  show wpAny _ _ (if (onTheHeap (Value.ref D) && Value.builtin "BaseException.__getattribute__" == Value.builtin "object.__getattribute__") = true then _ else _) _ _ _; rw [b1, if_neg Bool.false_ne_true]
  unfold getAttrByItsOwn hookBefore; refine wpAny_bind ?_; rw [if_pos (show onTheHeap (Value.ref D) = true from rfl)]
  refine lk.at ?_; refine wpAny_bind (wpAny_attempt (wpAny_holding ?_)); unfold callGetattribute; rw [b0, if_neg Bool.false_ne_true]
  unfold boundAndCalled; rw [PySem.F.excAttr_ValueError.ga.bind (.ref x)]; refine wpAny_bind (wpAny_pure ?_)
  show wpAny _ _ (call (.builtin "BaseException.__getattribute__") [.ref x, .str "__class__" t]) _ _ _; refine wpAny_call (codeAny_call_builtin PySem.F.excAttr_ValueError.ga.plain PySem.F.entry_bexc_ga ?_)
  refine @PySem.W.check_slot (model prog w) _ _ ⟨hp, g, d, t + 1, os⟩ "BaseException.__getattribute__" "BaseException" "__getattribute__" (.ref x) [.str "__class__" t] [] _ (by decide +kernel) (by decide +kernel) lb (PySem.F.args_bexc_ga (.ref x) (.str "__class__" t)) ?_
  unfold Builtin.«object.__getattribute__»; refine wpAny_bind (wpAny_of_eq (a := ((Value.ref x : Value), [Value.str "__class__" t])) (by first | rfl | (simp only [slotArgs] <;> rfl)) ?_)
  refine wpAny_bind (wpAny_pure (wpAny_bind (lt.at (wpAny_bind (lf.at ?_))))); show wpAny _ _ (holding [Value.builtin "object.__class__"] (call (.builtin "getset_descriptor.__get__") [.builtin "object.__class__", .ref x, .ref D]) >>= ret) _ _ _
  refine wpAny_bind (wpAny_holding (wpAny_call (PySem.W.class_get (s := ⟨hp, g, d, t + 1, os⟩) (ox := ox) (od := od) X I c.hm ?_))); refine wpAny_pure ?_
  show wpAny _ _ (handedOut (.ref D)) _ _ _; rw [PySem.W.handedOut_of (v := .ref D) rfl]
  first | exact wpAny_pure (wpAny_pure h) | exact wpAny_pure h | exact wpAny_pure (wpAny_bind (wpAny_pure (wpAny_pure h)))
theorem kitx_err (c : ExcC K D) : PySem.W.KitX K (.ref x) (.ref D) (fun h => PySem.W.InstAt h x ox D od) where
  ty := fun _ _ _ p => p.type
  it := fun _ _ X _ => by
    obtain ⟨cdD, hcD, _⟩ := PySem.W.any_some c.hd
    unfold PySem.W.clsIn at hcD; split at hcD
    · rename_i ho
      intro A' Q' E' s' k q; unfold isType loadHead
      exact wpAny_bind (wpAny_loadPart (k _ _ (X _ _ ho)) (wpAny_pure q))
    · cases hcD
  ne := fun h tp dd its n sl X htp => by
    obtain ⟨cdD, hcD, _⟩ := PySem.W.any_some c.hd
    refine Bool.eq_false_iff.mpr fun q => ?_; obtain rfl : D = tp := Value.ref.inj (beq_iff_eq.mp q)
    unfold PySem.W.clsIn at hcD; split at hcD
    · rename_i ho
      have z := (X _ _ ho).symm.trans htp; cases z
    · cases hcD
  ca := fun X p k => kin_clsD c X p k
end
section
variable {X : Cx} {pins : List (Addr × Obj)} {σ : L2.St} {H : Hp} {s : Shared}
/-- an error stands as an instance of its class -/
theorem err_inst {a C : Addr} {fs : List (Str × V)} (I : Inv X pins σ H s) (h : ErrAt H a C fs) : ∃ ox od, PySem.W.InstAt s.heap a ox C od ∧ (fs = [] ∨ ∃ o, od = some o ∧ ∀ f v, fs.lookup f = some v → ∃ u, PySem.W.lookIn f o = some (some u) ∧ RelV v u) := by
  rcases h with ⟨rfl, oe, ha⟩ | ⟨oe, dd, od, ha, hd⟩
  · obtain ⟨e1, e2⟩ := (show ObjOk X.prog X.w H s.heap a (.frz oe (ExO (.ref C) a)) from I.hok a _ ha)
    obtain ⟨⟨o2, vs, q1, q2, q3, _⟩, _⟩ := (show ObjOk X.prog X.w H s.heap a (.ext _) from e2)
    rw [e1] at q1
    cases q1
    exact ⟨oe, none, ⟨e1, q2.1, by unfold PySem.W.notCls; rw [q3] <;> rfl, by rw [q2.2] <;> trivial⟩, .inl rfl⟩
  · obtain ⟨e1, e2⟩ := (show ObjOk X.prog X.w H s.heap a (.frz oe (exo a C (some dd))) from I.hok a _ ha)
    obtain ⟨⟨t1, q1⟩, _⟩ := (show ObjOk X.prog X.w H s.heap a (.ext _) from e2)
    rw [e1] at q1
    cases q1
    obtain ⟨g1, g2⟩ := (show ObjOk X.prog X.w H s.heap dd (.frz od (exd dd fs)) from I.hok dd _ hd)
    obtain ⟨⟨mA, hn, r⟩, _⟩ := (show ObjOk X.prog X.w H s.heap dd (.ext _) from g2)
    obtain ⟨o, ho, hl⟩ := lookIn_ns hn
    exact ⟨_, some o, ⟨e1, rfl, rfl, ho⟩, .inr ⟨o, rfl, fun f v e => by
      obtain ⟨u, hu, ru⟩ := RelO.some_of (v := v) (o := mA f) (by rw [← e]; exact r f)
      exact ⟨u, by rw [hl, hu], ru⟩⟩⟩
/-- isinstance of an error -/
theorem opIsx {K : PySem.W.Frag} (hK : X.K = K) (ok : ∀ c, errN.contains c = true → ExcC K (He.ga K c)) : CallR X (.builtin "isinstance") (fun xs H Q => ∃ (a : Addr) (c : Str) (fs : List (Str × V)) (k : V) (b : Bool), xs = [.ref a, k] ∧ ErrAt H a (He.ga K c) fs ∧ errN.contains c = true ∧
    ((∃ cv, (∀ u, RelV k u → u = cv) ∧ PySem.W.kitOne K (.ref (He.ga K c)) cv = some b) ∨ ∃ tp cs us, k = .ref tp ∧ H tp = some (.tup cs) ∧ Paired ClsV cs us ∧ PySem.W.kitAny K (.ref (He.ga K c)) us = some b) ∧ Q (.bl b) H) := by
  subst hK
  intro pins s σ H xs us Q I r h
  obtain ⟨a, c, fs, k, b, rfl, he, hc, hk, q⟩ := h
  obtain ⟨u1, u2, rfl, r1, r2⟩ := vals2 r
  cases (show u1 = Value.ref a from r1)
  obtain ⟨ox, od, J, _⟩ := err_inst I he
  rcases hk with ⟨cv, hcv, e⟩ | ⟨tp, cs, ws, rfl, hT, k2, e⟩
  · have e2 := hcv _ r2
    subst e2
    exact PySem.W.kia_one (kitx_err (ok c hc)) I.kIn J e (fun z => nomatch z) fun tk => ⟨.bl b, H, I.tok tk, rfl, q⟩
  · cases (show u2 = Value.ref tp from r2)
    obtain ⟨_, its, rv, o, h1, h2, n, h3⟩ := (show ObjOk X.prog X.w H s.heap tp (.tup cs) from I.hok tp _ hT)
    have e3 := ClsV.all k2 rv
    subst e3
    obtain ⟨oc, od', dt, sl⟩ := o
    simp only at h2 h3
    subst h2 h3
    exact PySem.W.kia_tup (kitx_err (ok c hc)) I.kIn J h1 e (fun z => nomatch z) fun tk => ⟨.bl b, H, I.tok tk, rfl, q⟩
/-- a field of an error -/
theorem pe_fldE {e : Expr} {te : TE} {f : Str} {pos : Pos} (ok : ErrOk X.K X.mg) (hf : fldN.contains f = true) (he : PE X e te) (hb : attributeBase e f X.env (eval e X.env) = eval e X.env) :
    PE X (.Attribute e f pos) (fun σ H Q => te σ H fun x H1 => ∃ (a : Addr) (c : Str) (fs : List (Str × V)) (v : V), x = .ref a ∧ errN.contains c = true ∧ ErrAt H1 a (He.ga X.K c) fs ∧ fs.lookup f = some v ∧ Q v H1) := by
  refine ⟨fun pins s σ H Q I h => ?_⟩
  refine attr_of hb (thn (he.run pins s σ H _ I h) fun u s1 ⟨x, H1, I1, rx, a, c, fs, v, ex, hc, ha, hl, q⟩ => ?_)
  subst ex
  obtain rfl : u = Value.ref a := rx
  obtain ⟨ox, od, J, hz⟩ := err_inst I1 ha
  rcases hz with rfl | ⟨o, rfl, hz⟩
  · cases hl
  · obtain ⟨u, hu, ru⟩ := hz f v hl
    have ec := ok.exc c hc
    exact HandSPX.exc_get I1.kIn J ec.hg ec.hk ec.hs (PySem.W.findObj_own ec.hd (ok.fld c f hc hf) rfl hu) (handed_of ru) ⟨v, H1, I1.tok _, ru, q⟩
end
/-! ### an error is made -/
section
variable {X : Cx} {e : Expr} {es : List Expr} {ta : TA} {p pos : Pos}
/-- C(e, ..), C with its own __init__ -/
theorem pe_oexV {CX : CXT} {x : Str} {C fI : Addr} {k : Nat} {fd : FuncData} {ps : List Str} {sp : Sp} (T : OexC X.K C) (iC : PySem.W.findIn X.K (.ref C) "__init__" = some (some (.ref fI))) (tI : PySem.W.typeIn X.K (.ref fI) = some (.type "function"))
    (F1 : FnOk X.prog X.w X.K X.mg X.base CX k fI fd ps sp) (hr : Room (k + 1) X.A) (hb : Binds X.K fd ps []) (hx : Passes CX X (fun _ _ _ => False)) (hg : Gl X x) (hm : X.mg x = some (.ref C)) (ha : PA X (e :: es) ta)
    (hdb : (x == ("__debug__" : Str)) = false) (he : starEach (e :: es) X.env = (false, eval e X.env) :: starEach es X.env) (hpl : (backTo pos (starEach es X.env)).any (·.1) = false) :
    PE X (.Call (.Name x p) (e :: es) [] pos) (fun σ H Q => ta σ H fun vs H1 => vs.length ≤ 1000 ∧ ∀ a, H1 a = none → sp (.ref a :: vs) (upd H1 a (exo a C none)) (fun v H2 => v = .non ∧ Q (.ref a) H2) (fun _ _ _ => False)) := by
  refine ⟨fun pins s σ H Q I h => ?_⟩
  obtain ⟨nm, q, N, bs, bm, sn, sub, ab, col, dd, k0, k1, k2, k3, k5, hC, hbm⟩ := T.cls
  refine wpAny_Call_Name_kw (ld_glob I hg hm ?_ hdb)
  refine PySem.W.callWith_K (h₀ := X.base) I.ok.mod.kin T.kC (thn (ha.run pos pins s σ H _ I h) fun us s1 ⟨vs, H1, I1, r1, hz, q1⟩ => ⟨I1.kIn, ?_⟩) he hpl
  show wpAny _ _ (call (.ref C) us) _ _ _; obtain ⟨hp, g, dr, tk, os⟩ := s1
  have hsz : hp.objs.size ≤ hp.objs.size + 1 := Nat.le_succ _; have hn : H1 (hp.objs.size + 1) = none := I1.hok.fresh hsz
  have hq := q1 (hp.objs.size + 1) hn; have kk : ∀ b o, hp.get? b = some o → ((hp.push (PySem.W.kdv_tup us)).push (PySem.HandSPX.excO C hp.objs.size)).get? b = some o := fun b o z => Heap.get?_push_of_some _ (Heap.get?_push_of_some _ z)
  have hget : ((hp.push (PySem.W.kdv_tup us)).push (PySem.HandSPX.excO C hp.objs.size)).get? (hp.objs.size + 1) = some (PySem.HandSPX.excO C hp.objs.size) := by heap_get
  have I2 : Inv X pins σ (upd H1 (hp.objs.size + 1) (exo (hp.objs.size + 1) C none)) ⟨(hp.push (PySem.W.kdv_tup us)).push (PySem.HandSPX.excO C hp.objs.size), g, dr, tk, os⟩ := I1.laid (t' := tk) (a := hp.objs.size + 1) (o := exo (hp.objs.size + 1) C none) (h' := (hp.push (PySem.W.kdv_tup us)).push (PySem.HandSPX.excO C hp.objs.size)) kk hsz (exo_ok hget)
  have r2 : Vals (V.ref (hp.objs.size + 1) :: vs) (Value.ref (hp.objs.size + 1) :: us) := .cons rfl r1
  have hl : (Value.ref (hp.objs.size + 1) :: us ++ ([] : List Value)).length = ps.length := by
    have z := r2.length
    rw [F1.len _ _ _ _ hq] at z
    simpa using z.symm
  have hus : us.length ≤ sizeLine := by
    rw [← Paired.length r1, sizeLine_eq]; omega
  have hbd := hb _ (Value.ref (hp.objs.size + 1) :: us) I2.kIn hl
  rw [List.append_nil] at hbd
  refine wpAny_call (PySem.HandSPX.call_own F.excBase_ValueError (fun Y => PySem.HandSPX.refsVE_contains Y bm hbm) (I1.kIn _ _ hC) (PySem.W.looks_findIn I1.kIn iC) (fun self => PySem.W.bind_fn I1.kIn self tI) hus
    (codeAny_mono (F1.run _ X.stack _ _ ⟨Value.ref (hp.objs.size + 1) :: us, []⟩ (Value.ref (hp.objs.size + 1) :: us) _ _ (fun _ _ _ => False) (hr.make C us []) (I2.env0.make C us []) hbd r2 hq) fun r s' hq' => ?_))
  cases r with
  | error er => exact hx pins σ _ _ er s' I2 hq'
  | ok fl =>
    cases fl with
    | ret u =>
      obtain ⟨v, H2, os2, bare2, un2, hok2, rv, ev, q2⟩ := hq'
      subst ev
      exact ⟨rv, .ref (hp.objs.size + 1), H2, I2.call' (ch := []) os2 un2 hok2 bare2 (fun b z => absurd z (by simp)), rfl, q2⟩
    | next => exact hq'.elim
    | brk => exact hq'.elim
    | cont => exact hq'.elim
end
/-- the fields that an own __init__ sets -/
def mkV : Ik → List V → List (Str × V) → Prop
  | .lim, [.int k], fs => smI k ∧ fs = [(("limit" : Str), V.int k)]
  | .syn, [.int l, .int k], fs => smI l ∧ smI k ∧ fs = [(("column" : Str), V.int k), (("line" : Str), V.int l)]
  | .rul, [v], fs => fs = [(("paper" : Str), v)]
  | _, _, _ => False
theorem mkV_lim {ws : List V} {fs : List (Str × V)} (h : mkV .lim ws fs) : ∃ k, ws = [.int k] ∧ smI k ∧ fs = [(("limit" : Str), V.int k)] := by
  rcases ws with _ | ⟨x, _ | ⟨y, r⟩⟩
  · exact (show False from h).elim
  · cases x <;> first | exact (show False from h).elim | exact ⟨_, rfl, h⟩
  · cases x <;> exact (show False from h).elim
theorem mkV_syn {ws : List V} {fs : List (Str × V)} (h : mkV .syn ws fs) : ∃ l k, ws = [.int l, .int k] ∧ smI l ∧ smI k ∧ fs = [(("column" : Str), V.int k), (("line" : Str), V.int l)] := by
  rcases ws with _ | ⟨x, _ | ⟨y, _ | ⟨z, r⟩⟩⟩
  · exact (show False from h).elim
  · cases x <;> exact (show False from h).elim
  · cases x <;> cases y <;> first | exact (show False from h).elim | exact ⟨_, _, rfl, h⟩
  · cases x <;> cases y <;> exact (show False from h).elim
theorem mkV_rul {ws : List V} {fs : List (Str × V)} (h : mkV .rul ws fs) : ∃ v, ws = [v] ∧ fs = [(("paper" : Str), v)] := by
  rcases ws with _ | ⟨x, _ | ⟨y, r⟩⟩
  · exact (show False from h).elim
  · exact ⟨_, rfl, h⟩
  · exact (show False from h).elim
/-- what an own __init__ does -/
def spM (K : PySem.W.Frag) (k : Ik) : Sp := fun vs H Q _ => ∃ (a : Addr) (ws : List V) (fs : List (Str × V)), vs = .ref a :: ws ∧ ws.length + 1 = (ikP k).length ∧ H a = some (exo a (He.ga K (ikN k)) none) ∧ mkV k ws fs ∧
  ∀ H2 dx, H2 a = some (exo a (He.ga K (ikN k)) (some dx)) → H2 dx = some (exd dx fs) → dx ≠ a → H dx = none → (∀ b o, b ≠ a → H b = some o → H2 b = some o) → Q .non H2
theorem same_upd {H : Hp} {a dx : Addr} {o1 o2 : HO} (hd : H dx = none) : ∀ b o, b ≠ a → H b = some o → upd (upd H dx o1) a o2 b = some o := fun b o hb e => by
  rw [upd_ne hb, upd_ne (ne_of_none e hd)]
  exact e
section
variable {X : Cx} {body : List Stmt} {Sh : Addr}
theorem init_bodyM (k : Ik) (hN : X.N = ikP k) (hv : ∀ x ∈ ikP k, Vis X.env.scope x) (hg : Gl X "ShownError") (hb : ikB k body = true) (hm : X.mg "ShownError" = some (.ref Sh)) (sg : PySem.W.specialIn X.K (.ref Sh) "__getattribute__" = some (some (.builtin "type.__getattribute__"))) (hr : PySem.W.readsIn X.K Sh (.type "type") = true)
    (vV : PySem.W.findCls X.K (.ref Sh) (.type "type") "__init__" = some (.val (.builtin "ValueError.__init__"))) (T : OexC X.K (He.ga X.K (ikN k))) (hno : ∀ f, fldN.contains f = true → PySem.W.findIn X.K (.ref (He.ga X.K (ikN k))) f = some none) :
    ∃ t, PSs X body t ∧ ∀ (D : Ends) (a : Addr) (ws : List V) (fs : List (Str × V)) (H : Hp), H a = some (exo a (He.ga X.K (ikN k)) none) → mkV k ws fs →
      (∀ H2 dx, H2 a = some (exo a (He.ga X.K (ikN k)) (some dx)) → H2 dx = some (exd dx fs) → dx ≠ a → H dx = none → (∀ b o, b ≠ a → H b = some o → H2 b = some o) → D.nx (L2.start (ikP k) (.ref a :: ws)) H2) → t D (L2.start (ikP k) (.ref a :: ws)) H := by
  have sl : sizeLine = 16777216 := rfl
  cases k with
  | lim =>
    have hb : initB body = true := hb
    unfold initB at hb
    split at hb
    · simp only [Bool.and_eq_true, beq_iff_eq, decide_eq_true_eq] at hb
      obtain ⟨⟨⟨⟨⟨⟨⟨⟨rfl, rfl⟩, rfl⟩, rfl⟩, hl⟩, rfl⟩, rfl⟩, rfl⟩, hp⟩ := hb
      have pS : ∀ p, PE X (.Name "self" p) (tVar 0) := fun p => pe_var (by rw [hN] <;> rfl) (hv _ (by simp [ikP]))
      have pL : ∀ p, PE X (.Name "limit" p) (tVar 1) := fun p => pe_var (by rw [hN] <;> rfl) (hv _ (by simp [ikP]))
      refine ⟨_, pss_cons (ps_expr (pe_seinit hg hm sg hr vV (pa_cons (pS _) (pa_cons (pe_joined (.cons pe_str (.cons (pe_fmt (pL _)) .nil))) pa_nil)) (by rw [hp]; exact beq_self_eq_true _))) (pss_cons (ps_ost (pS _) (pL _)) pss_nil), fun D a ws fs H ha hw hq => ?_⟩
      rename_i m _ _ _ _ _ _ _ _ _ _ _
      · obtain ⟨k, rfl, ⟨hk, hk2⟩, rfl⟩ := mkV_lim hw
        have e0 : ((Str.empty : Str) ++ m).length ≤ 1000 := by
          rw [strLen_append]
          have : (Str.empty : Str).length = 0 := rfl
          omega
        have e1 : (((Str.empty : Str) ++ m) ++ (toString k : Str)).length ≤ sizeLine := by
          rw [strLen_append]
          omega
        exact ⟨_, rfl, m, rfl, by omega, .int k, rfl, .inr ⟨k, rfl, hk, toString k, rfl, e1, a, _, [_], rfl, by simp, T, ha, .int k, rfl, .ref a, rfl, a, _, rfl, T, hno _ rfl, .inl ⟨ha, fun dx n1 n2 => hq _ dx upd_same (by rw [upd_ne n2, upd_same]) n2 n1 (same_upd n1)⟩⟩⟩
    · cases hb
  | syn =>
    have hb : initS body = true := hb
    unfold initS at hb
    split at hb
    · simp only [Bool.and_eq_true, beq_iff_eq, decide_eq_true_eq] at hb
      obtain ⟨⟨⟨⟨⟨⟨⟨⟨⟨⟨⟨⟨⟨rfl, rfl⟩, rfl⟩, rfl⟩, rfl⟩, hl⟩, hl2⟩, rfl⟩, rfl⟩, rfl⟩, rfl⟩, rfl⟩, rfl⟩, hp⟩ := hb
      have pS : ∀ p, PE X (.Name "self" p) (tVar 0) := fun p => pe_var (by rw [hN] <;> rfl) (hv _ (by simp [ikP]))
      have pL : ∀ p, PE X (.Name "line" p) (tVar 1) := fun p => pe_var (by rw [hN] <;> rfl) (hv _ (by simp [ikP]))
      have pC : ∀ p, PE X (.Name "column" p) (tVar 2) := fun p => pe_var (by rw [hN] <;> rfl) (hv _ (by simp [ikP]))
      refine ⟨_, pss_cons (ps_expr (pe_seinit hg hm sg hr vV (pa_cons (pS _) (pa_cons (pe_joined (.cons pe_str (.cons (pe_fmt (pL _)) (.cons pe_str (.cons (pe_fmt (pC _)) .nil))))) pa_nil)) (by rw [hp]; exact beq_self_eq_true _)))
        (pss_cons (ps_ost (pS _) (pL _)) (pss_cons (ps_ost (pS _) (pC _)) pss_nil)), fun D a ws fs H ha hw hq => ?_⟩
      · obtain ⟨l, k, rfl, ⟨hk, hk2⟩, ⟨hj, hj2⟩, rfl⟩ := mkV_syn hw
        have z0 : (Str.empty : Str).length = 0 := rfl
        exact ⟨_, rfl, _, rfl, (by simp only [strLen_append]; omega), .int l, rfl, .inr ⟨l, rfl, hk, toString l, rfl, (by simp only [strLen_append]; omega), _, rfl, (by simp only [strLen_append]; omega), .int k, rfl, .inr ⟨k, rfl, hj, toString k, rfl, (by simp only [strLen_append]; omega), a, _, [_], rfl, by simp, T, ha, .int l, rfl, .ref a, rfl, a, _, rfl, T, hno _ rfl, .inl ⟨ha, fun dx n1 n2 =>
          ⟨.int k, rfl, .ref a, rfl, a, _, rfl, T, hno _ rfl, .inr ⟨dx, _, upd_same, by rw [upd_ne n2, upd_same], by simp, hq _ dx (by rw [upd_ne (Ne.symm n2), upd_same]) upd_same n2 n1 fun b o hb e => by
            rw [upd_ne (ne_of_none e n1)]
            exact same_upd n1 b o hb e⟩⟩⟩⟩⟩⟩
    · cases hb
  | rul =>
    have hb : initR body = true := hb
    unfold initR at hb
    split at hb
    · simp only [Bool.and_eq_true, beq_iff_eq, decide_eq_true_eq] at hb
      obtain ⟨⟨⟨⟨⟨⟨rfl, rfl⟩, rfl⟩, rfl⟩, rfl⟩, rfl⟩, hp⟩ := hb
      have pS : ∀ p, PE X (.Name "self" p) (tVar 0) := fun p => pe_var (by rw [hN] <;> rfl) (hv _ (by simp [ikP]))
      have pL : ∀ p, PE X (.Name "paper" p) (tVar 1) := fun p => pe_var (by rw [hN] <;> rfl) (hv _ (by simp [ikP]))
      refine ⟨_, pss_cons (ps_expr (pe_seinit hg hm sg hr vV (pa_cons (pS _) (pa_cons pe_str pa_nil)) (by rw [hp]; exact beq_self_eq_true _))) (pss_cons (ps_ost (pS _) (pL _)) pss_nil), fun D a ws fs H ha hw hq => ?_⟩
      · obtain ⟨v, rfl, rfl⟩ := mkV_rul hw
        exact ⟨_, rfl, a, _, [_], rfl, by simp, T, ha, v, rfl, .ref a, rfl, a, _, rfl, T, hno _ rfl, .inl ⟨ha, fun dx n1 n2 => hq _ dx upd_same (by rw [upd_ne n2, upd_same]) n2 n1 (same_upd n1)⟩⟩
    · cases hb
end
section
variable {P : Program} {w : World} {K : PySem.W.Frag} {mg : Str → Option Value} {base : Heap}
/-- an own __init__ as a def -/
theorem ini_ok (e : ErrOk K mg) (k : Ik) : ∃ fI fd, PySem.W.findIn K (.ref (He.ga K (ikN k))) "__init__" = some (some (.ref fI)) ∧ PySem.W.typeIn K (.ref fI) = some (.type "function") ∧ Binds K fd (ikP k) [] ∧ FnOk P w K mg base (CX P w) 1 fI fd (ikP k) (spM K k) := by
  obtain ⟨fI, fd, params, body, scope, iC, tI, F, hb, S, hs, hbo⟩ := e.ini k
  obtain ⟨s1, s2, s3⟩ := e.sho
  refine ⟨fI, fd, iC, tI, hb, F.ok (N := ikP k) S (fun vs H Q E ⟨a, ws, fs, h, hl, _⟩ => by rw [h, List.length_cons]; exact hl) fun cdv A outer s H vs Q E hr2 ⟨a, ws, fs, ev, hl, ha, hw, hq⟩ => ?_⟩
  subst ev
  have hv : ∀ x ∈ ikP k, Vis scope x := fun x hx => by
    rcases S.par x hx with q | q <;> (unfold Vis; rw [q]; simp)
  have hk : errN.contains (ikN k) = true := by cases k <;> rfl
  obtain ⟨t, ht, go⟩ := init_bodyM (X := cxOf (CX P w) P w K mg base (ikP k) (ikQ k) scope fI cdv A outer s H E) k rfl hv hs hbo (e.glo "ShownError" rfl) s1 s2 s3 (e.oex k) fun f hf => e.fld _ f hk hf
  exact ⟨t, ht, go _ a ws fs H ha hw fun H2 dx h1 h2 h3 h4 h5 => hq H2 dx h1 h2 h3 h4 h5⟩
end
section
variable {c : Cfg} {Φ : Phi} {n : Nat} {xr : XR} {X : Cx} {W : WX} {pos : Pos} {l : Expr} {a : Ex}
theorem le_of_keeps {H H2 : Hp} {a : Addr} (hn : H a = none) (k : ∀ b o, b ≠ a → upd H a o' b = some o → H2 b = some o) : Same H H2 := fun b o e => by
  have hb : b ≠ a := fun z => by rw [z, hn] at e; cases e
  exact k b o hb (by rw [upd_ne hb]; exact e)
theorem snd_mkE (o : CxOk c Φ n xr X W) {k x : Str} {p : Pos} (h1 : (x == k) = true) (h2 : gloB c x = true) (h3 : errM.contains k = true) (hn : nst l = true) (he : PE X l (rE Φ xr W X.K a)) : PE X (.Call (.Name x p) [l] [] pos) (rE Φ xr W X.K (.mkE k a)) := by
  obtain rfl := eq_of_beq h1
  obtain ⟨g, dd, _⟩ := o.glo h2
  obtain ⟨q1, q2⟩ := o.err.mka x h3
  have hx : errN.contains x = true := by
    have : ∀ y ∈ errM, errN.contains y = true := by decide
    exact this x (List.contains_iff_mem.mp h3)
  refine peI (pe_fz (pe_exc1 PySem.F.excBase_ValueError q1 (o.err.glo x hx) q2 g he (star_cons hn) dd)) fun σ H Q ⟨G, ρ, S, E, P, R, w, post, ex⟩ => ?_
  have w : wpE Φ E a ρ S fun _ ρ1 S1 => P (.d (errD x [])) ρ1 S1 := w
  refine ⟨G, ρ, S, E, _, R, w, fun v ρ1 S1 u H1 p R1 rv l1 q hq => ⟨q, _, rfl, upd_same, trivial, fun ob => ?_⟩, ex⟩
  rw [upd_upd]
  have sm : Same H1 (upd H1 q (.frz ob (ExO (.ref (He.ga X.K x)) q))) := Same.upd hq
  exact post (.d (errD x [])) _ _ (.ref q) _ p (R1.ext sm) (.inr (.inr ⟨q, x, [], rfl, .inl ⟨rfl, ob, upd_same⟩, rfl, rfl⟩)) (l1.trans (Le.of_same sm))
/-- two objects frozen when they have come -/
theorem pe_fz2 {e : Expr} {t : TE} (h : PE X e t) : PE X e (fun σ H Q => t σ H fun x H1 => ∃ p u d v, x = .ref p ∧ p ≠ d ∧ H1 p = some u ∧ Mut (some u) ∧ H1 d = some v ∧ Mut (some v) ∧ ∀ ob od, Q x (upd (upd H1 p (.frz ob u)) d (.frz od v))) := ⟨fun pins s σ H Q I w => thn (h.run pins s σ H _ I w) fun w' s' ⟨x, H1, I1, r, p, u, d, v, ex, ne, e1, m1, e2, m2, q⟩ => by
  obtain ⟨ob, I2⟩ := I1.lock e1 m1
  obtain ⟨od, I3⟩ := I2.lock (d := d) (u := v) (by rw [upd_ne (Ne.symm ne)]; exact e2) m2
  exact ⟨x, _, I3, r, q ob od⟩⟩
theorem mkV_of {H : Hp} {k : Ik} {vs : List PV} {us : List V} {Q : List (Str × PyData) → Prop} {K : PySem.W.Frag} (h : mkP k vs Q) (r : RepVs K H vs us) : ∃ fs gs, mkV k us gs ∧ us.length + 1 = (ikP k).length ∧ Q fs ∧ RepF K H (fs.map fun p => (.str p.1, p.2)) gs := by
  cases k with
  | lim =>
    rcases vs with _ | ⟨v, _ | ⟨v2, vr⟩⟩
    · exact (show False from h).elim
    · cases v <;> try exact (show False from h).elim
      rename_i d
      cases d <;> try exact (show False from h).elim
      cases r with | cons r1 r2 =>
      cases r2
      cases (show _ = V.int _ from r1)
      exact ⟨_, _, ⟨h.1, rfl⟩, rfl, h.2, _, _, _, rfl, rfl, rfl, rfl⟩
    · cases v <;> try exact (show False from h).elim
      rename_i d
      cases d <;> exact (show False from h).elim
  | syn =>
    rcases vs with _ | ⟨v, _ | ⟨v2, _ | ⟨v3, vr⟩⟩⟩
    · exact (show False from h).elim
    · cases v <;> try exact (show False from h).elim
      rename_i d
      cases d <;> exact (show False from h).elim
    · cases v <;> try exact (show False from h).elim
      rename_i d
      cases d <;> try exact (show False from h).elim
      cases v2 <;> try exact (show False from h).elim
      rename_i d2
      cases d2 <;> try exact (show False from h).elim
      cases r with | cons r1 r2 =>
      cases r2 with | cons r2 r3 =>
      cases r3
      cases (show _ = V.int _ from r1)
      cases (show _ = V.int _ from r2)
      exact ⟨_, _, ⟨h.1, h.2.1, rfl⟩, rfl, h.2.2, _, _, _, rfl, rfl, rfl, _, _, _, rfl, rfl, rfl, rfl⟩
    · cases v <;> try exact (show False from h).elim
      rename_i d
      cases d <;> try exact (show False from h).elim
      cases v2 <;> try exact (show False from h).elim
      rename_i d2
      cases d2 <;> exact (show False from h).elim
  | rul =>
    rcases vs with _ | ⟨v, _ | ⟨v2, vr⟩⟩
    · exact (show False from h).elim
    · cases v <;> try exact (show False from h).elim
      cases r with | cons r1 r2 =>
      cases r2
      exact ⟨_, _, rfl, rfl, h, _, _, _, rfl, rfl, r1, rfl⟩
    · cases v <;> exact (show False from h).elim
theorem snd_mkI (o : CxOk c Φ n xr X W) {k : Ik} {x : Str} {p : Pos} {as : List Ex} {es : List Expr} (h1 : (x == ikN k) = true) (h2 : gloB c x = true) (hn : (l :: es).all nst = true) (he : PA X (l :: es) (rAs Φ xr W X.K as)) : PE X (.Call (.Name x p) (l :: es) [] pos) (rE Φ xr W X.K (.mkI k as)) := by
  obtain rfl := eq_of_beq h1
  obtain ⟨g, dd, _⟩ := o.glo h2
  have hk : errN.contains (ikN k) = true := by cases k <;> rfl
  obtain ⟨fI, fd, iC, tI, hb, F1⟩ := ini_ok (P := X.prog) (w := X.w) (base := X.base) o.err k
  have rm : Room (1 + 1) X.A := o.room.mono (by omega)
  have hn' : (nst l && es.all nst) = true := hn
  refine peI (pe_fz2 (pe_oexV (o.err.oex k) iC tI F1 rm hb (fun pins σ H s e s' I ⟨_, _, _, _, _, _, _, _, _, _, _, _, z⟩ => z.elim) g (o.err.glo _ hk) he dd (star_cons (and_of hn').1) (star_plain (and_of hn').2))) fun σ H Q ⟨G, ρ, S, E, P, R, w, post, ex⟩ => ?_
  have w : wpAs Φ E as ρ S fun vs ρ1 S1 => mkP k vs fun fs => P (.d (errD (ikN k) fs)) ρ1 S1 := w
  refine ⟨G, ρ, S, E, _, R, w, fun vs ρ1 S1 us H1 p R1 rv l1 => ?_, ex⟩
  obtain ⟨fs, gs, m1, m2, p, rf⟩ := mkV_of p rv
  have m3 : us.length ≤ 1000 := by
    have : (ikP k).length ≤ 3 := by cases k <;> decide
    omega
  refine ⟨m3, fun q hq => ⟨q, us, gs, rfl, m2, upd_same, m1, fun H2 dx e1 e2 ne nn k2 => ⟨rfl, q, _, dx, _, rfl, Ne.symm ne, e1, trivial, e2, trivial, fun ob od => ?_⟩⟩⟩
  have sm0 : Same H1 H2 := le_of_keeps hq k2
  have hdx : H1 dx = none := by rw [upd_ne ne] at nn; exact nn
  have sm : Same H1 (upd (upd H2 q (.frz ob (exo q (He.ga X.K (ikN k)) (some dx)))) dx (.frz od (exd dx gs))) := fun b u e => by
    rw [upd_ne (ne_of_none e hdx), upd_ne (ne_of_none e hq)]
    exact sm0 b u e
  exact post (.d (errD (ikN k) fs)) _ _ (.ref q) _ p (R1.ext sm) (.inr (.inr ⟨q, ikN k, gs, rfl, .inr ⟨ob, dx, od, by rw [upd_ne (Ne.symm ne), upd_same], upd_same⟩, rfl, RepF.le (Le.of_same sm) _ rf⟩)) (l1.trans (Le.of_same sm))
end
section
variable {c : Cfg} {Φ : Phi} {n : Nat} {xr : XR} {X : Cx} {W : WX} {pos : Pos} {l r : Expr} {a : Ex} {K : PySem.W.Frag} {H : Hp}
theorem Cur.err {kvs : List (PyData × PyData)} {v : V} {k : Str} (h : Cur K H (.dict kvs) v) (e : errOf kvs = some k) : ∃ a fs, v = .ref a ∧ ErrAt H a (He.ga K k) fs ∧ RepF K H kvs.tail fs := by
  rcases h with ⟨a, ks, rfl, _, r⟩ | ⟨_, _, _, _, _, _, ⟨_, q⟩, _⟩ | ⟨a, k', fs, rfl, h, r⟩
  · cases kvs with
    | nil => cases e
    | cons p t =>
      obtain ⟨q, v, s, _, z, _⟩ := r
      obtain ⟨p1, p2⟩ := p
      cases p1 <;> first | cases e | cases z
  · rw [q] at e; cases e
  · obtain ⟨e2, r2⟩ := r.err
    rw [e2] at e
    cases e
    exact ⟨a, fs, rfl, h, r2⟩
theorem isxP_of {q : Xq} {d : PyData} {Q : Bool → Prop} (h : isxP q d Q) : ∃ kvs k, d = .dict kvs ∧ errOf kvs = some k ∧ errN.contains k = true ∧ Q (isxB q k) := by
  cases d <;> try exact (show False from h).elim
  rename_i kvs
  have h : (match errOf kvs with
    | some c => errN.contains c = true ∧ Q (isxB q c)
    | none => False) := h
  split at h
  · rename_i k e
    exact ⟨kvs, k, rfl, e, h.1, h.2⟩
  · exact h.elim
theorem fldP_of {f : Str} {d : PyData} {Q : PyData → Prop} (h : fldP f d Q) : ∃ kvs k x, d = .dict kvs ∧ errOf kvs = some k ∧ lookF f kvs.tail = some x ∧ errN.contains k = true ∧ fldN.contains f = true ∧ Q x := by
  cases d <;> try exact (show False from h).elim
  rename_i kvs
  have h : (match errOf kvs, lookF f kvs.tail with
    | some c, some x => errN.contains c = true ∧ fldN.contains f = true ∧ Q x
    | _, _ => False) := h
  split at h
  · rename_i k x e1 e2
    exact ⟨kvs, k, x, rfl, e1, e2, h.1, h.2.1, h.2.2⟩
  · exact h.elim
theorem snd_isx (o : CxOk c Φ n xr X W) {q : Xq} {x : Str} {p1 : Pos} (hx : (x == ("isinstance" : Str)) = true) (bx : bltB c x = true) (hl : nst l = true) (hr : isxC c q r = true) (ha : PE X l (rX Φ xr W X.K a)) : PE X (.Call (.Name x p1) [l, r] [] pos) (rE Φ xr W X.K (.isx q a)) := by
  obtain rfl := eq_of_beq hx
  obtain ⟨g, hm, hd, hn⟩ := o.bltn bx
  have hst : starEach [r] X.env = (false, eval r X.env) :: starEach [] X.env := by
    unfold isxC at hr
    split at hr <;> first | rfl | cases hr
  have hpl : (backTo pos (starEach [r] X.env)).any (·.1) = false := by rw [hst] <;> rfl
  have one : ∀ {k : V} {cv : Value}, PE X r (tC k) → (∀ u, RelV k u → u = cv) → (∀ y, errN.contains y = true → PySem.W.kitOne X.K (.ref (He.ga X.K y)) cv = some (isxB q y)) → PE X (.Call (.Name "isinstance" p1) [l, r] [] pos) (rE Φ xr W X.K (.isx q a)) := fun {k cv} pr hcv hk => by
    refine peI (pe_callB (opIsx rfl o.err.exc) g hm boot_isi (pa_cons ha (pa_cons pr pa_nil hst) (star_cons hl)) hn hd (star_cons hl) hpl) fun σ H Q ⟨G, ρ, S, E, P, R, w, post, ex⟩ => ⟨G, ρ, S, E, _, R, w, fun y ρ1 S1 u H1 p1 R1 r1 l1 => ?_, ex⟩
    obtain ⟨d, cd, p⟩ := con_sound R1 p1 r1
    obtain ⟨kvs, y, rfl, e1, e2, p⟩ := isxP_of p
    obtain ⟨b, fs, rfl, he, _⟩ := cd.err e1
    exact ⟨b, y, fs, k, _, rfl, he, e2, .inl ⟨cv, hcv, hk y e2⟩, post (.d (.bool _)) _ _ (.bl _) _ p R1 rfl l1⟩
  unfold isxC at hr
  split at hr
  · rename_i d y pp
    obtain ⟨h, h3⟩ := and_of hr
    obtain ⟨h1, h2⟩ := and_of h
    obtain rfl := eq_of_beq h1
    obtain ⟨g2, d2, _⟩ := o.glo h2
    exact one (k := .ref (He.ga X.K y)) (pe_glob g2 (o.err.glo _ h3) rfl d2) (fun u z => z) fun z hz => o.err.one z y hz h3
  · rename_i y pp
    obtain ⟨h1, h2⟩ := and_of hr
    obtain rfl := eq_of_beq h1
    obtain ⟨g2, m2, d2, n2⟩ := o.bltn h2
    exact one (k := .ty "ValueError") (pe_bltn g2 m2 PyProof.Rows.Boot.«ValueError» rfl n2 d2) (fun u z => z) fun z hz => o.err.val z hz
  · rename_i x1 q1 x2 q2 x3 q3 kk tp
    obtain ⟨h, h6⟩ := and_of hr
    obtain ⟨h, h5⟩ := and_of h
    obtain ⟨h, h4⟩ := and_of h
    obtain ⟨h, h3⟩ := and_of h
    obtain ⟨h1, h2⟩ := and_of h
    obtain rfl := eq_of_beq h1
    obtain rfl := eq_of_beq h2
    obtain rfl := eq_of_beq h3
    obtain ⟨g4, m4, d4, n4⟩ := o.bltn h4
    obtain ⟨g5, m5, d5, n5⟩ := o.bltn h5
    obtain ⟨g6, m6, d6, n6⟩ := o.bltn h6
    have pr := pe_tup (pos := tp) (x1 := kk) (pa_cons (pe_bltn (v := .ty "KeyError") (pos := q1) g4 m4 (by decide +kernel) rfl n4 d4) (pa_cons (pe_bltn (v := .ty "IndexError") (pos := q2) g5 m5 (by decide +kernel) rfl n5 d5) (pa_cons (pe_bltn (v := .ty "TypeError") (pos := q3) g6 m6 (by decide +kernel) rfl n6 d6) pa_nil)))
    refine peI (pe_callB (opIsx rfl o.err.exc) g hm boot_isi (pa_cons ha (pa_cons pr pa_nil hst) (star_cons hl)) hn hd (star_cons hl) hpl) fun σ H Q ⟨G, ρ, S, E, P, R, w, post, ex⟩ => ⟨G, ρ, S, E, _, R, w, fun y ρ1 S1 u H1 p1 R1 r1 l1 => ?_, ex⟩
    obtain ⟨d, cd, p⟩ := con_sound R1 p1 r1
    obtain ⟨kvs, y, rfl, e1, e2, p⟩ := isxP_of p
    obtain ⟨b, fs, rfl, he, _⟩ := cd.err e1
    refine ⟨by decide, fun T hT => ?_⟩
    have sm : Same H1 (upd H1 T (.tup [.ty "KeyError", .ty "IndexError", .ty "TypeError"])) := Same.upd hT
    exact ⟨b, y, fs, .ref T, _, rfl, he.le (Le.of_same sm), e2, .inr ⟨T, _, _, rfl, upd_same, .cons (.ty "KeyError") (.cons (.ty "IndexError") (.cons (.ty "TypeError") .nil)), o.err.oth y e2⟩, post (.d (.bool _)) _ _ (.bl _) _ p (R1.ext sm) rfl (l1.trans (Le.of_same sm))⟩
  · cases hr
theorem snd_fld (o : CxOk c Φ n xr X W) {f m : Str} (h1 : (m == f) = true) (hf : fldN.contains f = true) (h2 : atB l = true) (h : PE X l (rE Φ xr W X.K a)) : PE X (.Attribute l m pos) (rE Φ xr W X.K (.fld f a)) := by
  obtain rfl := eq_of_beq h1
  have hb : attributeBase l m X.env (eval l X.env) = eval l X.env := by
    unfold atB at h2
    split at h2
    · rfl
    · cases h2
  refine peI (pe_fldE o.err hf h hb) fun σ H Q ⟨G, ρ, S, E, P, R, w, post, ex⟩ => ⟨G, ρ, S, E, _, R, w, fun v ρ1 S1 u H1 p R1 rv l1 => ?_, ex⟩
  obtain ⟨d, rfl, p⟩ := isD_of p
  obtain ⟨kvs, k, x, rfl, e1, e2, e3, _, p⟩ := fldP_of p
  obtain ⟨b, fs, rfl, he, rf⟩ := (Rep.cur (d := .dict kvs) rv).err e1
  obtain ⟨v, e4, rx⟩ := rf.look e2
  exact ⟨b, k, fs, v, rfl, e3, he, e4, post (.d x) _ _ v _ p R1 rx l1⟩
end
end Lk
/-! D10: every expression that the checker passes does what the lifted semantics says. -/
namespace Lk
open PySem PySem.Spec PyProof.Rows L2
theorem all_nst : ∀ {es : List Expr}, es.all nst = true → ∀ e ∈ es, nst e = true := fun {es} h e he => List.all_eq_true.mp h e he
theorem srcC_of {c : Cfg} {tg it : Expr} {sk : Sk} {es : List Expr} (h : srcC c tg sk it = some es) : ∃ x p pos, it = .Call (.Name x p) es [] pos ∧ (x == skN sk) = true ∧ bltB c x = true ∧ es.all nst = true ∧ skL tg es sk = true := by
  unfold srcC at h
  split at h
  · split at h
    · rename_i q
      cases h
      simp only [Bool.and_eq_true] at q
      exact ⟨_, _, _, rfl, q.1.1.1, q.1.1.2, q.1.2, q.2⟩
    · cases h
  · cases h
theorem srcM_of {m : Str} {it : Expr} {es : List Expr} (h : srcM m it = some es) : ∃ e x ap p, it = .Call (.Attribute e x ap) [] [] p ∧ es = [e] ∧ (x == m) = true ∧ (ap.endLine == p.line) = true ∧ isNm e = true ∧ nst e = true := by
  unfold srcM at h
  split at h
  · split at h
    · rename_i q
      cases h
      simp only [Bool.and_eq_true] at q
      exact ⟨_, _, _, _, rfl, rfl, q.1.1.1, q.1.1.2, q.1.2, q.2⟩
    · cases h
  · cases h
/-- the head of a loop -/
theorem src_snd {c : Cfg} {Φ : Phi} {n : Nat} {xr : XR} {X : Cx} {W : WX} (o : CxOk c Φ n xr X W) {t it : Expr} {sk : Sk} {as : List Ex} {es : List Expr} (h : srcE c t sk it = some es) (ha : chkAs c as es = true)
    (hp : ∀ a e, a ∈ as → e ∈ es → chkE c a e = true → PE X e (rE Φ xr W X.K a)) : PI X t it (rSrc Φ xr W X.K sk as) := by
  have one : ∀ {e : Expr}, es = [e] → ∃ a, as = [a] ∧ PE X e (rE Φ xr W X.K a) := fun {e} q => by
    subst q
    cases as with
    | nil => cases ha
    | cons a as =>
      have ha : (chkE c a e && chkAs c as []) = true := ha
      cases as with
      | nil => exact ⟨a, rfl, hp a e (by simp) (by simp) (and_of ha).1⟩
      | cons _ _ => cases (and_of ha).2
  have two : ∀ {e e2 : Expr}, es = [e, e2] → ∃ a a2, as = [a, a2] ∧ PE X e (rE Φ xr W X.K a) ∧ PE X e2 (rE Φ xr W X.K a2) := fun {e e2} q => by
    subst q
    cases as with
    | nil => cases ha
    | cons a as =>
      have ha : (chkE c a e && chkAs c as [e2]) = true := ha
      cases as with
      | nil => cases (and_of ha).2
      | cons a2 as =>
        have ha2 : (chkE c a2 e2 && chkAs c as []) = true := (and_of ha).2
        cases as with
        | nil => exact ⟨a, a2, rfl, hp a e (by simp) (by simp) (and_of ha).1, hp a2 e2 (by simp) (by simp) (and_of ha2).1⟩
        | cons _ _ => cases (and_of ha2).2
  have l1 : ∀ {l : List Expr}, l.length = 1 → ∃ e, l = [e] := fun {l} q => by
    match l, q with
    | [e], _ => exact ⟨e, rfl⟩
  have l2 : ∀ {l : List Expr}, l.length = 2 → ∃ e e2, l = [e, e2] := fun {l} q => by
    match l, q with
    | [e, e2], _ => exact ⟨e, e2, rfl⟩
  cases sk with
  | val =>
    have h : (if (nset it && nst it) = true then some [it] else none) = some es := h
    split at h
    · cases h
      obtain ⟨a, rfl, p⟩ := one rfl
      exact src_val o.sys p
    · cases h
  | rngC =>
    obtain ⟨x, p, pos, rfl, q1, q2, q3, q4⟩ := srcC_of (show srcC c t .rngC it = some es from h)
    have q4 : (es.length == 3) = true := q4
    obtain ⟨e, e2, e3, rfl⟩ : ∃ e e2 e3, es = [e, e2, e3] := by
      match es, (by simpa using q4 : es.length = 3) with
      | [e, e2, e3], _ => exact ⟨e, e2, e3, rfl⟩
    cases as with
    | nil => cases ha
    | cons a as =>
      have ha : (chkE c a e && chkAs c as [e2, e3]) = true := ha
      cases as with
      | nil => cases (and_of ha).2
      | cons a2 as =>
        have ha2 : (chkE c a2 e2 && chkAs c as [e3]) = true := (and_of ha).2
        cases as with
        | nil => cases (and_of ha2).2
        | cons a3 as =>
          have ha3 : (chkE c a3 e3 && chkAs c as []) = true := (and_of ha2).2
          cases as with
          | nil => exact src_rng3 o q1 q2 (all_nst q3 e (by simp)) (all_nst q3 e2 (by simp)) (all_nst q3 e3 (by simp)) (hp a e (by simp) (by simp) (and_of ha).1) (hp a2 e2 (by simp) (by simp) (and_of ha2).1) (hp a3 e3 (by simp) (by simp) (and_of ha3).1)
          | cons _ _ => cases (and_of ha3).2
  | rng =>
    obtain ⟨x, p, pos, rfl, q1, q2, q3, q4⟩ := srcC_of (show srcC c t .rng it = some es from h)
    have q4 : (es.length == 1 || es.length == 2) = true := q4
    simp only [Bool.or_eq_true, beq_iff_eq] at q4
    rcases q4 with q4 | q4
    · obtain ⟨e, rfl⟩ := l1 q4
      obtain ⟨a, rfl, pe⟩ := one rfl
      exact src_rng1 o q1 q2 (all_nst q3 e (by simp)) pe
    · obtain ⟨e, e2, rfl⟩ := l2 q4
      obtain ⟨a, a2, rfl, pe, pe2⟩ := two rfl
      exact src_rng2 o q1 q2 (all_nst q3 e (by simp)) (all_nst q3 e2 (by simp)) pe pe2
  | enum =>
    obtain ⟨x, p, pos, rfl, q1, q2, q3, q4⟩ := srcC_of (show srcC c t .enum it = some es from h)
    have q4 : (es.length == 1 && isTup t) = true := q4
    obtain ⟨e, rfl⟩ := l1 (by simpa using (and_of q4).1)
    obtain ⟨a, rfl, pe⟩ := one rfl
    exact src_enum1 o q1 q2 (all_nst q3 e (by simp)) (and_of q4).2 pe
  | items =>
    have h : (if isTup t = true then srcM "items" it else none) = some es := h
    split at h
    · rename_i ht
      obtain ⟨ts, kk, tp, rfl⟩ : ∃ ts kk tp, t = .Tuple ts kk tp := by cases t <;> first | exact ⟨_, _, _, rfl⟩ | cases ht
      obtain ⟨e, m, ap, p, rfl, rfl, q1, q2, q3, _⟩ := srcM_of h
      obtain ⟨a, rfl, pe⟩ := one rfl
      exact src_items q1 q2 q3 pe
    · cases h
  | values =>
    obtain ⟨e, m, ap, p, rfl, rfl, q1, q2, q3, _⟩ := srcM_of (show srcM "values" it = some es from h)
    obtain ⟨a, rfl, pe⟩ := one rfl
    exact src_values q1 q2 q3 pe
  | itemsN =>
    have h : (if isNm t = true then srcM "items" it else none) = some es := h
    split at h
    · rename_i ht
      obtain ⟨y, yp, rfl⟩ : ∃ y yp, t = .Name y yp := by cases t <;> first | exact ⟨_, _, rfl⟩ | cases ht
      obtain ⟨e, m, ap, p, rfl, rfl, q1, q2, q3, _⟩ := srcM_of h
      obtain ⟨a, rfl, pe⟩ := one rfl
      exact src_itemsN o.sys q1 q2 q3 pe
    · cases h
  | enZ =>
    have h : (if isTup t = true then srcZ2 c it else none) = some es := h
    split at h
    · rename_i ht
      unfold srcZ2 at h
      split at h
      · split at h
        · rename_i hb
          cases h
          obtain ⟨hb, b4⟩ := and_of hb
          obtain ⟨hb, b3⟩ := and_of hb
          obtain ⟨b1, b2⟩ := and_of hb
          obtain ⟨a, rfl, pe⟩ := one rfl
          exact src_enZ1 o b1 b2 b3 b4 ht pe
        · cases h
      · cases h
    · cases h
  | zipS =>
    have h : (if isNm t = true then srcS c it else none) = some es := h
    split at h
    · rename_i ht
      unfold srcS at h
      split at h
      · split at h
        · rename_i hb
          cases h
          obtain ⟨a, rfl, pe⟩ := one rfl
          exact src_zipS1 o (and_of hb).1 (and_of hb).2 ht pe
        · cases h
      · cases h
    · cases h
  | zip =>
    obtain ⟨x, p, pos, rfl, q1, q2, q3, q4⟩ := srcC_of (show srcC c t .zip it = some es from h)
    have q4 : (es.length == 2 && isTup t) = true := q4
    obtain ⟨e, e2, rfl⟩ := l2 (by simpa using (and_of q4).1)
    obtain ⟨a, a2, rfl, pe, pe2⟩ := two rfl
    exact src_zip2 o q1 q2 (all_nst q3 e (by simp)) (all_nst q3 e2 (by simp)) (and_of q4).2 pe pe2
mutual
theorem sndE {Φ : Phi} {n : Nat} {xr : XR} : ∀ (a : Ex) {c : Cfg} {X : Cx} {W : WX} (o : CxOk c Φ n xr X W) {e : Expr}, chkE c a e = true → PE X e (rE Φ xr W X.K a)
  | .kd d, _, _, _, o, e, h => snd_kd h
  | .var i, c, _, _, o, e, h => by
    unfold chkE at h
    split at h
    · exact snd_var o h
    · cases h
  | .gl x d, c, _, _, o, e, h => by
    unfold chkE at h
    split at h
    · obtain ⟨h, h3⟩ := and_of h
      obtain ⟨h1, h2⟩ := and_of h
      obtain rfl := of_decide_eq_true h1
      exact snd_gl o h2 h3
    · cases h
  | .bin op a b, c, _, _, o, e, h => by
    unfold chkE at h
    split at h
    · obtain ⟨h, h3⟩ := and_of h
      obtain ⟨h1, h2⟩ := and_of h
      obtain rfl := of_decide_eq_true h1
      exact snd_bin (sndX o h2 (sndE a o h2)) (sndX o h3 (sndE b o h3))
    · cases h
  | .cmp op a b, c, _, _, o, e, h => by
    unfold chkE at h
    split at h
    · obtain ⟨h, h3⟩ := and_of h
      obtain ⟨h, h2⟩ := and_of h
      obtain ⟨h1, h0⟩ := and_of h
      obtain rfl := of_decide_eq_true h1
      exact snd_cmp o h0 (sndX o h2 (sndE a o h2)) (sndX o h3 (sndE b o h3))
    · cases h
  | .chain op op' a b d, c, _, _, o, e, h => by
    unfold chkE at h
    split at h
    · obtain ⟨h, h5⟩ := and_of h
      obtain ⟨h, h4⟩ := and_of h
      obtain ⟨h, h3⟩ := and_of h
      obtain ⟨h, h2⟩ := and_of h
      obtain ⟨h0, h1⟩ := and_of h
      obtain rfl := of_decide_eq_true h0
      obtain rfl := of_decide_eq_true h1
      exact snd_chain o h2 (sndX o h3 (sndE a o h3)) (sndX o h4 (sndE b o h4)) (sndX o h5 (sndE d o h5))
    · cases h
  | .isk neg k a, c, _, _, o, e, h => by
    unfold chkE at h
    split at h
    · obtain ⟨h, h3⟩ := and_of h
      obtain ⟨h, h2⟩ := and_of h
      obtain ⟨h0, h1⟩ := and_of h
      exact snd_isk (of_decide_eq_true h0) h1 h2 (sndE a o h3)
    · cases h
  | .inst T a, c, _, _, o, e, h => by
    unfold chkE at h
    split at h
    · obtain ⟨h, h6⟩ := and_of h
      obtain ⟨h, h5⟩ := and_of h
      obtain ⟨h, h4⟩ := and_of h
      obtain ⟨h, h3⟩ := and_of h
      obtain ⟨h, h2⟩ := and_of h
      obtain ⟨h0, h1⟩ := and_of h
      exact snd_inst o h0 h1 h2 h3 h4 h5 (sndX o h6 (sndE a o h6))
    · cases h
  | .andE as, c, _, _, o, e, h => by
    unfold chkE at h
    split at h
    · have := sndAnd as o h
      exact peI (this _) fun σ H Q z => z
    · cases h
  | .orE as, c, _, _, o, e, h => by
    unfold chkE at h
    split at h
    · have := sndOr as o h
      exact peI (this _) fun σ H Q z => z
    · cases h
  | .notE a, c, _, _, o, e, h => by
    unfold chkE at h
    split at h
    · exact snd_not (sndX o h (sndE a o h))
    · cases h
  | .ite t a b, c, _, _, o, e, h => by
    unfold chkE at h
    split at h
    · obtain ⟨h, h3⟩ := and_of h
      obtain ⟨h1, h2⟩ := and_of h
      exact snd_ite (sndT t o h1) (sndE a o h2) (sndE b o h3)
    · cases h
  | .fnc f a, c, _, _, o, e, h => by
    unfold chkE at h
    split at h
    · obtain ⟨h, h4⟩ := and_of h
      obtain ⟨h, h3⟩ := and_of h
      obtain ⟨h1, h2⟩ := and_of h
      exact snd_fnc o h1 h2 h3 (sndX o h4 (sndE a o h4))
    · cases h
  | .call f as, c, _, _, o, e, h => by
    unfold chkE at h
    split at h
    · obtain ⟨h, h5⟩ := and_of h
      obtain ⟨h, h4⟩ := and_of h
      obtain ⟨h, h3⟩ := and_of h
      obtain ⟨h1, h2⟩ := and_of h
      exact snd_call o h1 h2 h3 h4 (chkAs_len h5) (sndAs as o h5 h4)
    · cases h
  | .ix a b, c, _, _, o, e, h => by
    unfold chkE at h
    split at h
    · obtain ⟨h, h3⟩ := and_of h
      obtain ⟨h1, h2⟩ := and_of h
      exact snd_ix o h1 (sndX o h2 (sndE a o h2)) (sndX o h3 (sndE b o h3))
    · cases h
  | .slc lo hi a as, c, _, _, o, e, h => by
    unfold chkE at h
    split at h
    · rename_i l x y _ _
      obtain ⟨h, h4⟩ := and_of h
      obtain ⟨h, h3⟩ := and_of h
      obtain ⟨h1, h2⟩ := and_of h
      obtain rfl := eq_of_beq h1
      obtain rfl := eq_of_beq h2
      have pa := sndX o h3 (sndE a o h3)
      have hl := chkAs_len h4
      have els := sndEl as o h4
      cases x with
      | none =>
        cases y with
        | none =>
          cases as with
          | nil => exact snd_slc00 pa
          | cons _ _ => cases hl
        | some y =>
          match as, hl, els with
          | [b], _, els => exact snd_slc01 pa (els 0 b y rfl rfl)
      | some x =>
        cases y with
        | none =>
          match as, hl, els with
          | [b], _, els => exact snd_slc10 pa (els 0 b x rfl rfl)
        | some y =>
          match as, hl, els with
          | [b, d], _, els => exact snd_slc11 pa (els 0 b x rfl rfl) (els 1 d y rfl rfl)
    · cases h
  | .tup as, c, _, _, o, e, h => by
    unfold chkE at h
    split at h
    · exact snd_tup (sndIs as o h)
    · cases h
  | .lst sto as, c, _, _, o, e, h => by
    unfold chkE at h
    split at h
    · cases sto with
      | false => exact snd_lst (sndIs as o h)
      | true => exact snd_lstS (sndIs as o h)
    · cases h
  | .edic, c, _, _, o, e, h => by
    unfold chkE at h
    split at h
    · exact snd_edic
    · cases h
  | .frz a, c, _, _, o, e, h => by
    unfold chkE at h
    split at h
    · exact snd_frz (sndE a o h)
    · cases h
  | .edicS, c, _, _, o, e, h => by
    unfold chkE at h
    split at h
    · exact snd_edicS
    · cases h
  | .callB1 f a i, c, _, _, o, e, h => by
    unfold chkE at h
    split at h
    · obtain ⟨h, h6⟩ := and_of h
      obtain ⟨h, h5⟩ := and_of h
      obtain ⟨h, h4⟩ := and_of h
      obtain ⟨h, h3⟩ := and_of h
      obtain ⟨h1, h2⟩ := and_of h
      exact snd_callB1 o h1 h2 h3 h4 h5 (sndE a o h6)
    · cases h
  | .callB2 f a b i, c, _, _, o, e, h => by
    unfold chkE at h
    split at h
    · obtain ⟨h, h8⟩ := and_of h
      obtain ⟨h, h7⟩ := and_of h
      obtain ⟨h, h6⟩ := and_of h
      obtain ⟨h, h5⟩ := and_of h
      obtain ⟨h, h4⟩ := and_of h
      obtain ⟨h, h3⟩ := and_of h
      obtain ⟨h1, h2⟩ := and_of h
      exact snd_callB2 o h1 h2 h3 h4 h5 h6 (sndE a o h7) (sndE b o h8)
    · cases h
  | .comp own tg sk as cs w, c, X, W, o, e, h => by
    unfold chkE at h
    split at h
    · rename_i elt t it ifs z scope pos
      obtain ⟨h, h9⟩ := and_of h
      obtain ⟨h, h8⟩ := and_of h
      obtain ⟨h, h7⟩ := and_of h
      obtain ⟨h, h6⟩ := and_of h
      obtain ⟨h, h5⟩ := and_of h
      obtain ⟨h, h4⟩ := and_of h
      obtain ⟨h, h3⟩ := and_of h
      obtain ⟨h1, h2⟩ := and_of h
      obtain rfl := eq_of_beq h1
      split at h7
      · rename_i es he
        exact snd_comp o ⟨h2, h3, h4, h5, by simpa using h6, (chkTs_len h8).symm, src_snd o he h7 fun a e ha _ hc => sndMem as o a ha hc, fun X' W' o' t' e' e1 e2 => sndTm cs o' t' e' (by rw [e1]; simp) (by rw [e1, e2] at h8; exact (and_of (show (chkT _ t' e' && chkTs _ [] []) = true from h8)).1), fun X' W' o' => sndE w o' h9⟩
      · cases h7
    · cases h
  | .isB neg b a, c, _, _, o, e, h => by
    unfold chkE at h
    split at h
    · obtain ⟨h, h4⟩ := and_of h
      obtain ⟨h, h3⟩ := and_of h
      obtain ⟨h1, h2⟩ := and_of h
      exact snd_isB (of_decide_eq_true h1) h2 h3 (sndE a o h4)
    · cases h
  | .dget w k d, c, _, _, o, e, h => by
    unfold chkE at h
    split at h
    · obtain ⟨h, h8⟩ := and_of h
      obtain ⟨h, h7⟩ := and_of h
      obtain ⟨h, h6⟩ := and_of h
      obtain ⟨h, h5⟩ := and_of h
      obtain ⟨h, h4⟩ := and_of h
      obtain ⟨h, h3⟩ := and_of h
      obtain ⟨h1, h2⟩ := and_of h
      exact snd_dget o h1 h2 h3 h4 h5 (sndX o h6 (sndE w o h6)) (sndE k o h7) (sndE d o h8)
    · cases h
  | .trng a, c, _, _, o, e, h => by
    unfold chkE at h
    split at h
    · obtain ⟨h, h6⟩ := and_of h
      obtain ⟨h, h5⟩ := and_of h
      obtain ⟨h, h4⟩ := and_of h
      obtain ⟨h, h3⟩ := and_of h
      obtain ⟨h1, h2⟩ := and_of h
      exact snd_trng o h1 h2 h3 h4 h5 (sndE a o h6)
    · cases h
  | .ddis k w, c, _, _, o, e, h => by
    unfold chkE at h
    split at h
    · obtain ⟨h1, h2⟩ := and_of h
      exact snd_ddis o (sndE k o h1) (sndE w o h2)
    · cases h
  | .ddis2 k w k2 w2, c, _, _, o, e, h => by
    unfold chkE at h
    split at h
    · obtain ⟨h, h4⟩ := and_of h
      obtain ⟨h, h3⟩ := and_of h
      obtain ⟨h1, h2⟩ := and_of h
      exact snd_ddis2 o (sndE k o h1) (sndE w o h2) (sndE k2 o h3) (sndE w2 o h4)
    · cases h
  | .litems a, c, _, _, o, e, h => by
    unfold chkE at h
    split at h
    · obtain ⟨h, h6⟩ := and_of h
      obtain ⟨h, h5⟩ := and_of h
      obtain ⟨h, h4⟩ := and_of h
      obtain ⟨h, h3⟩ := and_of h
      obtain ⟨h1, h2⟩ := and_of h
      exact snd_litems o h1 h2 h3 h4 h5 (sndE a o h6)
    · cases h
  | .dctB a, c, _, _, o, e, h => by
    unfold chkE at h
    split at h
    · obtain ⟨h, h4⟩ := and_of h
      obtain ⟨h, h3⟩ := and_of h
      obtain ⟨h1, h2⟩ := and_of h
      exact snd_dctB o h1 h2 h3 (sndE a o h4)
    · cases h
  | .srtS a, c, _, _, o, e, h => by
    unfold chkE at h
    split at h
    · obtain ⟨h, h4⟩ := and_of h
      obtain ⟨h, h3⟩ := and_of h
      obtain ⟨h1, h2⟩ := and_of h
      exact snd_srtS o h1 h2 h3 (sndE a o h4)
    · cases h
  | .lidx a w, c, _, _, o, e, h => by
    unfold chkE at h
    split at h
    · obtain ⟨h, h6⟩ := and_of h
      obtain ⟨h, h5⟩ := and_of h
      obtain ⟨h, h4⟩ := and_of h
      obtain ⟨h, h3⟩ := and_of h
      obtain ⟨h1, h2⟩ := and_of h
      exact snd_lidx o h1 h2 h3 h4 (sndE a o h5) (sndE w o h6)
    · cases h
  | .lzip a b, c, _, _, o, e, h => by
    unfold chkE at h
    split at h
    · obtain ⟨h, h8⟩ := and_of h
      obtain ⟨h, h7⟩ := and_of h
      obtain ⟨h, h6⟩ := and_of h
      obtain ⟨h, h5⟩ := and_of h
      obtain ⟨h, h4⟩ := and_of h
      obtain ⟨h, h3⟩ := and_of h
      obtain ⟨h1, h2⟩ := and_of h
      exact snd_lzip o h1 h2 h3 h4 h5 h6 (sndX o h7 (sndE a o h7)) (sndX o h8 (sndE b o h8))
    · cases h
  | .dcomp own tg sk as cs ke w, c, X, W, o, e, h => by
    unfold chkE at h
    split at h
    · rename_i kx elt t it ifs z scope pos
      obtain ⟨h, h10⟩ := and_of h
      obtain ⟨h, h9⟩ := and_of h
      obtain ⟨h, h8⟩ := and_of h
      obtain ⟨h, h7⟩ := and_of h
      obtain ⟨h, h6⟩ := and_of h
      obtain ⟨h, h5⟩ := and_of h
      obtain ⟨h, h4⟩ := and_of h
      obtain ⟨h, h3⟩ := and_of h
      obtain ⟨h1, h2⟩ := and_of h
      obtain rfl := eq_of_beq h1
      split at h7
      · rename_i es he
        exact snd_dcomp o ⟨h2, h3, h4, h5, by simpa using h6, (chkTs_len h8).symm, src_snd o he h7 fun a e ha _ hc => sndMem as o a ha hc, fun X' W' o' t' e' e1 e2 => sndTm cs o' t' e' (by rw [e1]; simp) (by rw [e1, e2] at h8; exact (and_of (show (chkT _ t' e' && chkTs _ [] []) = true from h8)).1), fun X' W' o' => sndE w o' h10⟩ fun X' W' o' => sndE ke o' h9
      · cases h7
    · cases h
  | .dcompS own tg sk as cs ke w, c, X, W, o, e, h => by
    unfold chkE at h
    split at h
    · rename_i kx elt t it ifs z scope pos
      obtain ⟨h, h10⟩ := and_of h
      obtain ⟨h, h9⟩ := and_of h
      obtain ⟨h, h8⟩ := and_of h
      obtain ⟨h, h7⟩ := and_of h
      obtain ⟨h, h6⟩ := and_of h
      obtain ⟨h, h5⟩ := and_of h
      obtain ⟨h, h4⟩ := and_of h
      obtain ⟨h, h3⟩ := and_of h
      obtain ⟨h1, h2⟩ := and_of h
      obtain rfl := eq_of_beq h1
      split at h7
      · rename_i es he
        exact snd_dcompS o ⟨h2, h3, h4, h5, by simpa using h6, (chkTs_len h8).symm, src_snd o he h7 fun a e ha _ hc => sndMem as o a ha hc, fun X' W' o' t' e' e1 e2 => sndTm cs o' t' e' (by rw [e1]; simp) (by rw [e1, e2] at h8; exact (and_of (show (chkT _ t' e' && chkTs _ [] []) = true from h8)).1), fun X' W' o' => sndE w o' h10⟩ fun X' W' o' => sndE ke o' h9
      · cases h7
    · cases h
  | .callL fs i as, c, _, _, o, e, h => by
    unfold chkE at h
    split at h
    · obtain ⟨h, h6⟩ := and_of h
      obtain ⟨h, h5⟩ := and_of h
      obtain ⟨h, h4⟩ := and_of h
      obtain ⟨h, h3⟩ := and_of h
      obtain ⟨h, h2⟩ := and_of h
      obtain ⟨h1, h0⟩ := and_of h
      exact snd_callL o h1 (of_decide_eq_true h0) h2 (sndE i o h3) h4 (by simpa using h5) (sndAs as o h6 h4)
    · cases h
  | .join sep a, c, _, _, o, e, h => by
    unfold chkE at h
    split at h
    · obtain ⟨h, h5⟩ := and_of h
      obtain ⟨h, h4⟩ := and_of h
      obtain ⟨h, h3⟩ := and_of h
      obtain ⟨h1, h2⟩ := and_of h
      obtain rfl := eq_of_beq h1
      exact snd_join o h2 h3 h4 (sndX o h5 (sndE a o h5))
    · cases h
  | .comp2 own tg sk as cs own1 tg1 sk1 as1 cs1 w, c, X, W, o, e, h => by
    unfold chkE at h
    split at h
    · rename_i elt t it ifs z t1 it1 ifs1 z1 scope pos
      obtain ⟨h, h17⟩ := and_of h
      obtain ⟨h, h16⟩ := and_of h
      obtain ⟨h, h15⟩ := and_of h
      obtain ⟨h, h14⟩ := and_of h
      obtain ⟨h, h13⟩ := and_of h
      obtain ⟨h, h12⟩ := and_of h
      obtain ⟨h, h11⟩ := and_of h
      obtain ⟨h, h10⟩ := and_of h
      obtain ⟨h, h9⟩ := and_of h
      obtain ⟨h, h8⟩ := and_of h
      obtain ⟨h, h7⟩ := and_of h
      obtain ⟨h, h6⟩ := and_of h
      obtain ⟨h, h5⟩ := and_of h
      obtain ⟨h, h4⟩ := and_of h
      obtain ⟨h, h3⟩ := and_of h
      obtain ⟨h1, h2⟩ := and_of h
      obtain rfl := eq_of_beq h1
      obtain rfl := eq_of_beq h2
      split at h13
      · rename_i es he
        split at h14
        · rename_i es1 he1
          exact snd_comp2 o ⟨h3, h4, h5, h6, h7, h8, h9, h10, by simpa using h11, by simpa using h12, (chkTs_len h15).symm, (chkTs_len h16).symm, src_snd o he h13 fun a e ha _ hc => sndMem as o a ha hc, fun X' W' o' => src_snd o' he1 h14 fun a e ha _ hc => sndMem as1 o' a ha hc,
            fun X' W' o' t' e' e1 e2 => sndTm cs o' t' e' (by rw [e1]; simp) (by rw [e1, e2] at h15; exact (and_of (show (chkT _ t' e' && chkTs _ [] []) = true from h15)).1), fun X' W' o' t' e' e1 e2 => sndTm cs1 o' t' e' (by rw [e1]; simp) (by rw [e1, e2] at h16; exact (and_of (show (chkT _ t' e' && chkTs _ [] []) = true from h16)).1), fun X' W' o' => sndE w o' h17⟩
        · cases h14
      · cases h13
    · cases h
  | .rv all a, c, _, _, o, e, h => by
    unfold chkE at h
    split at h
    · obtain ⟨h1, h2⟩ := and_of h
      exact snd_rv all h1 (sndX o h2 (sndE a o h2))
    · cases h
  | .catS a b, c, _, _, o, e, h => by
    unfold chkE at h
    split at h
    · obtain ⟨h, h3⟩ := and_of h
      obtain ⟨h1, h2⟩ := and_of h
      obtain rfl := of_decide_eq_true h1
      exact snd_catS (sndX o h2 (sndE a o h2)) (sndX o h3 (sndE b o h3))
    · cases h
  | .mkE k a, c, _, _, o, e, h => by
    unfold chkE at h
    split at h
    · obtain ⟨h, h5⟩ := and_of h
      obtain ⟨h, h4⟩ := and_of h
      obtain ⟨h, h3⟩ := and_of h
      obtain ⟨h1, h2⟩ := and_of h
      exact snd_mkE o h1 h2 h3 h4 (sndE a o h5)
    · cases h
  | .mkI k as, c, _, _, o, e, h => by
    unfold chkE at h
    split at h
    · obtain ⟨h, h4⟩ := and_of h
      obtain ⟨h, h3⟩ := and_of h
      obtain ⟨h1, h2⟩ := and_of h
      exact snd_mkI o h1 h2 h3 (sndAs as o h4 h3)
    · cases h
  | .isx q a, c, _, _, o, e, h => by
    unfold chkE at h
    split at h
    · obtain ⟨h, h5⟩ := and_of h
      obtain ⟨h, h4⟩ := and_of h
      obtain ⟨h, h3⟩ := and_of h
      obtain ⟨h1, h2⟩ := and_of h
      exact snd_isx o h1 h2 h3 h5 (sndX o h4 (sndE a o h4))
    · cases h
  | .fld f a, c, _, _, o, e, h => by
    unfold chkE at h
    split at h
    · obtain ⟨h, h4⟩ := and_of h
      obtain ⟨h, h3⟩ := and_of h
      obtain ⟨h1, h2⟩ := and_of h
      exact snd_fld o h1 h2 h3 (sndE a o h4)
    · cases h
  | .fncS f a, c, _, _, o, e, h => by
    unfold chkE at h
    split at h
    · obtain ⟨h, h4⟩ := and_of h
      obtain ⟨h, h3⟩ := and_of h
      obtain ⟨h, h2⟩ := and_of h
      obtain ⟨h0, h1⟩ := and_of h
      exact snd_fncS o h0 h1 h2 h3 (sndX o h4 (sndE a o h4))
    · cases h
  | .compS own tg sk as cs w, c, X, W, o, e, h => by
    unfold chkE at h
    split at h
    · rename_i elt t it ifs z scope pos
      obtain ⟨h, h9⟩ := and_of h
      obtain ⟨h, h8⟩ := and_of h
      obtain ⟨h, h7⟩ := and_of h
      obtain ⟨h, h6⟩ := and_of h
      obtain ⟨h, h5⟩ := and_of h
      obtain ⟨h, h4⟩ := and_of h
      obtain ⟨h, h3⟩ := and_of h
      obtain ⟨h1, h2⟩ := and_of h
      obtain rfl := eq_of_beq h1
      split at h7
      · rename_i es he
        exact snd_compS o ⟨h2, h3, h4, h5, by simpa using h6, (chkTs_len h8).symm, src_snd o he h7 fun a e ha _ hc => sndMem as o a ha hc, fun X' W' o' t' e' e1 e2 => sndTm cs o' t' e' (by rw [e1]; simp) (by rw [e1, e2] at h8; exact (and_of (show (chkT _ t' e' && chkTs _ [] []) = true from h8)).1), fun X' W' o' => sndE w o' h9⟩
      · cases h7
    · cases h
  | .popv i, c, _, _, o, e, h => by
    unfold chkE at h
    split at h
    · obtain ⟨h, h3⟩ := and_of h
      obtain ⟨h1, h2⟩ := and_of h
      exact snd_pop o h1 h2 h3
    · cases h
theorem sndMem {Φ : Phi} {n : Nat} {xr : XR} : ∀ (as : List Ex) {c : Cfg} {X : Cx} {W : WX} (o : CxOk c Φ n xr X W) (a : Ex) {e : Expr}, a ∈ as → chkE c a e = true → PE X e (rE Φ xr W X.K a)
  | [], _, _, _, _, _, _, h, _ => nomatch h
  | b :: as, _, _, _, o, a, _, h, hc => by
    by_cases q : a ∈ as
    · exact sndMem as o a q hc
    · have e : a = b := by
        rcases List.mem_cons.mp h with z | z
        · exact z
        · exact absurd z q
      rw [e] at hc ⊢
      exact sndE b o hc
theorem sndTm {Φ : Phi} {n : Nat} {xr : XR} : ∀ (ts : List Te) {c : Cfg} {X : Cx} {W : WX} (o : CxOk c Φ n xr X W) (t : Te) (e : Expr), t ∈ ts → chkT c t e = true → PT X e (rT Φ xr W X.K t)
  | [], _, _, _, _, _, _, h, _ => nomatch h
  | b :: as, _, _, _, o, a, _, h, hc => by
    by_cases q : a ∈ as
    · exact sndTm as o a _ q hc
    · have e : a = b := by
        rcases List.mem_cons.mp h with z | z
        · exact z
        · exact absurd z q
      rw [e] at hc ⊢
      exact sndT b o hc
theorem sndEl {Φ : Phi} {n : Nat} {xr : XR} : ∀ (as : List Ex) {c : Cfg} {X : Cx} {W : WX} (o : CxOk c Φ n xr X W) {es : List Expr}, chkAs c as es = true → ∀ (i : Nat) (a : Ex) (e : Expr), as[i]? = some a → es[i]? = some e → PE X e (rE Φ xr W X.K a)
  | [], _, _, _, _, _, _, i, a, e, h, _ => by simp at h
  | b :: as, c, _, _, o, [], h, _, _, _, _, _ => nomatch h
  | b :: as, c, _, _, o, e :: es, h, 0, a, e', h1, h2 => by
    have h : (chkE c b e && chkAs c as es) = true := h
    simp at h1 h2
    subst h1 h2
    exact sndE b o (and_of h).1
  | b :: as, c, _, _, o, e :: es, h, i + 1, a, e', h1, h2 => by
    have h : (chkE c b e && chkAs c as es) = true := h
    exact sndEl as o (and_of h).2 i a e' (by simpa using h1) (by simpa using h2)
theorem sndAs {Φ : Phi} {n : Nat} {xr : XR} : ∀ (as : List Ex) {c : Cfg} {X : Cx} {W : WX} (o : CxOk c Φ n xr X W) {es : List Expr}, chkAs c as es = true → es.all nst = true → PA X es (rAs Φ xr W X.K as)
  | [], _, _, _, o, [], _, _ => snd_as0
  | [], _, _, _, o, _ :: _, h, _ => nomatch h
  | b :: as, c, _, _, o, [], h, _ => nomatch h
  | b :: as, c, _, _, o, e :: es, h, hn => by
    have h : (chkE c b e && chkAs c as es) = true := h
    have hn : (nst e && es.all nst) = true := hn
    exact snd_as1 (and_of hn).1 (sndE b o (and_of h).1) (sndAs as o (and_of h).2 (and_of hn).2)
theorem sndAnd {Φ : Phi} {n : Nat} {xr : XR} : ∀ (as : List Ex) {c : Cfg} {X : Cx} {W : WX} (o : CxOk c Φ n xr X W) {es : List Expr}, chkAs c as es = true → ∀ pos, PE X (.BoolOp .And es pos) (rAnd Φ xr W X.K as)
  | [], _, _, _, o, _, _, _ => snd_and0
  | b :: as, c, _, _, o, [], h, _ => nomatch h
  | b :: as, c, _, _, o, e :: es, h, pos => by
    have h : (chkE c b e && chkAs c as es) = true := h
    have h1 := sndE b o (and_of h).1
    have h2 := sndAnd as o (and_of h).2 pos
    cases as with
    | nil =>
      cases es with
      | nil => exact snd_and1 h1
      | cons _ _ => cases (and_of h).2
    | cons b2 as =>
      cases es with
      | nil => cases (and_of h).2
      | cons e2 es => exact snd_and2 h1 h2
theorem sndOr {Φ : Phi} {n : Nat} {xr : XR} : ∀ (as : List Ex) {c : Cfg} {X : Cx} {W : WX} (o : CxOk c Φ n xr X W) {es : List Expr}, chkAs c as es = true → ∀ pos, PE X (.BoolOp .Or es pos) (rOr Φ xr W X.K as)
  | [], _, _, _, o, _, _, _ => snd_or0
  | b :: as, c, _, _, o, [], h, _ => nomatch h
  | b :: as, c, _, _, o, e :: es, h, pos => by
    have h : (chkE c b e && chkAs c as es) = true := h
    have h1 := sndE b o (and_of h).1
    have h2 := sndOr as o (and_of h).2 pos
    cases as with
    | nil =>
      cases es with
      | nil => exact snd_or1 h1
      | cons _ _ => cases (and_of h).2
    | cons b2 as =>
      cases es with
      | nil => cases (and_of h).2
      | cons e2 es => exact snd_or2 h1 h2
theorem sndT {Φ : Phi} {n : Nat} {xr : XR} : ∀ (t : Te) {c : Cfg} {X : Cx} {W : WX} (o : CxOk c Φ n xr X W) {e : Expr}, chkT c t e = true → PT X e (rT Φ xr W X.K t)
  | .of a, c, X, W, o, e, h => by
    have h : ((tstB e || isCmp e) && chkE c a e) = true := h
    obtain ⟨h0, h1⟩ := and_of h
    by_cases ht : tstB e = true
    · exact snd_of ht (sndX o h1 (sndE a o h1))
    · have hc : ∃ l ops rs pos, e = .Compare l ops rs pos := by
        cases e <;> first | exact ⟨_, _, _, _, rfl⟩ | (exact absurd rfl ht) | cases h0
      obtain ⟨l, ops, rs, pos, rfl⟩ := hc
      exact sndCm a o h1
  | .and ts, c, X, W, o, e, h => by
    unfold chkT at h
    split at h
    · obtain ⟨h0, h1⟩ := and_of h
      exact ptI (sndTA ts o h1 _ (by simpa using h0)).pt fun σ H Q z => z
    · cases h
  | .or ts, c, X, W, o, e, h => by
    unfold chkT at h
    split at h
    · obtain ⟨h0, h1⟩ := and_of h
      exact ptI (sndTO ts o h1 _ (by simpa using h0)).pt fun σ H Q z => z
    · cases h
  | .not t, c, X, W, o, e, h => by
    unfold chkT at h
    split at h
    · exact snd_tnot (sndT t o h)
    · cases h
theorem sndCm {Φ : Phi} {n : Nat} {xr : XR} : ∀ (a : Ex) {c : Cfg} {X : Cx} {W : WX} (o : CxOk c Φ n xr X W) {l : Expr} {ops : List CmpOp} {rs : List Expr} {pos : Pos}, chkE c a (.Compare l ops rs pos) = true → PT X (.Compare l ops rs pos) (rT Φ xr W X.K (.of a))
  | .cmp op a b, c, _, _, o, _, _, _, _, h => by
    unfold chkE at h
    split at h
    · rename_i e
      cases e
      obtain ⟨h, h3⟩ := and_of h
      obtain ⟨h, h2⟩ := and_of h
      obtain ⟨h1, h0⟩ := and_of h
      obtain rfl := of_decide_eq_true h1
      exact snd_cmpT o h0 (sndX o h2 (sndE a o h2)) (sndX o h3 (sndE b o h3))
    · cases h
  | .chain op op' a b d, c, _, _, o, _, _, _, _, h => by
    unfold chkE at h
    split at h
    · rename_i e
      cases e
      obtain ⟨h, h5⟩ := and_of h
      obtain ⟨h, h4⟩ := and_of h
      obtain ⟨h, h3⟩ := and_of h
      obtain ⟨h, h2⟩ := and_of h
      obtain ⟨h0, h1⟩ := and_of h
      obtain rfl := of_decide_eq_true h0
      obtain rfl := of_decide_eq_true h1
      exact snd_chainT o h2 (sndX o h3 (sndE a o h3)) (sndX o h4 (sndE b o h4)) (sndX o h5 (sndE d o h5))
    · cases h
  | .isk neg k a, c, _, _, o, _, _, _, _, h => by
    unfold chkE at h
    split at h
    · rename_i e
      cases e
      obtain ⟨h, h3⟩ := and_of h
      obtain ⟨h, h2⟩ := and_of h
      obtain ⟨h0, h1⟩ := and_of h
      exact snd_iskT (of_decide_eq_true h0) h1 h2 (sndE a o h3)
    · cases h
  | .kd d, _, _, _, _, _, _, _, _, h => by cases d <;> cases h
  | .var i, _, _, _, _, _, _, _, _, h => by cases h
  | .gl x d, _, _, _, _, _, _, _, _, h => by cases h
  | .bin op a b, _, _, _, _, _, _, _, _, h => by cases h
  | .inst T a, _, _, _, _, _, _, _, _, h => by cases h
  | .andE as, _, _, _, _, _, _, _, _, h => by cases h
  | .orE as, _, _, _, _, _, _, _, _, h => by cases h
  | .notE a, _, _, _, _, _, _, _, _, h => by cases h
  | .ite t a b, _, _, _, _, _, _, _, _, h => by cases h
  | .fnc f a, _, _, _, _, _, _, _, _, h => by cases h
  | .call f as, _, _, _, _, _, _, _, _, h => by cases h
  | .ix a b, _, _, _, _, _, _, _, _, h => by cases h
  | .slc lo hi a as, _, _, _, _, _, _, _, _, h => by cases h
  | .tup as, _, _, _, _, _, _, _, _, h => by cases h
  | .lst sto as, _, _, _, _, _, _, _, _, h => by cases h
  | .edic, _, _, _, _, _, _, _, _, h => by cases h
  | .edicS, _, _, _, _, _, _, _, _, h => by cases h
  | .frz a, _, _, _, _, _, _, _, _, h => by cases h
  | .callB1 f a i, _, _, _, _, _, _, _, _, h => by cases h
  | .callB2 f a b i, _, _, _, _, _, _, _, _, h => by cases h
  | .comp own tg sk as cs w, _, _, _, _, _, _, _, _, h => by cases h
  | .popv i, _, _, _, _, _, _, _, _, h => by cases h
  | .callL fs i as, _, _, _, _, _, _, _, _, h => by cases h
  | .dget w k d, _, _, _, _, _, _, _, _, h => by cases h
  | .trng a, _, _, _, _, _, _, _, _, h => by cases h
  | .ddis k w, _, _, _, _, _, _, _, _, h => by cases h
  | .ddis2 k w k2 w2, _, _, _, _, _, _, _, _, h => by cases h
  | .lidx a w, _, _, _, _, _, _, _, _, h => by cases h
  | .litems a, _, _, _, _, _, _, _, _, h => by cases h
  | .dctB a, _, _, _, _, _, _, _, _, h => by cases h
  | .srtS a, _, _, _, _, _, _, _, _, h => by cases h
  | .lzip a b, _, _, _, _, _, _, _, _, h => by cases h
  | .dcomp own tg sk as cs ke w, _, _, _, _, _, _, _, _, h => by cases h
  | .dcompS own tg sk as cs ke w, _, _, _, _, _, _, _, _, h => by cases h
  | .isB neg b a, c, _, _, o, _, _, _, _, h => by
    unfold chkE at h
    split at h
    · rename_i e
      cases e
      obtain ⟨h, h4⟩ := and_of h
      obtain ⟨h, h3⟩ := and_of h
      obtain ⟨h1, h2⟩ := and_of h
      exact snd_isBT (of_decide_eq_true h1) h2 h3 (sndE a o h4)
    · cases h
  | .rv all a, _, _, _, _, _, _, _, _, h => by cases h
  | .join sep a, _, _, _, _, _, _, _, _, h => by cases h
  | .comp2 own tg sk as cs own1 tg1 sk1 as1 cs1 w, _, _, _, _, _, _, _, _, h => by cases h
  | .fncS f a, _, _, _, _, _, _, _, _, h => by cases h
  | .mkE k a, _, _, _, _, _, _, _, _, h => by cases h
  | .mkI k a, _, _, _, _, _, _, _, _, h => by cases h
  | .isx k a, _, _, _, _, _, _, _, _, h => by cases h
  | .fld k a, _, _, _, _, _, _, _, _, h => by cases h
  | .catS a b, _, _, _, _, _, _, _, _, h => by cases h
  | .compS own tg sk as cs w, _, _, _, _, _, _, _, _, h => by cases h
theorem sndTA {Φ : Phi} {n : Nat} {xr : XR} : ∀ (ts : List Te) {c : Cfg} {X : Cx} {W : WX} (o : CxOk c Φ n xr X W) {es : List Expr}, chkTs c ts es = true → ∀ pos, ts ≠ [] → PW X (.BoolOp .And es pos) (rTA Φ xr W X.K ts)
  | [], _, _, _, _, _, _, _, h => absurd rfl h
  | t :: ts, c, _, _, o, [], h, _, _ => nomatch h
  | t :: ts, c, _, _, o, e :: es, h, pos, _ => by
    have h : (chkT c t e && chkTs c ts es) = true := h
    have h1 := sndT t o (and_of h).1
    cases ts with
    | nil =>
      cases es with
      | nil => exact snd_tand1 h1
      | cons _ _ => cases (and_of h).2
    | cons t2 ts =>
      have h2 := sndTA (t2 :: ts) o (and_of h).2 pos (by simp)
      cases es with
      | nil => cases (and_of h).2
      | cons e2 es => exact snd_tand2 h1 h2
theorem sndTO {Φ : Phi} {n : Nat} {xr : XR} : ∀ (ts : List Te) {c : Cfg} {X : Cx} {W : WX} (o : CxOk c Φ n xr X W) {es : List Expr}, chkTs c ts es = true → ∀ pos, ts ≠ [] → PW X (.BoolOp .Or es pos) (rTO Φ xr W X.K ts)
  | [], _, _, _, _, _, _, _, h => absurd rfl h
  | t :: ts, c, _, _, o, [], h, _, _ => nomatch h
  | t :: ts, c, _, _, o, e :: es, h, pos, _ => by
    have h : (chkT c t e && chkTs c ts es) = true := h
    have h1 := sndT t o (and_of h).1
    cases ts with
    | nil =>
      cases es with
      | nil => exact snd_tor1 h1
      | cons _ _ => cases (and_of h).2
    | cons t2 ts =>
      have h2 := sndTO (t2 :: ts) o (and_of h).2 pos (by simp)
      cases es with
      | nil => cases (and_of h).2
      | cons e2 es => exact snd_tor2 h1 h2
theorem sndIs {Φ : Phi} {n : Nat} {xr : XR} : ∀ (as : List Im) {c : Cfg} {X : Cx} {W : WX} (o : CxOk c Φ n xr X W) {es : List Expr}, chkIs c as es = true → PA X es (rIs Φ xr W X.K as)
  | [], _, _, _, o, [], _ => snd_is0
  | [], _, _, _, o, _ :: _, h => nomatch h
  | b :: as, c, _, _, o, [], h => nomatch h
  | .one a :: as, c, _, _, o, e :: es, h => by
    have h : ((nst e && chkE c a e) && chkIs c as es) = true := h
    obtain ⟨h1, h2⟩ := and_of h
    exact snd_is1 (and_of h1).1 (sndE a o (and_of h1).2) (sndIs as o h2)
  | .star a :: as, c, _, _, o, e :: es, h => by
    have h : (chkIm c (.star a) e && chkIs c as es) = true := h
    obtain ⟨h1, h2⟩ := and_of h
    unfold chkIm at h1
    split at h1
    · exact snd_is2 (sndX o h1 (sndE a o h1)) (sndIs as o h2)
    · cases h1
end
end Lk
/-! D11: statements. -/
namespace Lk
open PySem PySem.Spec PyProof.Rows L2
/-! ### what is wanted behind -/
structure EndR (K : PySem.W.Frag) (xr : XR) (W : WX) (G : Gh) (H0 : Hp) (D : Ends) (V : EndsV) : Prop where
  nx : ∀ ρ S σ H, V.nx ρ S → Rel K G ρ S σ H → Le H0 H → D.nx σ H
  rt : ∀ v S u H, V.rt v S → Rel K G [] S [] H → RepV K H v u → Le H0 H → D.rt u H
  bk : ∀ ρ S σ H, V.bk ρ S → Rel K G ρ S σ H → Le H0 H → D.bk σ H
  ct : ∀ ρ S σ H, V.ct ρ S → Rel K G ρ S σ H → Le H0 H → D.ct σ H
  ex : ∀ x ρ S σ cls od H, V.ex x ρ S → Rel K G ρ S σ H → xr x cls od H → Le H0 H → W cls od σ H
def rS (K : PySem.W.Frag) (xr : XR) (W : WX) (wp : VE → Sto → EndsV → Prop) : TS := fun D σ H => ∃ G ρ S V, Rel K G ρ S σ H ∧ wp ρ S V ∧ EndR K xr W G H D V
section
variable {K : PySem.W.Frag} {xr : XR} {W : WX} {G : Gh} {H0 H : Hp} {D : Ends} {V : EndsV} {σ : L2.St}
theorem EndR.le (e : EndR K xr W G H0 D V) (l : Le H0 H) : EndR K xr W G H D V :=
  ⟨fun ρ S σ H a b c => e.nx ρ S σ H a b (l.trans c), fun v S u H a b c d => e.rt v S u H a b c (l.trans d), fun ρ S σ H a b c => e.bk ρ S σ H a b (l.trans c), fun ρ S σ H a b c => e.ct ρ S σ H a b (l.trans c), fun x ρ S σ cls od H a b c d => e.ex x ρ S σ cls od H a b c (l.trans d)⟩
theorem EndR.exf (e : EndR K xr W G H0 D V) (l : Le H0 H) : ExF K xr W G V.ex σ H := fun x ρ S cls od H2 a b c d => e.ex x ρ S σ cls od H2 a b c (l.trans d)
theorem EndR.exf0 (e : EndR K xr W G H0 D V) : ExF K xr W G V.ex σ H0 := e.exf (Le.refl H0)
end
theorem psI {X : Cx} {e : Stmt} {t t' : TS} (h : PS X e t) (i : ∀ D σ H, t' D σ H → t D σ H) : PS X e t' := ⟨fun pins s σ H D I w => h.run pins s σ H D I (i D σ H w)⟩
theorem pssI {X : Cx} {e : List Stmt} {t t' : TS} (h : PSs X e t) (i : ∀ D σ H, t' D σ H → t D σ H) : PSs X e t' := ⟨fun pins s σ H D I w => h.run pins s σ H D I (i D σ H w)⟩
structure StOk (c : Cfg) (Φ : Phi) (n : Nat) (xr : XR) (X : Cx) (W : WX) : Prop extends CxOk c Φ n xr X W where
  po : PassesOwn (model X.prog X.w) X.A X.env X.xe
  kind : X.env.scope.kind = .function
  stk : X.stack = X.env :: X.outer
  frm : X.env.frame = some X.env.locals
/-! ### right sides -/
abbrev rR (Φ : Phi) (xr : XR) (W : WX) (K : PySem.W.Frag) (r : Rh) : TE := rdg K xr W (RpL K) fun E => wpR Φ E r
def chkR (c : Cfg) : Rh → Expr → Bool
  | .val e, x => chkE c e x
  | .disp ms, x => chkE c (.lst false ms) x
  | .edic, x => chkE c .edic x
  | .take w, x => chkE c w x
  | .comp own tg sk as cs w, x => chkE c (.comp own tg sk as cs w) x
  | .dct w, x => match x with
    | .Call (.Name y _) [l] [] _ => y == ("dict" : Str) && bltB c y && nst l && chkE c w l
    | _ => false
section
variable {c : Cfg} {Φ : Phi} {n : Nat} {xr : XR} {X : Cx} {W : WX} {e : Expr} {r : Rh}
/-- the parts of a comprehension that the checker passed -/
theorem comp_parts (o : CxOk c Φ n xr X W) {own : List (Str × Nat)} {tg : Tg} {sk : Sk} {as : List Ex} {cs : List Te} {w : Ex} (h : chkE c (.comp own tg sk as cs w) e = true) :
    ∃ elt t it ifs scope pos, e = .ListComp elt [⟨t, it, ifs, 0⟩] scope pos ∧ CompOk c Φ n xr X W own tg sk as cs w elt t it ifs scope := by
  unfold chkE at h
  split at h
  · rename_i elt t it ifs z scope pos
    obtain ⟨h, h9⟩ := and_of h
    obtain ⟨h, h8⟩ := and_of h
    obtain ⟨h, h7⟩ := and_of h
    obtain ⟨h, h6⟩ := and_of h
    obtain ⟨h, h5⟩ := and_of h
    obtain ⟨h, h4⟩ := and_of h
    obtain ⟨h, h3⟩ := and_of h
    obtain ⟨h1, h2⟩ := and_of h
    obtain rfl := eq_of_beq h1
    split at h7
    · rename_i es he
      exact ⟨elt, t, it, ifs, scope, pos, rfl, h2, h3, h4, h5, by simpa using h6, (chkTs_len h8).symm, src_snd o he h7 fun a e ha _ hc => sndMem as o a ha hc,
        fun X' W' o' t' e' e1 e2 => sndTm cs o' t' e' (by rw [e1]; simp) (by rw [e1, e2] at h8; exact (and_of (show (chkT _ t' e' && chkTs _ [] []) = true from h8)).1), fun X' W' o' => sndE w o' h9⟩
    · cases h7
  · cases h
theorem rR_comp (o : CxOk c Φ n xr X W) {own : List (Str × Nat)} {tg : Tg} {sk : Sk} {as : List Ex} {cs : List Te} {w : Ex} {tt : TT} (h2 : ∀ σ H Q, rTA Φ xr WF X.K cs σ H Q → tt σ H Q) (ht : tgIn tg (own.map (·.2)) = true) :
    ∀ σ H Q, rR Φ xr W X.K (.comp own tg sk as cs w) σ H Q → tLc (rSrc Φ xr W X.K sk as) (gTg X.K tg) tt (rE Φ xr WF X.K w) (own.map (·.2)) σ H Q := fun σ H Q ⟨G, ρ, S, E, P, R, wp, post, ex⟩ =>
  comp_tLc (P := fun ys => P (.ol ys)) h2 ht R ex wp fun ys ρ' S' H' D vs p R' f hd rr le => post (.ol ys) _ _ (.ref D) _ p R' ⟨D, rfl, ⟨vs, hd, rr⟩, f⟩ le
theorem sndR (o : CxOk c Φ n xr X W) (h : chkR c r e = true) : PE X e (rR Φ xr W X.K r) := by
  cases r with
  | val a => exact peI (sndE a o h) fun σ H Q ⟨G, ρ, S, E, P, R, wp, post, ex⟩ => ⟨G, ρ, S, E, fun v => P (.v v), R, wp, fun v ρ' S' u H' p R' rv le => post (.v v) _ _ u _ p R' rv le, ex⟩
  | disp ms =>
    have h : chkE c (.lst false ms) e = true := h
    unfold chkE at h
    split at h
    · refine peI (pe_lst (sndIs ms o h)) fun σ H Q ⟨G, ρ, S, E, P, R, w, post, ex⟩ => ?_
      have w : wpIs Φ E ms ρ S fun ds ρ1 S1 => ds.length ≤ sizeLine ∧ P (.ol ds) ρ1 S1 := w
      refine ⟨G, ρ, S, E, _, R, w, fun ds ρ1 S1 us H1 p R1 rr l1 => ⟨by rw [Reps.length rr]; exact p.1, fun q hq => ?_⟩, ex⟩
      have le : Le H1 (upd H1 q (.lst us)) := Le.new hq
      exact post (.ol ds) _ _ (.ref q) _ p.2 (R1.ext (Same.upd hq)) ⟨q, rfl, ⟨us, upd_same, Reps.le le _ rr⟩, R1.outNew hq⟩ (l1.trans le)
    · cases h
  | take a =>
    have h : chkE c a e = true := h
    refine peI (sndE a o h) fun σ H Q ⟨G, ρ, S, E, P, R, w, post, ex⟩ => ?_
    have w : wpE Φ E a ρ S fun v ρ1 S1 => ∃ p xs, v = .r p ∧ S p = none ∧ S1 p = some (.lst xs) ∧ P (.ol xs) ρ1 (sdel S1 p) := w
    refine ⟨G, ρ, S, E, _, R, w, fun v ρ1 S1 u H1 q R1 rv l1 => ?_, ex⟩
    obtain ⟨p, xs, rfl, h0, h1, q⟩ := q
    obtain rfl : u = .ref p := rv
    have g2 : G.S0 p = none := by
      cases z : G.S0 p with
      | none => rfl
      | some y => exact absurd h0 (R.mon p (by rw [z]; simp))
    obtain ⟨R2, out⟩ := R1.leave h1 g2
    exact post (.ol xs) _ _ (.ref p) _ q R2 ⟨p, rfl, R1.sto p _ h1, out⟩ l1
  | edic =>
    have h : chkE c .edic e = true := h
    unfold chkE at h
    split at h
    · refine peI pe_dnewK fun σ H Q ⟨G, ρ, S, E, P, R, w, post, ex⟩ => fun q hq => ?_
      exact post (.od []) _ _ (.ref q) _ w (R.ext (Same.upd hq)) ⟨q, rfl, ⟨[], upd_same, rfl⟩, R.outNew hq⟩ (Le.new hq)
    · cases h
  | dct w =>
    unfold chkR at h
    dsimp only at h
    split at h
    · obtain ⟨h, h4⟩ := and_of h
      obtain ⟨h, h3⟩ := and_of h
      obtain ⟨h1, h2⟩ := and_of h
      obtain rfl := eq_of_beq h1
      obtain ⟨g, hm, hd, hn⟩ := o.bltn h2
      have pa := pa_one (Φ := Φ) (xr := xr) (W := W) (a := w) h3 (sndX o h4 (sndE w o h4))
      refine peI (pe_callTy (opDic (X := X) o.calm) g hm (boot_bf .dict) pa hn hd (star_cons h3) rfl) fun σ H Q ⟨G, ρ, S, E, P, R, wp, post, ex⟩ => ?_
      have wp : wpX w (wpE Φ E w) ρ S fun x ρ1 S1 => con ρ1 S1 x fun d => bfP .dict d fun r => asD r fun kvs => P (.od kvs) ρ1 S1 := wp
      refine ⟨G, ρ, S, E, _, R, wp, fun y ρ1 S1 u H1 p1 R1 r1 l1 => ?_, ex⟩
      obtain ⟨d, cd, p⟩ := con_sound R1 p1 r1
      refine ⟨u, d, rfl, cd, bfD_mono (fun r q => asD_mono (fun ys z p ks hp rr => ?_) q) p⟩
      have le : Le H1 (upd H1 p (.dK ks)) := Le.new hp
      exact post (.od ys) _ _ (.ref p) _ z (R1.ext (Same.upd hp)) ⟨p, rfl, ⟨ks, upd_same, RepK.le le _ rr⟩, R1.outNew hp⟩ (l1.trans le)
    · cases h
  | comp own tg sk as cs w =>
    obtain ⟨elt, t, it, ifs, scope, pos, rfl, k⟩ := comp_parts o h
    obtain ⟨tt, h1, h2⟩ := compTT o k
    have hb : BlkOk X.N X.env.scope scope own := by
      rw [o.N, o.sc]
      exact blkOk_by k.blk
    exact peI (pe_lc (te := rE Φ xr WF X.K w) (g := gTg X.K tg) o.calm (by rw [o.N]; exact o.nd) k.src hb (fun s H C cl fp => pg_tg (o.blk scope s H C cl fp) k.tgt) h1 (fun s H C cl fp => k.elt _ _ (o.blk scope s H C cl fp)) (nset_it k.set)) (rR_comp o h2 k.tin)
theorem Rel.setLo {K : PySem.W.Frag} {G : Gh} {ρ : VE} {S : Sto} {σ : L2.St} {H : Hp} {i : Nat} {l : Lo} {u : V} (R : Rel K G ρ S σ H) (h : RpL K G ρ S σ H l u) : Rel K G (ρ.set i (some l)) S (σ.set i (some u)) H := by
  cases l with
  | v p => exact R.setVal (show RepV K H p u from h)
  | ol xs =>
    obtain ⟨a, rfl, o, f⟩ := h
    exact R.setOwn (fun _ z => nomatch z) o f.gh f.sto fun j l' _ e n e' => f.own ⟨j, l', e, n, e'⟩
  | od xs =>
    obtain ⟨a, rfl, o, f⟩ := h
    exact R.setOwn (fun _ z => nomatch z) o f.gh f.sto fun j l' _ e n e' => f.own ⟨j, l', e, n, e'⟩
/-! ### stores -/
def isLc : Expr → Bool
  | .ListComp _ _ _ _ => true
  | .SetComp _ _ _ _ => true
  | .DictComp _ _ _ _ _ => true
  | _ => false
theorem sw_false {e : Expr} {t : Option Expr} {l : Nat} {env : Env} (h : isLc e = false) : swapsWith e t l env = pure false := by cases e <;> first | rfl | cases h
theorem asg_go {i : Nat} : ∀ D σ H, rS X.K xr W (wpS Φ (.asg i r)) D σ H → tAsg (rR Φ xr W X.K r) (gName i) D σ H := fun D σ H ⟨G, ρ, S, V, R, w, en⟩ =>
  ⟨G, ρ, S, V.ex, _, R, w, fun l ρ1 S1 u H1 p R1 rl l1 => en.nx _ _ _ _ p (R1.setLo rl) l1, en.exf0⟩
variable {x : Str} {i : Nat} {pos px : Pos}
theorem snd_asg (o : StOk c Φ n xr X W) (hx : stoB c i x = true) (h : chkR c r e = true) (hl : isLc e = false) : PS X (.Assign [.Name x px] e pos) (rS X.K xr W (wpS Φ (.asg i r))) := by
  obtain ⟨h1, h2, h3⟩ := o.toCxOk.sto hx
  exact psI (ps_set (by rw [o.N]; exact o.nd) h1 h2 (sndR o.toCxOk h) (sw_false hl) h3) asg_go
theorem sw_pure {elt t it : Expr} {ifs : List Expr} {scope : Scope} {p : Pos} {l : Nat} (hk : X.env.scope.kind = .function) : swapsWith (.ListComp elt [⟨t, it, ifs, 0⟩] scope p) (some (.Name x px)) l X.env
    = pure (X.env.kindOf x == some .local && px.line == p.line && !(scope.names.any fun (n, k) => n == x && (k == .local || k == .cell))) := by
  show (pure (X.env.blockKind == .function && X.env.kindOf x == some .local && px.line == (Expr.ListComp elt [⟨t, it, ifs, 0⟩] scope p).pos.line && !(scope.names.any fun (n, k) => n == x && (k == .local || k == .cell))) : Sem Bool) = _
  have hb : X.env.blockKind = .function := by
    unfold Env.blockKind
    rw [hk]
    rfl
  rw [hb]
  rfl
theorem snd_asgLc (o : StOk c Φ n xr X W) {own : List (Str × Nat)} {tg : Tg} {sk : Sk} {as : List Ex} {cs : List Te} {w : Ex} (hx : stoB c i x = true) (h : chkE c (.comp own tg sk as cs w) e = true) :
    PS X (.Assign [.Name x px] e pos) (rS X.K xr W (wpS Φ (.asg i (.comp own tg sk as cs w)))) := by
  obtain ⟨h1, h2, h3⟩ := o.toCxOk.sto hx
  obtain ⟨elt, t, it, ifs, scope, p, rfl, k⟩ := comp_parts o.toCxOk h
  have hN : X.N.Nodup := by rw [o.N]; exact o.nd
  have sw := sw_pure (X := X) (x := x) (px := px) (elt := elt) (t := t) (it := it) (ifs := ifs) (scope := scope) (p := p) (l := pos.line) o.kind
  by_cases hs : (X.env.kindOf x == some .local && px.line == p.line && !(scope.names.any fun (n, k) => n == x && (k == .local || k == .cell))) = true
  · rw [hs] at sw
    simp only [Bool.and_eq_true, beq_iff_eq] at hs
    obtain ⟨tt, q1, q2⟩ := compTT o.toCxOk k
    have hb : BlkOk X.N X.env.scope scope own := by
      rw [o.N, o.sc]
      exact blkOk_by k.blk
    refine psI (ps_setLc (te := rE Φ xr WF X.K w) (g := gTg X.K tg) o.calm hN h1 hs.1.1 sw k.src hb (fun s H C cl fp => pg_tg (o.toCxOk.blk scope s H C cl fp) k.tgt) q1 (fun s H C cl fp => k.elt _ _ (o.toCxOk.blk scope s H C cl fp)) (nset_it k.set)) fun D σ H z => ?_
    exact rR_comp o.toCxOk q2 k.tin σ H _ (asg_go D σ H z)
  · have hs' := Bool.eq_false_iff.mpr hs
    rw [hs'] at sw
    exact psI (ps_set hN h1 h2 (sndR (r := .comp own tg sk as cs w) o.toCxOk h) sw h3) asg_go
theorem snd_ret {a : Ex} (o : StOk c Φ n xr X W) (h : chkE c a e = true) : PS X (.Return (some e) pos) (rS X.K xr W (wpS Φ (.ret a))) :=
  psI (ps_ret (sndE a o.toCxOk h)) fun D σ H ⟨G, ρ, S, V, R, w, en⟩ => ⟨G, ρ, S, V.ex, _, R, w, fun v ρ1 S1 u H1 p R1 rv l1 => en.rt v S1 u H1 p R1.drop rv l1, en.exf0⟩
theorem snd_retN : PS X (.Return none pos) (rS X.K xr W (wpS Φ .retN)) :=
  psI ps_retN fun D σ H ⟨G, ρ, S, V, R, w, en⟩ => en.rt (.d .none) S .non H w R.drop rfl (Le.refl H)
theorem snd_expr {a : Ex} (o : StOk c Φ n xr X W) (h : chkE c a e = true) (hl : isLc e = false) : PS X (.Expr e pos) (rS X.K xr W (wpS Φ (.expr a))) :=
  psI (ps_expr (sndE a o.toCxOk h) (sw_false hl)) fun D σ H ⟨G, ρ, S, V, R, w, en⟩ => ⟨G, ρ, S, V.ex, _, R, w, fun v ρ1 S1 u H1 p R1 rv l1 => en.nx _ _ _ _ p R1 l1, en.exf0⟩
theorem snd_pass : PS X (.Pass pos) (rS X.K xr W (wpS Φ .pass)) := psI ps_pass fun D σ H ⟨G, ρ, S, V, R, w, en⟩ => en.nx _ _ _ _ w R (Le.refl H)
theorem snd_brk : PS X (.Break pos) (rS X.K xr W (wpS Φ .brk)) := psI ps_break fun D σ H ⟨G, ρ, S, V, R, w, en⟩ => en.bk _ _ _ _ w R (Le.refl H)
theorem snd_cont : PS X (.Continue pos) (rS X.K xr W (wpS Φ .cont)) := psI ps_continue fun D σ H ⟨G, ρ, S, V, R, w, en⟩ => en.ct _ _ _ _ w R (Le.refl H)
def isTupE : Expr → Bool
  | .Tuple _ _ _ => true
  | _ => false
theorem swS_none {ts : List Expr} {k : Nat} {p : Pos} {env : Env} (h : isTupE e = false) : swappedStores [.Tuple ts k p] e env = pure none := by cases e <;> first | rfl | cases h
theorem swl_false {ts : List Expr} {k l : Nat} {p : Pos} {env : Env} (h : isLc e = false) : swapsWithSole [.Tuple ts k p] e l env = pure false := by cases e <;> first | rfl | cases h
theorem swl_tup {ts : List Expr} {k l : Nat} {p : Pos} {env : Env} : swapsWithSole [.Tuple ts k p] e l env = pure false := by cases e <;> rfl
theorem snd_unpack {is : List Nat} {a : Ex} {ts : List Expr} {kk : Nat} {tp : Pos} (o : StOk c Φ n xr X W) (ht : stosB c is ts = true) (h : chkE c a e = true) (hl : isLc e = false) (hn : isTupE e = false) :
    PS X (.Assign [.Tuple ts kk tp] e pos) (rS X.K xr W (wpS Φ (.unpack is a))) := by
  refine psI (ps_asg (sndE a o.toCxOk h) (pg_tg (tg := .tup is) o.toCxOk ht) (swl_false hl) (swS_none hn) rfl) fun D σ H ⟨G, ρ, S, V, R, w, en⟩ => ?_
  have w : wpE Φ V.ex a ρ S fun v ρ1 S1 => isD v fun d => tgP ρ1 (.tup is) d fun ρ2 => V.nx ρ2 S1 := w
  refine ⟨G, ρ, S, V.ex, _, R, w, fun v ρ1 S1 u H1 p R1 rv l1 => ?_, en.exf0⟩
  obtain ⟨d, rfl, p⟩ := isD_of p
  exact tg_sound (G := G) R1 rv p fun ρ' σ' R' q _ => en.nx _ _ _ _ q R' l1
theorem snd_unpackL {is : List Nat} {a : Ex} {ts : List Expr} {kk : Nat} {tp : Pos} (o : StOk c Φ n xr X W) (ht : stosB c is ts = true) (h : chkE c a e = true) (hn : isTupE e = false) :
    PS X (.Assign [.Tuple ts kk tp] e pos) (rS X.K xr W (wpS Φ (.unpackL is a))) := by
  obtain ⟨pa, pb, pd⟩ := pg_nms o.toCxOk is ts ht
  refine psI (ps_asg (sndE a o.toCxOk h) (pg_lst o.toCxOk.calm pa pb pd) swl_tup (swS_none hn) rfl) fun D σ H ⟨G, ρ, S, V, R, w, en⟩ => ?_
  have w : wpE Φ V.ex a ρ S fun v ρ1 S1 => isD v fun d => asL d fun xs => tgP ρ1 (.tup is) (.tuple xs) fun ρ2 => V.nx ρ2 S1 := w
  refine ⟨G, ρ, S, V.ex, _, R, w, fun v ρ1 S1 u H1 p R1 rv l1 => ?_, en.exf0⟩
  obtain ⟨d, rfl, p⟩ := isD_of p
  cases d <;> try exact (show False from p).elim
  rename_i xs _
  have p : (match setAll is xs ρ1 with
      | some ρ' => V.nx ρ' S1
      | none => False) := p
  split at p
  · rename_i ρ' e2
    obtain ⟨b, vs, rfl, hb, rr⟩ := rv
    obtain ⟨g, hl2⟩ := tgs_sound (G := G) is xs vs ρ1 σ ρ' _ R1 rr e2 fun σ' R' _ => en.nx _ _ _ _ p R' l1
    exact ⟨b, vs, rfl, .inl (.inr hb), hl2, g⟩
  · exact p.elim
/-! ### a, b = x, y -/
def parB (c : Cfg) (i j : Nat) (x y : Str) (px py : Pos) (a b : Expr) : Bool :=
  decide (c.N[i]? = some x) && decide (c.N[j]? = some y) && !(i == j) && decide (c.sc.names.lookup x = some .local) && decide (c.sc.names.lookup y = some .local) && py.line == px.line && !(x == y) && nst a && nst b &&
    !([a, b].all (foldedForSure 8)) && !([a, b].all (constantsAlone 8))
theorem swS_par {y : Str} {py tp vp : Pos} {a b : Expr} {k k2 : Nat} {env : Env} (hk : env.scope.kind = .function) (hx : env.scope.names.lookup x = some .local) (hy : env.scope.names.lookup y = some .local) (hl : (py.line == px.line) = true) (hn : (x == y) = false)
    (na : nst a = true) (nb : nst b = true) (h1 : ([a, b].all (foldedForSure 8)) = false) (h2 : ([a, b].all (constantsAlone 8)) = false) :
    swappedStores [.Tuple [.Name x px, .Name y py] k tp] (.Tuple [a, b] k2 vp) env = pure (some [x, y]) := by
  have hb : env.blockKind = .function := by
    unfold Env.blockKind
    rw [hk]
    rfl
  have kx : env.kindOf x = some .local := hx
  have ky : env.kindOf y = some .local := hy
  have e0 : (px.line == px.line) = true := beq_self_eq_true _
  have e1 : (y == x) = false := by
    rw [Bool.eq_false_iff] at hn ⊢
    intro z
    exact hn (by rw [eq_of_beq z]; exact beq_self_eq_true _)
  have p1 : (Expr.Name x px).pos.line = px.line := rfl
  unfold swappedStores
  simp only [List.length_cons, List.length_nil, hb, List.any_cons, List.any_nil, List.head?_cons, Option.map_some, Option.getD_some, List.filterMap_cons, List.filterMap_nil, kx, ky, hl, p1, e0, beq_self_eq_true, Bool.and_self, if_true, h1, h2]
  have ed : [x, y].eraseDups = [x, y] := by
    simp [List.eraseDups_cons, e1]
  simp [ed]
  rintro (z | z)
  · cases a <;> first | (cases na; done) | cases z
  · cases b <;> first | (cases nb; done) | cases z
theorem par_state {j : Nat} {r2 : Rh} {D : Ends} {σ : L2.St} {H : Hp} {Z : List V → Hp → Prop} (h : rS X.K xr W (wpS Φ (.par i j r r2)) D σ H)
    (z : ∀ u u2 H2, D.nx ((σ.set i (some u)).set j (some u2)) H2 → (∀ p o, H2 p = none → D.nx ((σ.set i (some u)).set j (some u2)) (upd H2 p o)) → Z [u, u2] H2) :
    (tCons (rR Φ xr W X.K r) (tCons (rR Φ xr W X.K r2) tNil)) σ H Z := by
  obtain ⟨G, ρ, S, V, R, w, en⟩ := h
  refine ⟨G, ρ, S, V.ex, _, R, w, fun l ρ1 S1 u H1 p R1 rl l1 => ?_, en.exf0⟩
  have p : wpR Φ V.ex r2 ρ1 S1 fun l' ρ2 S2 => V.nx ((ρ2.set i (some l)).set j (some l')) S2 := p
  refine ⟨regh ρ1 σ S1 H1, ρ1, S1, V.ex, _, R1.reg, p, fun l' ρ2 S2 u2 H2 q R2 rl2 l2 => ?_, fun x' ρ' S' cls od H' e R' hx' le => en.ex x' ρ' S' σ cls od H' e (R1.back R') hx' (l1.trans le)⟩
  have Rb := R1.back R2
  have first : RpL X.K G ρ2 S2 σ H2 l u ∧ (∀ a u', u = .ref a → H1 a = some u' → (∀ p, l ≠ .v p) → (regh ρ1 σ S1 H1).H0 a = some u') := by
    cases l with
    | v pv => exact ⟨RepV.le l2 (show RepV X.K H1 pv u from rl), fun _ _ _ _ z => absurd rfl (z pv)⟩
    | ol xs =>
      obtain ⟨a', rfl, ow, f⟩ := rl
      obtain ⟨u', hu, mu⟩ := ow.tracked
      obtain ⟨f', h'⟩ := R1.outBack R2 hu f
      refine ⟨⟨a', rfl, ow.move l2 (h'.trans hu.symm), f'⟩, fun a2 u2' e2 e3 _ => ?_⟩
      cases e2
      rw [regh_of f.own]
      exact e3
    | od xs =>
      obtain ⟨a', rfl, ow, f⟩ := rl
      obtain ⟨u', hu, mu⟩ := ow.tracked
      obtain ⟨f', h'⟩ := R1.outBack R2 hu f
      refine ⟨⟨a', rfl, ow.move l2 (h'.trans hu.symm), f'⟩, fun a2 u2' e2 e3 _ => ?_⟩
      cases e2
      rw [regh_of f.own]
      exact e3
  have R3 := Rb.setLo (i := i) first.1
  suffices second : RpL X.K G (ρ2.set i (some l)) S2 (σ.set i (some u)) H2 l' u2 by
    have R4 := R3.setLo (i := j) second
    exact z u u2 H2 (en.nx _ _ _ _ q R4 (l1.trans l2)) fun p o hp => en.nx _ _ _ _ q (R4.ext (Same.upd hp)) ((l1.trans l2).trans (Le.new hp))
  have second : ∀ {a' : Addr}, Out (regh ρ1 σ S1 H1) ρ2 S2 σ a' → Out G (ρ2.set i (some l)) S2 (σ.set i (some u)) a' := fun {a'} f => by
    refine ⟨?_, f.sto, fun ⟨k', lk, e, nk, ea⟩ => ?_⟩
    · by_cases q : IsOwn ρ1 σ a'
      · exact (R1.owned q).1
      · have := f.gh
        rw [regh_of q] at this
        exact (R1.free this).2
    · by_cases hk : i = k'
      · subst hk
        by_cases hi' : i < ρ2.length
        · rw [List.getElem?_set_self hi'] at e
          cases e
          rw [List.getElem?_set_self (by have := Rb.len; omega)] at ea
          cases ea
          obtain ⟨u', hu, _⟩ : ∃ u', H1 a' = some u' ∧ Mut (some u') := by
            cases l with
            | v pv => exact absurd rfl (nk pv)
            | ol xs => obtain ⟨b', e', ow, _⟩ := rl; cases e'; exact ow.tracked
            | od xs => obtain ⟨b', e', ow, _⟩ := rl; cases e'; exact ow.tracked
          have := first.2 a' u' rfl hu nk
          rw [f.gh] at this; cases this
        · rw [List.getElem?_eq_none (by simpa using hi')] at e; cases e
      · rw [List.getElem?_set_ne hk] at e ea
        exact f.own ⟨k', lk, e, nk, ea⟩
  cases l' with
  | v pv => exact (show RepV X.K H2 pv u2 from rl2)
  | ol xs => obtain ⟨a', e', ow, f⟩ := rl2; exact ⟨a', e', ow, second f⟩
  | od xs => obtain ⟨a', e', ow, f⟩ := rl2; exact ⟨a', e', ow, second f⟩
theorem snd_par {j : Nat} {y : Str} {py tp vp : Pos} {a b : Expr} {k k2 : Nat} {r2 : Rh} (o : StOk c Φ n xr X W) (hp : parB c i j x y px py a b = true) (ha : chkR c r a = true) (hb : chkR c r2 b = true) :
    PS X (.Assign [.Tuple [.Name x px, .Name y py] k tp] (.Tuple [a, b] k2 vp) pos) (rS X.K xr W (wpS Φ (.par i j r r2))) := by
  unfold parB at hp
  simp only [Bool.and_eq_true, decide_eq_true_eq, Bool.not_eq_true'] at hp
  obtain ⟨⟨⟨⟨⟨⟨⟨⟨⟨⟨hi, hj⟩, hij⟩, hx⟩, hy⟩, hl⟩, hxy⟩, na⟩, nb⟩, f1⟩, f2⟩ := hp
  rw [← o.N] at hi hj
  rw [← o.sc] at hx hy
  have hij' : i ≠ j := fun z => by rw [z] at hij; simp at hij
  have pa : PA X [a, b] (tCons (rR Φ xr W X.K r) (tCons (rR Φ xr W X.K r2) tNil)) := pa_cons (sndR o.toCxOk ha) (pa_cons (sndR o.toCxOk hb) pa_nil (star_cons nb)) (star_cons na)
  refine psI (ps_par o.calm (by rw [o.N]; exact o.nd) hi hj hij' hx hy pa (swS_par o.kind hx hy hl hxy na nb f1 f2) rfl) fun D σ H h => ?_
  exact par_state h fun u u2 H2 q _ => ⟨u, u2, rfl, q⟩
/-- a, b = x, y where a name is no plain local (a cell): the pair is made, then taken apart -/
def parC (c : Cfg) (i j : Nat) (x y : Str) (px py : Pos) (a b : Expr) : Bool :=
  stosB c [i, j] [.Name x px, .Name y py] && !(i == j) && ((!decide (c.sc.names.lookup x = some .local) || !decide (c.sc.names.lookup y = some .local)) || [a, b].all (foldedForSure 8)) && nst a && nst b
theorem swS_parC {y : Str} {py tp vp : Pos} {a b : Expr} {k k2 : Nat} {env : Env} (hk : env.scope.kind = .function) (hx : (env.scope.names.lookup x ≠ some .local ∨ env.scope.names.lookup y ≠ some .local) ∨ [a, b].all (foldedForSure 8) = true)
    (na : nst a = true) (nb : nst b = true) :
    swappedStores [.Tuple [.Name x px, .Name y py] k tp] (.Tuple [a, b] k2 vp) env = pure none := by
  have hb : env.blockKind = .function := by
    unfold Env.blockKind
    rw [hk]
    rfl
  have hx' : ((env.kindOf x == some .local) = false ∨ (env.kindOf y == some .local) = false) ∨ [a, b].all (foldedForSure 8) = true := hx.imp (fun hx => hx.imp (fun q => beq_eq_false_iff_ne.mpr q) (fun q => beq_eq_false_iff_ne.mpr q)) id
  unfold swappedStores
  simp only [List.length_cons, List.length_nil, hb, List.head?_cons, Option.map_some, Option.getD_some, List.filterMap_cons, List.filterMap_nil]
  rcases hx' with (q | q) | q
  · by_cases z : (env.kindOf y == some .local && py.line == (Expr.Name x px).pos.line) = true <;> simp [q, z]
  · by_cases z : (env.kindOf x == some .local && px.line == (Expr.Name x px).pos.line) = true <;> simp [q, z]
  · rw [q]
    by_cases z : (env.kindOf x == some .local && px.line == (Expr.Name x px).pos.line) = true <;> by_cases z2 : (env.kindOf y == some .local && py.line == (Expr.Name x px).pos.line) = true <;> simp [z, z2]
theorem SqT_upd {K : PySem.W.Frag} {H : Hp} {p : Addr} {xs : List V} : SqT K (upd H p (.tup xs)) p xs := .inl (.inl upd_same)
theorem snd_parC {j : Nat} {y : Str} {py tp vp : Pos} {a b : Expr} {k k2 : Nat} {r2 : Rh} (o : StOk c Φ n xr X W) (hp : parC c i j x y px py a b = true) (ha : chkR c r a = true) (hb : chkR c r2 b = true) :
    PS X (.Assign [.Tuple [.Name x px, .Name y py] k tp] (.Tuple [a, b] k2 vp) pos) (rS X.K xr W (wpS Φ (.par i j r r2))) := by
  unfold parC at hp
  simp only [Bool.and_eq_true, Bool.or_eq_true, decide_eq_true_eq, Bool.not_eq_true', decide_eq_false_iff_not] at hp
  obtain ⟨⟨⟨⟨ht, hij⟩, hl⟩, na⟩, nb⟩ := hp
  rw [← o.sc] at hl
  have pa : PA X [a, b] (tCons (rR Φ xr W X.K r) (tCons (rR Φ xr W X.K r2) tNil)) := pa_cons (sndR o.toCxOk ha) (pa_cons (sndR o.toCxOk hb) pa_nil (star_cons nb)) (star_cons na)
  refine psI (ps_asg (pe_tup pa) (pg_tg (tg := .tup [i, j]) o.toCxOk ht) (swl_false rfl) (swS_parC o.kind hl na nb) rfl) fun D σ H h => ?_
  refine par_state (Z := fun xs H1 => xs.length ≤ sizeLine ∧ ∀ p, H1 p = none → gTg X.K (.tup [i, j]) (.ref p) σ (upd H1 p (.tup xs)) D.nx) h fun u u2 H2 _ q => ?_
  exact ⟨Nat.le_of_ble_eq_true rfl, fun p hp => ⟨p, [u, u2], rfl, SqT_upd, rfl, u, [u2], rfl, u2, [], rfl, rfl, q p _ hp⟩⟩
end
end Lk
/-! DL: an exception with a field is made and raised. -/
namespace Lk
open PySem PySem.Spec PyProof.Rows L2
/-- what TooMany's __init__ does -/
def spI (K : PySem.W.Frag) : Sp := fun vs H Q _ => ∃ (a C : Addr) (k : Int), vs = [.ref a, .int k] ∧ OexC K C ∧ PySem.W.findIn K (.ref C) "limit" = some none ∧ H a = some (exo a C none) ∧ k.natAbs.log2 < 1920 ∧ (toString k : Str).length ≤ 1000 ∧
  ∀ dx, H dx = none → dx ≠ a → Q .non (upd (upd H dx (exd dx [(("limit" : Str), V.int k)])) a (exo a C (some dx)))
theorem init_body {X : Cx} {Sh : Addr} {body : List Stmt} (hN : X.N = ([("self" : Str), ("limit" : Str)] : List Str)) (v0 : Vis X.env.scope "self") (v1 : Vis X.env.scope "limit") (hg : Gl X "ShownError") (hb : initB body = true)
    (hm : X.mg "ShownError" = some (.ref Sh)) (sg : PySem.W.specialIn X.K (.ref Sh) "__getattribute__" = some (some (.builtin "type.__getattribute__"))) (hr : PySem.W.readsIn X.K Sh (.type "type") = true)
    (vV : PySem.W.findCls X.K (.ref Sh) (.type "type") "__init__" = some (.val (.builtin "ValueError.__init__"))) :
    ∃ t, PSs X body t ∧ ∀ (D : Ends) (a C : Addr) (k : Int) (H : Hp), OexC X.K C → PySem.W.findIn X.K (.ref C) "limit" = some none → H a = some (exo a C none) → k.natAbs.log2 < 1920 → (toString k : Str).length ≤ 1000 →
      (∀ dx, H dx = none → dx ≠ a → D.nx (L2.start (["self", "limit"] : List Str) [.ref a, .int k]) (upd (upd H dx (exd dx [(("limit" : Str), V.int k)])) a (exo a C (some dx)))) → t D (L2.start (["self", "limit"] : List Str) [.ref a, .int k]) H := by
  unfold initB at hb
  split at hb
  · simp only [Bool.and_eq_true, beq_iff_eq, decide_eq_true_eq] at hb
    obtain ⟨⟨⟨⟨⟨⟨⟨⟨rfl, rfl⟩, rfl⟩, rfl⟩, hl⟩, rfl⟩, rfl⟩, rfl⟩, hp⟩ := hb
    have pS : ∀ p, PE X (.Name "self" p) (tVar 0) := fun p => pe_var (by rw [hN]; rfl) v0
    have pL : ∀ p, PE X (.Name "limit" p) (tVar 1) := fun p => pe_var (by rw [hN]; rfl) v1
    refine ⟨_, pss_cons (ps_expr (pe_seinit hg hm sg hr vV (pa_cons (pS _) (pa_cons (pe_joined (.cons pe_str (.cons (pe_fmt (pL _)) .nil))) pa_nil)) (by rw [hp]; exact beq_self_eq_true _))) (pss_cons (ps_ost (pS _) (pL _)) pss_nil), fun D a C k H T hno ha hk hk2 hq => ?_⟩
    have sl : sizeLine = 16777216 := rfl
    rename_i m _ _ _ _ _ _ _ _ _ _ _
    have e0 : ((Str.empty : Str) ++ m).length ≤ 1000 := by
      rw [strLen_append]
      have : (Str.empty : Str).length = 0 := rfl
      omega
    have e1 : (((Str.empty : Str) ++ m) ++ (toString k : Str)).length ≤ sizeLine := by
      rw [strLen_append]
      omega
    exact ⟨_, rfl, m, rfl, by omega, .int k, rfl, .inr ⟨k, rfl, hk, toString k, rfl, e1, a, C, [_], rfl, by simp, T, ha, .int k, rfl, .ref a, rfl, a, C, rfl, T, hno, .inl ⟨ha, fun dx n1 n2 => hq dx n1 n2⟩⟩⟩
  · cases hb
theorem init_ok {P : Program} {w : World} {K : PySem.W.Frag} {mg : Str → Option Value} {base : Heap} {fI Sh : Addr} {fd : FuncData} {params : Arguments} {body : List Stmt} {scope : Scope}
    (F : FunD K "__init__" "TooMany.__init__" params body scope [] [] fI fd) (S : FnScope ["self", "limit"] ["self", "limit"] scope) (hs : scope.names.lookup ("ShownError" : Str) = some .globalImplicit) (hb : initB body = true)
    (hm : mg "ShownError" = some (.ref Sh)) (sg : PySem.W.specialIn K (.ref Sh) "__getattribute__" = some (some (.builtin "type.__getattribute__"))) (hr : PySem.W.readsIn K Sh (.type "type") = true)
    (vV : PySem.W.findCls K (.ref Sh) (.type "type") "__init__" = some (.val (.builtin "ValueError.__init__"))) : FnOk P w K mg base (CX P w) 1 fI fd ["self", "limit"] (spI K) := by
  refine F.ok (N := ["self", "limit"]) S (fun vs H Q E ⟨a, C, k, h, _⟩ => by rw [h]; rfl) fun cdv A outer s H vs Q E hr2 ⟨a, C, k, ev, T, hno, ha, hk, hk2, hq⟩ => ?_
  subst ev
  have v0 : Vis scope "self" := by
    rcases S.par "self" (by simp) with q | q <;> (unfold Vis; rw [q]; simp)
  have v1 : Vis scope "limit" := by
    rcases S.par "limit" (by simp) with q | q <;> (unfold Vis; rw [q]; simp)
  obtain ⟨t, ht, go⟩ := init_body (X := cxOf (CX P w) P w K mg base ["self", "limit"] "TooMany.__init__" scope fI cdv A outer s H E) rfl v0 v1 hs hb hm sg hr vV
  exact ⟨t, ht, go _ a C k H T hno ha hk hk2 hq⟩
section
variable {c : Cfg} {Φ : Phi} {n : Nat} {xr : XR} {X : Cx} {W : WX} {pos : Pos} {e : Expr} {a : Ex}
theorem same_made {H1 : Hp} {q dx : Addr} {o1 o2 o3 o4 : HO} (hq : H1 q = none) (hd : H1 dx = none) : Same H1 (upd (del (upd (upd (upd H1 q o1) dx o2) q o3) q) dx o4) := fun b o e => by
  have nq : b ≠ q := fun z => by rw [z, hq] at e; cases e
  have nd : b ≠ dx := fun z => by rw [z, hd] at e; cases e
  rw [upd_ne nd, del_ne nq, upd_ne nq, upd_ne nd, upd_ne nq]
  exact e
theorem snd_raiseL (o : StOk c Φ n xr X W) {C x : Str} {p p3 : Pos} (h1 : (x == C) = true) (h2 : gloB c x = true) (h3 : c.exs.contains x = true) (h4 : (x == ("TooMany" : Str)) = true) (hn : nst e = true) (he : PE X e (rE Φ xr W X.K a)) :
    PS X (.Raise (some (.Call (.Name x p) [e] [] p3)) none pos) (rS X.K xr W (wpS Φ (.raiseL C a))) := by
  obtain rfl := eq_of_beq h1
  obtain rfl := eq_of_beq h4
  obtain ⟨g, dd, _⟩ := o.toCxOk.glo h2
  have L := o.exs.lim h3
  obtain ⟨Ca, Sh, fI, fd, params, body, scope, m1, m2, T, XF, iC, tI, hno, sg, hr, vV, F, hb, fs, hs, hbo⟩ := L.ex
  have F1 := init_ok (P := X.prog) (w := X.w) (mg := X.mg) (base := X.base) F fs hs hbo m2 sg hr vV
  have rm : Room (1 + 1) X.A := o.room.mono (by omega)
  refine psI (ps_raise o.calm o.tk (pmk_oex (X := X) (dvs := []) (ds := []) T iC tI F1 rm hb .nil (fun pins σ H s e s' I ⟨_, _, _, _, _, _, _, _, _, _, _, _, z⟩ => z.elim) g m1 (pa_cons he pa_nil (star_cons hn)) dd (star_cons hn) rfl)) fun D σ H ⟨G, ρ, S, V, R, w, en⟩ => ?_
  have w : wpE Φ V.ex a ρ S fun v ρ1 S1 => isD v fun x => ∃ k : Int, x = .int k ∧ k.natAbs.log2 < 1920 ∧ (toString k : Str).length ≤ 1000 ∧ V.ex ⟨"TooMany", [(("limit" : Str), .int k)]⟩ ρ1 S1 := w
  refine ⟨G, ρ, S, V.ex, _, R, w, fun v ρ1 S1 u H1 p R1 rv l1 => ?_, en.exf0⟩
  obtain ⟨d, rfl, p⟩ := isD_of p
  obtain ⟨k, rfl, hk, hk2, p⟩ := p
  obtain rfl : u = L2.V.int k := rv
  refine ⟨by simp, fun q na => ⟨q, Ca, k, rfl, T, hno, upd_same, hk, hk2, fun dx n1 n2 => ?_⟩⟩
  rw [upd_ne n2] at n1
  have sm := same_made (o1 := exo q Ca none) (o2 := exd dx [(("limit" : Str), L2.V.int k)]) (o3 := exo q Ca (some dx)) (o4 := .xd [(("limit" : Str), L2.V.int k)]) na n1
  exact ⟨rfl, dx, _, upd_same, by rw [upd_ne n2, upd_same], n1, en.ex _ _ _ _ _ _ _ p (R1.ext sm) (L.xinL Ca k dx _ m1 upd_same) (l1.trans (Le.of_same sm))⟩
end
end Lk
/-! DT: a try with several clauses that name what they catch. -/
namespace Lk
open PySem PySem.Spec PyProof.Rows L2
abbrev Cls3 := Value × Nat × (Addr → Value → Option Addr → TS)
def wMA (K : PySem.W.Frag) (Wo : WX) (D : Ends) : List Cls3 → WX
  | [] => Wo
  | (c, i, ts) :: r => fun cl od τ J => ∃ b, PySem.W.exmOne K cl c = some b ∧
      (b = true → ∀ q, J q = none → ts q cl od { nx := fun τ' J' => D.nx (τ'.set i none) J', rt := D.rt, bk := fun τ' J' => D.bk (τ'.set i none) J', ct := fun τ' J' => D.ct (τ'.set i none) J' } (τ.set i (some (.ref q))) J) ∧
      (b = false → wMA K Wo D r cl od τ J)
inductive HdsA (X : Cx) : List ExceptHandler → List Cls3 → Prop
  | nil : HdsA X [] []
  | cons {x n : Str} {c : Value} {i : Nat} {ts : Addr → Value → Option Addr → TS} {b₀ : Stmt} {su : List Stmt} {np hp : Pos} {hds : List ExceptHandler} {l : List Cls3} (hc : Names X x c) (hi : X.N[i]? = some n) (hl : X.env.kindOf n = some .local)
      (hsu : ∀ (q : Addr) (oe : Obj) (cl : Value) (od : Option Addr) (pn : List (Addr × Obj)), Zc cl od oe → (∃ vs, oe.data = .fields vs) → PSs (X.suite q ((q, oe) :: pn)) (b₀ :: su) (ts q cl od)) (r : HdsA X hds l) :
      HdsA X (.ExceptHandler (some (.Name x np)) (some n) (b₀ :: su) hp :: hds) ((c, i, ts) :: l)
section
variable {X : Cx} {body : List Stmt} {h₀ : ExceptHandler} {hds : List ExceptHandler} {l : List Cls3} {pos : Pos} {tb : WX → TS} {Wo : WX}
theorem ps_try_ma (hs : X.stack = X.env :: X.outer) (hf : X.env.frame = some X.env.locals) (hN : X.N.Nodup) (tk : Takes X Wo)
    (hb : ∀ (W : WX) (pn : List (Addr × Obj)) (xe : Value → Shared → Prop), Takes (X.tr pn xe) W → PassesOwn (model X.prog X.w) X.A X.env xe → PSs (X.tr pn xe) body (tb W))
    (hh : HdsA X (h₀ :: hds) l) : PS X (.Try body (h₀ :: hds) [] [] pos) (fun D σ H => tb (wMA X.K Wo D l) D σ H) := by
  refine ⟨fun ps t τ J D I w0 => ?_⟩
  have xo := I.ok
  have fr0 : X.A.frames = some (X.env :: X.outer) := by rw [xo.frames, hs]
  refine wpAny_Try_except (wpAny_mono ((hb (wMA X.K Wo D l) (X.pn ++ ps) (fun e t1 => wpAny (model X.prog X.w) X.A (noteFrame e X.env)
      (fun _ t2 => wpAny (model X.prog X.w) X.A (setFlight e none) (fun _ t3 => wpAny (model X.prog X.w) X.A (handleBy e X.env (h₀ :: hds)) (SP X ps D) X.xe t3) X.xe t2) X.xe t1)
      (fun u t' xx => ?_) PassesOwn.looking).run [] t τ J D (I.toTry _) w0) (fun f t1 hp => ?_) (fun e t1 he => he))
  · obtain ⟨q, B, tI, ps', τ', J', cl, od, rfl, I', nb, up, sk, nq, osq, bq, w⟩ := xx
    have IJ : Inv X ps τ' J' tI := I'.ofTry xo
    have sk' : Sky B (X.env :: X.outer) q (Zc cl od) X.env.locals t'.heap := by rw [← hs]; exact sk
    show wpAny _ X.A (noteFrame (.ref q) X.env) _ _ _
    refine Sky.land Zc.steady fr0 hf sk' fun g3 fl up3 => ?_
    have I3 : Inv X ps τ' J' { t' with heap := g3 } := IJ.landed nb fl.1 (up.trans up3) osq bq
    obtain ⟨o3, v3, e3, z3, d3⟩ := fl.there
    have outF : ∀ {g : Heap} {o : Obj} {vs : Array Value}, g.FunFrames B (X.env :: X.outer) → g.get? q = some o → o.data = .fields vs → q ∉ frs (X.env :: X.outer) := fun {g o vs} ff e d hm => by
      obtain ⟨_, o', e', nf⟩ := ff.mem hm
      rw [e] at e'
      cases e'
      exact nf _ d
    have nfr := outF fl.2.2.1 e3 d3
    have nL : q ≠ X.env.locals := fun z => nfr (List.mem_filterMap.mpr ⟨X.env, List.mem_cons_self, by rw [hf, z]⟩)
    have nF : q ∉ X.fs := fun hm => by
      obtain ⟨e, he, qe⟩ := List.mem_filterMap.mp hm
      exact nfr (List.mem_filterMap.mpr ⟨e, List.mem_cons_of_mem _ he, qe⟩)
    have S3 := I3.suite e3 d3 nq nL nF
    have go : ∀ {hds' : List ExceptHandler} {l' : List Cls3}, HdsA X hds' l' → wMA X.K Wo D l' cl od τ' J' → wpAny (model X.prog X.w) X.A (handleBy (.ref q) X.env hds') (SP X ps D) X.xe { t' with heap := g3 } := by
      intro hds' l' hk
      induction hk with
      | nil =>
        intro w
        refine wpAny_handleBy_nil ?_
        obtain ⟨k1, k2, k3, oe, vs, T, oT, ts', he, hz, hd, h1, hr⟩ := id fl
        unfold PySem.passOn
        refine wpAny_bind (wpAny_field he hd h1 ?_)
        rw [if_neg (show ¬ ((Value.ref T == Value.none) = true) from by simp)]
        have fin : wpAny (model X.prog X.w) X.A (setFlight (.ref q) X.env.frame) (fun _ t4 => wpAny (model X.prog X.w) X.A (throw (.ref q) : Sem Flow) (SP X ps D) X.xe t4) X.xe { t' with heap := g3 } := by
          rw [hf]
          refine HandSPX.setFlight_upZ fl fun g4 hg4 up4 => wpAny_throw (tk _ _ ⟨q, B, tI, ps, τ', J', cl, od, rfl, IJ, nb, (up.trans up3).trans up4, .inr (.inr (by rw [hs]; exact hg4)), nq, osq, bq, w⟩)
        first
          | exact wpAny_bind (wpAny_pure (wpAny_bind fin))
          | exact wpAny_bind fin
      | @cons x n c i ts b₀ su np hp hds2 l2 hc hi hl hsu r ih =>
        intro w
        obtain ⟨b, hb1, yes, no⟩ := w
        have lc : Loc X.env.scope n := .inl hl
        refine wpAny_handleBy_cons (codeAny_handlers_test ?_) (by intro z; cases z)
        have LT : PySem.W.Looks (model X.prog X.w) g3 (typeOf (.ref q)) cl := fun A Q E s k z => wpAny_typeOf_ref (k _ _ e3) (by rw [z3.1]; exact z)
        have LM := PySem.W.exm_one (M := model X.prog X.w) (I3.kIn) LT hb1
        have test : ∀ {Q : Value → Shared → Prop} {E : Value → Shared → Prop}, Q c { t' with heap := g3 } → wpAny (model X.prog X.w) (X.A.mark (some (.ref q))) (eval (.Name x np) X.env) Q E { t' with heap := g3 } := fun {Q E} z => by
          obtain ⟨hg, hdb, hm | ⟨hm, hv, hn⟩⟩ := hc
          · exact ld_glob (X := X.suite q ((q, o3) :: (X.pn ++ ps))) S3 hg hm z hdb
          · exact ld_blt (X := X.suite q ((q, o3) :: (X.pn ++ ps))) S3 hg hm hv z hn hdb
        refine test (LM.here ?_)
        cases b with
        | true =>
          refine codeAny_handlers_suite_as ?_
          refine HandSPX.lands_againZ fl fun g4 fl4 up4 => ?_
          have I4 : Inv X ps τ' J' { t' with heap := g4 } := IJ.landed nb fl4.1 ((up.trans up3).trans up4) osq bq
          obtain ⟨o4, v4, e4, z4, d4⟩ := fl4.there
          have S4 := I4.suite e4 d4 nq nL nF
          refine store_ok (X := X.suite q ((q, o4) :: (X.pn ++ ps))) (v := .ref q) S4 hN hi lc rfl (fun t5 S5 => ?_) (.inr hl)
          refine wpAny_mono ((hsu q o4 cl od (X.pn ++ ps) z4 ⟨_, d4⟩).run [] t5 _ J' _ S5 (yes rfl q nq)) (fun f t6 hp6 => ?_) (fun _ _ z => False.elim z)
          have last : ∀ {τ6 : L2.St} {J6 : Hp} {Q : Shared → Prop}, Inv (X.suite q ((q, o4) :: (X.pn ++ ps))) [] τ6 J6 t6 → (∀ t7, Inv X ps (τ6.set i none) J6 t7 → Q t7) →
              wpAny (model X.prog X.w) X.A (do bindName X.env n .none; unbindBehindTheSuite X.env n hp) (fun _ t7 => Q t7) X.xe t6 := fun {τ6 J6 Q} S6 hq => gone_ok (S6.unsuite xo) hN hi hl hq
          cases f with
          | next =>
            obtain ⟨τ6, J6, S6, z6⟩ := hp6
            exact last S6 fun t7 I7 => ⟨_, _, I7, z6⟩
          | brk =>
            obtain ⟨τ6, J6, S6, z6⟩ := hp6
            exact last S6 fun t7 I7 => ⟨_, _, I7, z6⟩
          | cont =>
            obtain ⟨τ6, J6, S6, z6⟩ := hp6
            exact last S6 fun t7 I7 => ⟨_, _, I7, z6⟩
          | ret u =>
            obtain ⟨v6, τ6, J6, S6, r6, z6⟩ := hp6
            exact last S6 fun t7 I7 => ⟨_, _, _, I7, r6, z6⟩
        | false =>
          show wpAny _ X.A (handleBy (.ref q) X.env hds2) _ _ _
          exact ih (no rfl)
    exact go hh w
  · cases f with
    | next =>
      obtain ⟨τ', J', I', z⟩ := hp
      exact wpAny_execs_nil ⟨τ', J', I'.ofTry xo, z⟩
    | brk =>
      obtain ⟨τ', J', I', z⟩ := hp
      exact ⟨τ', J', I'.ofTry xo, z⟩
    | cont =>
      obtain ⟨τ', J', I', z⟩ := hp
      exact ⟨τ', J', I'.ofTry xo, z⟩
    | ret u =>
      obtain ⟨v, τ', J', I', r, z⟩ := hp
      exact ⟨v, τ', J', I'.ofTry xo, r, z⟩
end
/-! ### raise, try -/
def hdB (c : Cfg) (h : Hd) : ExceptHandler → Bool
  | .ExceptHandler (some (.Name x _)) (some nm) su _ => x == h.cls && gloB c x && c.exs.contains x && decide (c.N[h.i]? = some nm) && decide (c.sc.names.lookup nm = some .local) && (match h.f with
    | some f => (match su with
      | [.Assign [.Name y _] (.Attribute (.Name x2 _) f2 _) _] => stoB c h.j y && x2 == nm && f2 == f && f == ("limit" : Str) && x == ("TooMany" : Str) && !(nm == ("__debug__" : Str)) && !(nm == ("__classdict__" : Str))
      | _ => false)
    | none => match h.k with
      | none => !su.isEmpty
      | some k => match su with
        | [.Assign [.Name y _] e _] => stoB c h.j y && kdB k e && !isLc e
        | _ => false)
  | _ => false
def hdsB (c : Cfg) : List Hd → List ExceptHandler → Bool
  | [], [] => true
  | h :: hs, e :: es => hdB c h e && hdsB c hs es
  | _, _ => false
theorem Rel.forget {K : PySem.W.Frag} {G : Gh} {ρ : VE} {S : Sto} {σ : L2.St} {H : Hp} (R : Rel K G ρ S σ H) (i : Nat) (u : Option V) : Rel K G (ρ.set i none) S (σ.set i u) H := by
  have keep : ∀ {j : Nat} {l : Lo}, (ρ.set i none)[j]? = some (some l) → ρ[j]? = some (some l) ∧ i ≠ j := fun {j l} e => by
    by_cases hj : i = j
    · subst hj
      by_cases hi : i < ρ.length
      · rw [List.getElem?_set_self hi] at e; cases e
      · rw [List.getElem?_eq_none (by simpa using hi)] at e; cases e
    · rw [List.getElem?_set_ne hj] at e
      exact ⟨e, hj⟩
  refine ⟨fun j p e => ?_, fun j l e nl => ?_, R.sto, R.old, R.new, R.mon, by rw [List.length_set, List.length_set]; exact R.len⟩
  · obtain ⟨e1, e2⟩ := keep e
    rw [List.getElem?_set_ne e2]
    exact R.val j p e1
  · obtain ⟨e1, e2⟩ := keep e
    rw [List.getElem?_set_ne e2]
    obtain ⟨a, h1, o, f1, f2, ap⟩ := R.own j l e1 nl
    refine ⟨a, h1, o, f1, f2, fun k l' hk ek nk => ?_⟩
    obtain ⟨e3, e4⟩ := keep ek
    rw [List.getElem?_set_ne e4]
    exact ap k l' hk e3 nk
section
variable {c : Cfg} {Φ : Phi} {n : Nat} {xr : XR} {X : Cx} {W : WX} {pos : Pos}
theorem snd_raise (o : StOk c Φ n xr X W) {C x m : Str} {j : Nat} {p p2 p3 : Pos} (h1 : (x == C) = true) (h2 : gloB c x = true) (h3 : c.exs.contains x = true) (h4 : c.rai.contains x = true) :
    PS X (.Raise (some (.Call (.Name x p) [.Constant (.str m) j p2] [] p3)) none pos) (rS X.K xr W (wpS Φ (.raiseT C))) := by
  obtain rfl := eq_of_beq h1
  obtain ⟨g, dd, _⟩ := o.toCxOk.glo h2
  obtain ⟨Ca, hm, q, k, b, t⟩ := o.exs.cls x h4
  exact psI (ps_raise o.calm o.tk (pmk_own PySem.F.excBase_ValueError q hm k (raises_own b t) g dd)) fun D σ H ⟨G, ρ, S, V, R, w, en⟩ => en.ex _ _ _ _ _ _ _ w R (o.exs.xin x Ca H h3 hm) (Le.refl H)
theorem StOk.tr (o : StOk c Φ n xr X W) {W' : WX} {pn : List (Addr × Obj)} {xe : Value → Shared → Prop} (tk : Takes (X.tr pn xe) W') (po : PassesOwn (model X.prog X.w) X.A X.env xe) : StOk c Φ n xr (X.tr pn xe) W' where
  N := o.N
  nd := o.nd
  sc := o.sc
  fn := o.fn
  calm := o.calm
  room := o.room
  gd := o.gd
  tk := tk
  sys := o.sys
  blt := o.blt
  cst := o.cst
  fns := fun x h => by
    obtain ⟨f, fd, ps, F⟩ := o.fns x h
    exact ⟨f, fd, ps, F.mg, F.keep, F.binds, F.len, F.runs⟩
  exs := o.exs
  err := o.err
  po := po
  kind := o.kind
  stk := o.stk
  frm := o.frm
/-- what a clause reads -/
def hdT (Φ : Phi) (xr : XR) (K : PySem.W.Frag) (Ca : Addr) (h : Hd) : Addr → Value → Option Addr → TS := fun q cl od D σ H => match h.f with
  | some f => tAsg (tXf q cl od Ca f (tVar h.i)) (gName h.j) D σ H
  | none => match h.k with
    | none => False
    | some k => rS K xr (fun _ _ _ _ => False) (wpS Φ (.asg h.j (.val (.kd k)))) D σ H
theorem hds_ok (o : StOk c Φ n xr X W) : ∀ {hs : List Hd} {es : List ExceptHandler}, hdsB c hs es = true → ∃ l, HdsA X es l ∧
    ∀ (G : Gh) (H0 : Hp) (D : Ends) (V : EndsV), EndR X.K xr W G H0 D V → ∀ (x : Exc) (ρ : VE) (S : Sto) (σ : L2.St) (cl : Value) (od : Option Addr) (H : Hp), hdW V hs x ρ S → Rel X.K G ρ S σ H → xr x cl od H → Le H0 H → wMA X.K W D l cl od σ H
  | [], [], _ => ⟨[], .nil, fun G H0 D V en x ρ S σ cl od H w R hx le => en.ex x ρ S σ cl od H w R hx le⟩
  | [], _ :: _, h => nomatch h
  | _ :: _, [], h => nomatch h
  | h :: hs, e :: es, hb => by
    have hb : (hdB c h e && hdsB c hs es) = true := hb
    obtain ⟨hb, hb2⟩ := and_of hb
    obtain ⟨l, hl, go⟩ := hds_ok o hb2
    unfold hdB at hb
    split at hb
    · rename_i x px nm su pp zz1 zz2
      obtain ⟨hb, q6⟩ := and_of hb
      obtain ⟨hb, q5⟩ := and_of hb
      obtain ⟨hb, q4⟩ := and_of hb
      obtain ⟨hb, q3⟩ := and_of hb
      obtain ⟨q1, q2⟩ := and_of hb
      have ex := eq_of_beq q1
      subst ex
      obtain ⟨g, dd, nn⟩ := o.toCxOk.glo q2
      obtain ⟨Ca, hm⟩ := o.exs.glo _ q3
      have hi : X.N[h.i]? = some nm := by rw [o.N]; exact of_decide_eq_true q4
      have hk : X.env.kindOf nm = some .local := by
        show X.env.scope.names.lookup nm = _
        rw [o.sc]
        exact of_decide_eq_true q5
      obtain ⟨b₀, su', rfl⟩ : ∃ b₀ su', su = b₀ :: su' := by
        cases su with
        | cons a b => exact ⟨a, b, rfl⟩
        | nil =>
          cases qf : h.f with
          | some f => rw [qf] at q6; cases q6
          | none =>
            rw [qf] at q6
            cases q : h.k with
            | none => rw [q] at q6; cases q6
            | some k => rw [q] at q6; cases q6
      refine ⟨(.ref Ca, h.i, hdT Φ xr X.K Ca h) :: l, .cons ⟨g, dd, .inl hm⟩ hi hk (fun a oe cl od pn hz hf => ?_) hl, fun G H0 D V en x ρ S σ cl od H w R hx le => ?_⟩
      · cases qf : h.f with
        | some f =>
          rw [qf] at q6
          dsimp only at q6
          split at q6
          · rename_i y py x2 px2 f2 pf ps heq
            cases heq
            obtain ⟨z, z7⟩ := and_of q6
            obtain ⟨z, z6⟩ := and_of z
            obtain ⟨z, z5⟩ := and_of z
            obtain ⟨z, z4⟩ := and_of z
            obtain ⟨z, z3⟩ := and_of z
            obtain ⟨z1, z2⟩ := and_of z
            obtain rfl := eq_of_beq z2
            obtain rfl := eq_of_beq z3
            obtain rfl := eq_of_beq z4
            have z5 := eq_of_beq z5
            obtain ⟨s1, s2, s3⟩ := o.toCxOk.sto z1
            have L := o.exs.lim (by rw [← z5]; exact q3)
            obtain ⟨Cl, Sh, fI, fd, params, body, scope, m1, m2, T, XF, iC, tI, hno, _⟩ := L.ex
            have eC : Ca = Cl := by
              rw [z5, m1] at hm
              cases hm
              rfl
            subst eC
            have hv : Vis X.env.scope x2 := by
              have hk : X.env.scope.names.lookup x2 = some .local := hk
              unfold Vis
              rw [hk]
              simp
            have pv : PE (X.suite a ((a, oe) :: pn)) (.Name x2 px2) (tVar h.i) := pe_var hi hv (by simpa using z6) (by simpa using z7)
            refine pssI (pss_cons (ps_set (X := X.suite a ((a, oe) :: pn)) (by rw [show (X.suite a ((a, oe) :: pn)).N = X.N from rfl, o.N]; exact o.nd) s1 s2 (pe_xf XF hno hz hf pv) (sw_false rfl) s3) pss_nil) fun D σ H w => ?_
            unfold hdT at w
            rw [qf] at w
            exact w
          · cases q6
        | none =>
        rw [qf] at q6
        dsimp only at q6
        cases q : h.k with
        | none =>
          refine ⟨fun pins s σ H D I w => ?_⟩
          unfold hdT at w
          rw [qf, q] at w
          exact w.elim
        | some k =>
          rw [q] at q6
          dsimp only at q6
          split at q6
          · rename_i y py e2 p2 heq
            cases heq
            obtain ⟨z, z3⟩ := and_of q6
            obtain ⟨z1, z2⟩ := and_of z
            obtain ⟨s1, s2, s3⟩ := o.toCxOk.sto z1
            refine pssI (pss_cons (ps_set (X := X.suite a ((a, oe) :: pn)) (by rw [show (X.suite a ((a, oe) :: pn)).N = X.N from rfl, o.N]; exact o.nd) s1 s2 (snd_kd (Φ := Φ) (xr := xr) (W := fun _ _ _ _ => False) z2) (sw_false (by simpa using z3)) s3) pss_nil) fun D σ H w => ?_
            unfold hdT at w
            rw [qf, q] at w
            obtain ⟨G, ρ, S, V, R, w, en⟩ := w
            have w : wpE Φ V.ex (.kd k) ρ S fun v ρ1 S1 => V.nx (ρ1.set h.j (some (.v v))) S1 := w
            exact ⟨G, ρ, S, V.ex, _, R, w, fun v ρ1 S1 u H1 p R1 rv l1 => en.nx _ _ _ _ p (R1.setLo (l := .v v) rv) l1, en.exf0⟩
          · cases q6
      · obtain ⟨Cx, hmx, rfl, hcx⟩ := o.exs.xout x cl od H hx
        have w : (if x.cls = h.cls then (match h.f with
          | some nm => h.i < ρ.length ∧ (match x.fs.lookup nm with
            | some d => V.nx (((ρ.set h.i none).set h.j (some (.v (.d d)))).set h.i none) S
            | none => False)
          | none => match h.k with
            | some k => V.nx (((ρ.set h.i none).set h.j (some (.v (.d k)))).set h.i none) S
            | none => False) else hdW V hs x ρ S) := w
        refine ⟨_, o.exs.exm _ _ _ _ hcx q3 hmx hm, fun hy a na => ?_, fun hn => ?_⟩
        · have ec := of_decide_eq_true hy
          rw [if_pos ec] at w
          unfold hdT
          cases qf : h.f with
          | some f =>
            rw [qf] at w q6
            dsimp only at w q6
            obtain ⟨hlen, w⟩ := w
            have eC : Cx = Ca := by
              rw [ec, hm] at hmx
              cases hmx
              rfl
            subst eC
            split at q6
            · obtain ⟨z, _⟩ := and_of q6
              obtain ⟨z, _⟩ := and_of z
              obtain ⟨z, z5⟩ := and_of z
              have L := o.exs.lim (by rw [← eq_of_beq z5]; exact q3)
              cases ql : x.fs.lookup f with
              | none => rw [ql] at w; exact w.elim
              | some d =>
                rw [ql] at w
                obtain ⟨dd2, fs, u, rfl, hd2, hu, ru⟩ := L.xoutL x _ _ H hx f d ql
                have hls : h.i < σ.length := by have := R.len; omega
                exact ⟨.ref a, by rw [List.getElem?_set_self hls], rfl, rfl, dd2, fs, u, rfl, hd2, hu, en.nx _ _ _ _ w (((R.forget h.i (some (.ref a))).setLo (l := .v (.d d)) ru).forget h.i none) le⟩
            · cases q6
          | none =>
          rw [qf] at w
          dsimp only at w
          cases q : h.k with
          | none => rw [q] at w; exact w.elim
          | some k =>
            rw [q] at w
            dsimp only at w ⊢
            refine ⟨G, ρ.set h.i none, S, ⟨fun ρ' S' => V.nx (ρ'.set h.i none) S', fun _ _ => False, fun _ _ => False, fun _ _ => False, fun _ _ _ => False⟩, R.forget h.i _, ?_, ⟨fun ρ1 S1 σ1 H1 p R1 l1 => ?_, fun _ _ _ _ z => z.elim, fun _ _ _ _ z => z.elim, fun _ _ _ _ z => z.elim, fun _ _ _ _ _ _ _ z => z.elim⟩⟩
            · exact w
            · exact en.nx _ _ _ _ p (R1.forget h.i none) (le.trans l1)
        · have ec := of_decide_eq_false hn
          rw [if_neg ec] at w
          exact go G H0 D V en x ρ S σ _ od H w R hx le
    · cases hb
theorem snd_try (o : StOk c Φ n xr X W) {body : List Stmt} {h₀ : ExceptHandler} {hds : List ExceptHandler} {b : List Sm} {hs : List Hd} (h : hdsB c hs (h₀ :: hds) = true) (hb : ∀ (X' : Cx) (W' : WX), StOk c Φ n xr X' W' → PSs X' body (rS X'.K xr W' (wpSs Φ b))) :
    PS X (.Try body (h₀ :: hds) [] [] pos) (rS X.K xr W (wpS Φ (.tryS b hs))) := by
  obtain ⟨l, hl, go⟩ := hds_ok o h
  refine psI (ps_try_ma (tb := fun W' => rS X.K xr W' (wpSs Φ b)) o.stk o.frm (by rw [o.N]; exact o.nd) o.tk (fun W' pn xe tk po => hb (X.tr pn xe) W' (o.tr tk po)) hl) fun D σ H ⟨G, ρ, S, V, R, w, en⟩ => ?_
  exact ⟨G, ρ, S, _, R, w, ⟨en.nx, en.rt, en.bk, en.ct, fun x ρ1 S1 σ1 cl od H1 a b c d => go G H D V en x ρ1 S1 σ1 cl od H1 a b c d⟩⟩
end
end Lk
/-! DR: a list comprehension whose element may raise. -/
namespace Lk
open PySem PySem.Spec PyProof.Rows L2
theorem note_same {u : Value} {e1 e2 : Env} (h : e1.frame = e2.frame) : noteFrame u e1 = noteFrame u e2 := by
  unfold noteFrame PySem.frameOf
  rw [h]
theorem inv_xe {X : Cx} {e : Value → Shared → Prop} {pins : List (Addr × Obj)} {σ : L2.St} {H : Hp} {s : Shared} (I : Inv X pins σ H s) : Inv { X with xe := e } pins σ H s :=
  ⟨⟨I.ok.mod, I.ok.kind, I.ok.glob, I.ok.blt, I.ok.above, I.ok.inj, I.ok.has, I.ok.cab, I.ok.hd, I.ok.frames, I.ok.stk, I.ok.exf, I.ok.bs, I.ok.bsz, I.ok.noex, I.ok.exfs, I.ok.funs, I.ok.frf⟩, I.os, I.bare, I.base, I.loc, I.cell, I.free, I.freeC, I.pin, I.hok, I.len⟩
/-- what the end of a comprehension is to give: u the store of its list, ce its block -/
def lcEnd (M : Model) (A : Around) (E : Value → Shared → Prop) (u : Value → Sem Unit) (Q : Shared → Prop) (acc : Value) (ce : Env) : Result → Shared → Prop
  | .ok _, s' => wpAny M A (u acc) (fun _ s2 => ∃ m, s2.heap.Ns ce.locals m ∧ ∀ h2, Heap.SameBut ce.locals s2.heap h2 → Q { s2 with heap := h2 }) E s'
  | .error x, s' => ∃ m, s'.heap.Ns ce.locals m ∧ ∀ h2, Heap.SameBut ce.locals s'.heap h2 → wpAny M A (PySem.passOn "comprehension.variables-let-go" x ce : Sem Value) (fun _ _ => False) E { s' with heap := h2 }
theorem lc_free {M : Model} {A : Around} {E : Value → Shared → Prop} {s : Shared} {env : Env} {e : Expr} {scope : Scope} {pos : Pos} {nw fst : Sem Value} {g : Comprehension} {gs : List Comprehension} {cl : List (Str × Addr)} {u : Value → Sem Unit} {Q : Shared → Prop}
    (c1 : clausesOf e = g :: gs) (c2 : ∀ x, foldedSetIterable g.iter env x = pure x) (c3 : closureFor scope env = pure cl) (c4 : scope.kind = .function) (c5 : ∀ x ∈ scope.names, x.2 = .local → scope.names.lookup x.1 = some .local)
    (h : wpAny M A fst (fun x s1 => wpAny M A (pyIter x) (fun it s2 => wpAny M A nw (fun acc s3 => wpAny M A (newFunctionEnv scope env.globals cl [] env.qual none .none (some env)) (fun ce s4 =>
      codeAny M A (.compStart e 0 it acc { ce with scope := relabel scope env }) (lcEnd M A E u Q acc { ce with scope := relabel scope env }) s4) E s3) E s2) E s1) E s) :
    wpAny M A (comprehension e scope env pos nw false fst (some u)) (fun _ s' => Q s') E s := by
  unfold comprehension
  rw [c3, c1]
  have id2 : ∀ (a : Value) (t : Shared), E a t → E a t := fun _ _ z => z
  apply wpAny_bind
  apply wpAny_mono h _ id2
  intro x s1 h1
  apply wpAny_bind
  apply wpAny_standAt
  apply wpAny_bind
  apply wpAny_of_eq (c2 x)
  apply wpAny_bind
  apply wpAny_holding
  apply wpAny_mono h1 _ id2
  intro it s2 h2
  apply wpAny_standIf
  apply wpAny_bind
  apply wpAny_mono h2 _ id2
  intro acc s3 h3
  apply wpAny_bind
  apply wpAny_pure
  apply wpAny_bind
  apply wpAny_mono h3 _ id2
  intro ce s4 h4
  dsimp only
  have kl : ∀ x ∈ scope.names, x.2 = .local → Env.kindOf { ce with scope := relabel scope env } x.1 = some .local := fun x hx e => lookup_relabel_local (c5 x hx e)
  generalize hvs : (scope.names.filter fun x => (x.2 == .local || x.2 == .cell) && x.1 != (".0" : Str)).reverse = vs
  have kv : ∀ x ∈ vs, x.2 = .local → Env.kindOf { ce with scope := relabel scope env } x.1 = some .local := fun x hx => by
    rw [← hvs] at hx
    exact kl x (List.mem_filter.mp (List.mem_reverse.mp hx)).1
  have kw : ∀ x ∈ vs.drop 1 ++ vs.take 1, x.2 = .local → Env.kindOf { ce with scope := relabel scope env } x.1 = some .local := fun x hx => by
    rcases List.mem_append.mp hx with q | q
    · exact kv x (List.mem_of_mem_drop q)
    · exact kv x (List.mem_of_mem_take q)
  refine wpAny_holding (wpAny_bind (wpAny_attempt (wpAny_holding (wpAny_run (codeAny_mono h4 ?_)))))
  rintro (x | f) s5 h5
  · obtain ⟨m, hn, h5⟩ := h5
    refine wpAny_bind (wpAny_holding ?_)
    exact wpAny_comp_letGo (cenv := { ce with scope := relabel scope env }) c4 _ s5 m kv hn fun h' m' _ hs => wpAny_mono (h5 h' hs) (fun _ _ f => f.elim) id2
  · have h5 : wpAny M A (u acc) (fun _ s2 => ∃ m, s2.heap.Ns ce.locals m ∧ ∀ h2, Heap.SameBut ce.locals s2.heap h2 → Q { s2 with heap := h2 }) E s5 := h5
    refine wpAny_bind (wpAny_rule (wpAny_bind (wpAny_holding (wpAny_mono h5 ?_ id2))))
    rintro _ s6 ⟨m, hn, h6⟩
    refine wpAny_bind ?_
    exact wpAny_comp_letGo (cenv := { ce with scope := relabel scope env }) c4 _ s6 m kw hn fun h' m' _ hs => wpAny_pure (h6 h' hs)
theorem frames_move {h h2 B B0 : Heap} : ∀ {l : List Env}, h.FunFrames B l → (∀ L ∈ frs l, h2.get? L = h.get? L) → (∀ L, B.get? L = none → B0.get? L = none) → h2.FunFrames B0 l
  | [], _, _, _ => trivial
  | e :: l, hl, k1, k2 => by
    obtain ⟨kd, ⟨L, o, e1, e2, e3, e4⟩, tl⟩ := hl
    have hL : L ∈ frs (e :: l) := List.mem_filterMap.mpr ⟨e, List.mem_cons_self, e1⟩
    refine ⟨kd, ⟨L, o, e1, k2 L e2, (k1 L hL).trans e3, e4⟩, frames_move tl (fun b hb => k1 b ?_) k2⟩
    obtain ⟨f, hf, q⟩ := List.mem_filterMap.mp hb
    exact List.mem_filterMap.mpr ⟨f, List.mem_cons_of_mem _ hf, q⟩
open HandSPX in
/-- noted at another frame's hand -/
theorem looks_other {M : Model} {A : Around} {E : Value → Shared → Prop} {s : Shared} {Z : Obj → Prop} {G : Heap} {env : Env} {outer : List Env} {L L2 a : Addr} {Q : Unit → Shared → Prop} (st : Steady Z) (q1 : A.frames = some (env :: outer)) (q2 : env.frame = some L)
    (hh : HeldZ G (env :: outer) a Z L2 s.heap) (hne : L2 ≠ L) (hQ : ∀ h1, HeldZ G (env :: outer) a Z L h1 → s.heap.UpToSlots h1 → Q () { s with heap := h1 }) : wpAny M A (noteFrame (.ref a) env) Q E s := by
  obtain ⟨g1, g2, g3, ob, fs, T, tb, rs, t1, t2, t3, t4, t5, t6, t7, t8, t9⟩ := hh
  unfold noteFrame
  simp only [q2]
  apply wpAny_bind
  apply wpAny_field t1 t3 t4
  have n1 : (Value.ref T != Value.none) = true := by simp
  rw [if_pos n1]
  apply wpAny_bind
  apply wpAny_field t7 t8 t9
  have n2 : ¬ (rawInt L2 == rawInt L) = true := by
    simp only [rawInt, beq_iff_eq]
    intro z
    injection z with z
    exact hne (Int.ofNat.inj z)
  rw [if_neg n2]
  apply wpAny_bind
  apply wpAny_setField t7 t8 (Array.getElem?_eq_some_iff.mp t9).1
  have away : ∀ b, b ≠ T → (s.heap.update T (Obj.mapFields (·.setIfInBounds 3 Value.none))).get? b = s.heap.get? b := fun b hb => Heap.get?_update_other _ _ fun z => hb z.symm
  have norec : ∀ b o, s.heap.get? b = some o → (∀ vs, o.data ≠ .fields vs) → b ≠ T := fun b o e n z => by
    subst z
    rw [t7] at e
    injection e with e
    subst e
    exact n rs t8
  have r1 : (s.heap.update T (Obj.mapFields (·.setIfInBounds 3 Value.none))).FunFrames G (env :: outer) := g3.of_keeps fun b o e n => ⟨o, (away b (norec b o e n)).trans e, rfl⟩
  have r2 : G.StaysIn (s.heap.update T (Obj.mapFields (·.setIfInBounds 3 Value.none))) := fun b o e => by
    rw [away b fun z => by rw [z, t5] at e; cases e]
    exact g1 b o e
  refine wpAny_entryZ st q1 r1 q2 ((away a t6.symm).trans t1) r2 g2 t3 (Array.getElem?_eq_some_iff.mp t4).1 t2 ?_
  rintro h1 ⟨x1, x2, x3, x4⟩
  refine hQ h1 ⟨x1, g2, x2, x3⟩ fun b o e n => ?_
  exact x4 b o (by rw [away b (norec b o e n)]; exact e) n
open HandSPX in
/-- an exception in the block's air leaves the comprehension -/
theorem lc_air {X : Cx} {pins : List (Addr × Obj)} {σ0 : L2.St} {H3 : Hp} {s3 : Shared} {scope : Scope} {ce : Env} {fp : List Addr} {W : WX} {u : Value → Sem Unit} {Q : Shared → Prop} {acc v : Value} {s' : Shared}
    (I3 : Inv X pins σ0 H3 s3) (f3 : ∀ b ∈ fp, FpOk X pins H3 b ∧ b < s3.heap.objs.size) (hl : ce.locals = s3.heap.objs.size) (hf : ce.frame = X.env.frame) (k1 : X.stack = X.env :: X.outer) (k2 : X.env.frame = some X.env.locals) (tk : Takes X W)
    (x : XE (X.blk s3 H3 scope ce fp) (fun cls d _ H => W cls d σ0 H) v s') :
    wpAny (model X.prog X.w) X.A (noteFrame v ce) (fun _ t => lcEnd (model X.prog X.w) X.A X.xe u Q acc ce (.error v) t) (fun _ _ => False) s' := by
  obtain ⟨a, B, sI, pn, σ, H, cls, d, rfl, I, nb, up, sky, na, os, ag, w⟩ := x
  have hA : X.A.frames = some (X.env :: X.outer) := by
    rw [← k1]
    exact I3.ok.frames
  have nC : H ce.locals = none := I.free
  have hCf : ce.locals ∉ frs X.stack := fun z => by
    obtain ⟨_, o, e, _⟩ := I3.stack.mem z
    have q := Heap.lt_size e
    rw [hl] at q
    exact Nat.lt_irrefl _ q
  have hCL : ce.locals ≠ X.env.locals := fun z => by
    have q := I3.lt
    rw [← z, hl] at q
    exact Nat.lt_irrefl _ q
  obtain ⟨m, ⟨oC, es, ep, c1, c2⟩, _⟩ := I.loc
  have c1 : sI.heap.get? ce.locals = some oC := c1
  have cB : B.get? ce.locals = some oC := nb _ _ c1 hCf
  have fok : FpOk X pins H ce.locals := I3.fpOk (Nat.le_of_eq hl.symm) nC
  obtain ⟨f0, f1, _, f4, f5, f6⟩ := fok
  rw [note_same hf]
  -- noted: the block's names are let go, it is passed on
  have fin : ∀ h1, HeldZ B (X.env :: X.outer) a (Zc cls d) X.env.locals h1 → s'.heap.UpToSlots h1 → lcEnd (model X.prog X.w) X.A X.xe u Q acc ce (.error (.ref a)) { s' with heap := h1 } := by
    rintro h1 ⟨g1, g2, g3, oe, vs, T, oT, ts, t1, t2, t3, t4, t5, t6, t7, t8, t9⟩ up1
    refine ⟨m, ⟨oC, es, ep, g1 _ _ cB, c2⟩, fun h2 sb => ?_⟩
    have aC : a ≠ ce.locals := fun z => by rw [z, cB] at g2; cases g2
    have tC : T ≠ ce.locals := fun z => by rw [z, cB] at t5; cases t5
    obtain ⟨B0, r1, r2⟩ := restrict B fun b => decide (b ≠ ce.locals)
    have sub : ∀ b o, B0.get? b = some o → b ≠ ce.locals ∧ B.get? b = some o := fun b o e => by
      by_cases hb : b = ce.locals
      · rw [r2 b (by simp [hb])] at e
        cases e
      · rw [r1 b (by simp [hb])] at e
        exact ⟨hb, e⟩
    have n0 : ∀ b, B.get? b = none → B0.get? b = none := fun b e => by
      cases q : B0.get? b with
      | none => rfl
      | some o =>
        rw [(sub b o q).2] at e
        cases e
    have held : HeldZ B0 (X.env :: X.outer) a (Zc cls d) X.env.locals h2 := by
      refine ⟨fun b o e => ?_, n0 a g2, frames_move g3 (fun b hb => sb.2 b fun z => ?_) n0, oe, vs, T, oT, ts, (sb.2 a aC).trans t1, t2, t3, t4, n0 T t5, t6, (sb.2 T tC).trans t7, t8, t9⟩
      · obtain ⟨z1, z2⟩ := sub b o e
        exact (sb.2 b z1).trans (g1 b o z2)
      · rw [← k1, z] at hb
        exact hCf hb
    have pe : ∀ h3, HeldZ B0 (X.env :: X.outer) a (Zc cls d) X.env.locals h3 → h2.UpToSlots h3 → X.xe (.ref a) { s' with heap := h3 } := by
      intro h3 held3 up3
      obtain ⟨G, y1, y2⟩ := restrict sI.heap fun b => decide (b ≠ ce.locals)
      have gsub : ∀ b o, G.get? b = some o → b ≠ ce.locals ∧ sI.heap.get? b = some o := fun b o e => by
        by_cases hb : b = ce.locals
        · rw [y2 b (by simp [hb])] at e
          cases e
        · rw [y1 b (by simp [hb])] at e
          exact ⟨hb, e⟩
      have IX : Inv X pins σ0 H sI := I3.call' (ch := fp) I.os I.base I.hok I.bare fun b hb => ⟨(f3 b hb).1.2.2.2.1, (f3 b hb).1.2.1, (f3 b hb).1.2.2.2.2.1, (f3 b hb).1.2.2.2.2.2⟩
      have I0 : Inv X pins σ0 H { sI with heap := G } := IX.turned (t' := sI.toks) (it := ce.locals) (fun b o hb e => by rw [y1 b (by simp [hb])]; exact e) f0 f1 f4 f5 f6
      refine tk _ _ ⟨a, B0, { sI with heap := G }, pins, σ0, H, cls, d, rfl, I0, fun b o e hb => ?_, fun b o e hd => ?_, .inr (.inr (by rw [k1]; exact held3)), na, os, ag, w⟩
      · obtain ⟨z1, z2⟩ := gsub b o e
        rw [r1 b (by simp [z1])]
        exact nb b o z2 hb
      · obtain ⟨z1, z2⟩ := gsub b o e
        obtain ⟨l1, q1⟩ := up b o z2 hd
        obtain ⟨l2, q2⟩ := up1 b _ q1 hd
        rw [← sb.2 b z1] at q2
        obtain ⟨l3, q3⟩ := up3 b _ q2 hd
        exact ⟨l3, q3⟩
    unfold PySem.passOn
    obtain ⟨_, _, _, oe', vs', T', oT', ts', p1, p2, p3, p4, p5, p6, p7, p8, p9⟩ := held
    have held : HeldZ B0 (X.env :: X.outer) a (Zc cls d) X.env.locals h2 := ⟨by assumption, by assumption, by assumption, oe', vs', T', oT', ts', p1, p2, p3, p4, p5, p6, p7, p8, p9⟩
    apply wpAny_bind
    apply wpAny_field p1 p3 p4
    have n1 : ¬ (Value.ref T' == Value.none) = true := by simp
    rw [if_neg n1]
    apply wpAny_bind
    rw [hf, k2]
    refine setFlight_onZ held fun h3 hh3 up3 => ?_
    exact wpAny_throw (pe h3 hh3 up3)
  have sky : Sky B (X.env :: X.outer) a (Zc cls d) ce.locals s'.heap := by
    rw [← k1]
    exact sky
  rcases sky with ⟨x1, x2, x3, oe, vs, x4, x5, x6, x7⟩ | fl | hd
  · exact look_newZ Zc.steady hA x3 k2 x4 x1 x2 x6 x7 x5 fin
  · exact looks_onZ Zc.steady hA k2 fl fin
  · exact looks_other Zc.steady hA k2 hd hCL fin
/-- a list comprehension stored to a name: what its element raises leaves it -/
theorem lc_raises {X : Cx} {pins : List (Addr × Obj)} {s : Shared} {σ : L2.St} {H : Hp} {Q : VK} {elt tg iter : Expr} {ifs : List Expr} {scope : Scope} {own : List (Str × Nat)} {pos pos' : Pos} {wi : TI} {g : TG} {tt : TT} {te : TE} {u : Value → Sem Unit} {Z : Shared → Prop} {W : WX}
    (k0 : X.calm = true) (k1 : X.stack = X.env :: X.outer) (k2 : X.env.frame = some X.env.locals) (tk : Takes X W) (nd : X.N.Nodup) (I : Inv X pins σ H s) (hi : PI X tg iter wi) (bo : BlkOk X.N X.env.scope scope own)
    (qg : ∀ (t : Shared) (G : Hp) (C : Addr) (cl : List (Str × Addr)) (fp : List Addr), PG (X.blk t G scope (compEnvC scope cl C X.env) fp) tg g)
    (qt : ∀ (t : Shared) (G : Hp) (C : Addr) (cl : List (Str × Addr)) (fp : List Addr), PTs (X.blk t G scope (compEnvC scope cl C X.env) fp) ifs tt)
    (qe : ∀ (t : Shared) (G : Hp) (C : Addr) (cl : List (Str × Addr)) (fp : List Addr) (xe : Value → Shared → Prop), Takes { X.blk t G scope (compEnvC scope cl C X.env) fp with xe := xe } (fun cls d _ H' => W cls d σ H') → PE { X.blk t G scope (compEnvC scope cl C X.env) fp with xe := xe } elt te)
    (hf : ∀ x, foldedSetIterable iter X.env x = pure x) (h : tLc wi g tt te (own.map (·.2)) σ H Q)
    (fin : ∀ D C s' m H', Inv X pins σ H' s' → Q (.ref D) H' → s'.heap.Ns C m → FpOk X pins H' C → wpAny (model X.prog X.w) X.A (u (.ref D)) (fun _ s2 => ∃ m, s2.heap.Ns C m ∧ ∀ h2, Heap.SameBut C s2.heap h2 → Z { s2 with heap := h2 }) X.xe s') :
    wpAny (model X.prog X.w) X.A (comprehension (.ListComp elt [⟨tg, iter, ifs, 0⟩] scope pos) scope X.env pos' (newList []) false (eval iter X.env) (some u)) (fun _ s' => Z s') X.xe s := by
  have fr : ∀ y ∈ scope.names, y.2 = .free → ∃ c, X.env.cells.lookup y.1 = some c := fun y hy e => I.ok.has _ (bo.free y hy e)
  have un : ∀ y ∈ scope.names, y.2 = .local → scope.names.lookup y.1 = some .local := fun y hy e => by
    rw [bo.uniq y hy, e]
  refine lc_free rfl hf (closure_ok fr) bo.kind un (thn (hi.run pins s σ H _ I h) fun xv s1 w1 => thn w1 ?_)
  rintro _ s2 ⟨it, fp, tn, J, H2, rfl, I2, T, st, ff, go⟩
  have zs : (0 : Nat) ≤ sizeLine := Nat.zero_le _
  refine wpAny_newObj_type ?_ zs
  refine newEnv_comp ?_
  -- the new list at D
  obtain ⟨D, eD⟩ : ∃ D, D = s2.heap.objs.size := ⟨_, rfl⟩
  obtain ⟨s3, e3⟩ : ∃ t : Shared, t = { s2 with heap := s2.heap.push { cls := .type "list", data := .seq ([] : List Value).toArray } } := ⟨_, rfl⟩
  have nD : H2 D = none := I2.hok.fresh (Nat.le_of_eq eD.symm)
  obtain ⟨Wt, ⟨m0, w0⟩, turn⟩ := go D nD
  have old : ∀ b o, s2.heap.get? b = some o → s3.heap.get? b = some o := fun b o e => by
    rw [e3]
    exact Heap.get?_push_of_some _ e
  have I3 : Inv X pins σ (upd H2 D (.lst [])) s3 := by
    have ob : ObjOk X.prog X.w (upd H2 D (.lst [])) (s2.heap.push { cls := .type "list", data := .seq ([] : List Value).toArray }) D (.lst []) := by
      rw [eD]
      exact ⟨Nat.zero_le _, [], 0, .nil, Heap.get?_push_size _ rfl⟩
    rw [e3]
    exact I2.laid (t' := s2.toks) (fun b o e => Heap.get?_push_of_some _ e) (Nat.le_of_eq eD.symm) ob
  have sz3 : s3.heap.objs.size = s2.heap.objs.size + 1 := by
    rw [e3]
    exact Heap.size_push ..
  have f3 : ∀ b ∈ fp, FpOk X pins (upd H2 D (.lst [])) b ∧ b < s3.heap.objs.size := fun b hb => by
    obtain ⟨o, e, _⟩ := T.obj _ _ st b hb
    have lt := Heap.lt_size e
    refine ⟨⟨?_, (ff b hb).2⟩, by rw [sz3]; exact Nat.lt_succ_of_lt lt⟩
    rw [upd_ne fun z => ?_]
    · exact (ff b hb).1
    · rw [z, eD] at lt
      exact Nat.lt_irrefl _ lt
  have st3 : tn 0 s3.heap := T.keep _ _ _ st fun b _ o e => old b o e
  have I4 := block_start I3 bo nd f3
  obtain ⟨cl, ecl⟩ : ∃ cl, cl = cellsFrom (s3.heap.objs.size + 1) scope.names (cloFrom X.env.cells scope.names []) := ⟨_, rfl⟩
  obtain ⟨H3, eH3⟩ : ∃ G, G = upd H2 D (.lst []) := ⟨_, rfl⟩
  rw [← ecl, ← eH3] at I4
  rw [← eH3] at I3 f3 w0
  have pg := qg s3 H3 s3.heap.objs.size cl fp
  have pt := qt s3 H3 s3.heap.objs.size cl fp
  have pe := qe s3 H3 s3.heap.objs.size cl fp
  obtain ⟨ce, ece⟩ : ∃ e, e = compEnvC scope cl s3.heap.objs.size X.env := ⟨_, rfl⟩
  have ceL : ce.locals = s3.heap.objs.size := by rw [ece]; rfl
  have ceF : ce.frame = X.env.frame := by rw [ece]; rfl
  obtain ⟨s4, e4⟩ : ∃ t : Shared, t = { s3 with heap := pushCells (s3.heap.push { cls := .type "dict", data := .dict #[] }) scope.names } := ⟨_, rfl⟩
  have goal : codeAny (model X.prog X.w) X.A (.compStart (.ListComp elt [⟨tg, iter, ifs, 0⟩] scope pos) 0 (.ref it) (.ref D) ce) (lcEnd (model X.prog X.w) X.A X.xe u Z (.ref D) ce) s4 := by
    rw [← ece] at I4 pg pt pe
    rw [← e4] at I4
    have st4 : tn 0 s4.heap := T.keep _ _ _ st3 fun b _ o e => by
      rw [e4]
      exact pushCells_keeps _ _ _ _ (Heap.get?_push_of_some _ e)
    have fpn : ∀ b ∈ fp, H3 b = none := fun b hb => (f3 b hb).1.1
    have FB : ∀ {σ' : L2.St} {G : Hp} {t : Shared}, Inv (X.blk s3 H3 scope ce fp) [] σ' G t → (∀ b ∈ fp, G b = none) → ∀ b ∈ fp, FpOk (X.blk s3 H3 scope ce fp) [] G b := fun {σ' G t} J' n b hb =>
      ⟨n b hb, (J'.ok.exf b hb).1, J'.ok.exfs b hb, .inl hb, fun x c e => (J'.ok.exf b hb).2 x c e, fun p hp => absurd (show p ∈ ([] : List (Addr × Obj)) from hp) (by simp)⟩
    obtain ⟨wσ, eσ⟩ : ∃ τ, τ = wipe σ (own.map (·.2)) := ⟨_, rfl⟩
    -- what is raised
    have air : ∀ v t, XE (X.blk s3 H3 scope ce fp) (fun cls d _ G => W cls d σ G) v t → notedBy (model X.prog X.w) X.A ce (fun e t' => lcEnd (model X.prog X.w) X.A X.xe u Z (.ref D) ce (.error e) t') v t := fun v t x =>
      wpAny_mono (lc_air (u := u) (Q := Z) (acc := .ref D) I3 f3 ceL ceF k1 k2 tk x) (fun _ _ z => z) fun _ _ z => z.elim
    have pe2 := pe (fun v t => XE (X.blk s3 H3 scope ce fp) (fun cls d _ G => W cls d σ G) v t) fun v t ⟨a, B, sI, pn, σ', G, cls, d, e, J', r⟩ => ⟨a, B, sI, pn, σ', G, cls, d, e, inv_xe (e := fun _ _ => False) J', r⟩
    have loop : codeAny (model X.prog X.w) X.A (.compLoop (.ListComp elt [⟨tg, iter, ifs, 0⟩] scope pos) 0 (.ref it) (.ref D) ce) (lcEnd (model X.prog X.w) X.A X.xe u Z (.ref D) ce) s4 := by
      refine compLoop_any (fun n t => ∃ i G, Inv (X.blk s3 H3 scope ce fp) [] wσ G t ∧ tn i t.heap ∧ (∀ b ∈ fp, G b = none) ∧ Wt i n G) ?_ m0 ⟨0, H3, by rw [eσ]; exact I4, st4, fpn, w0⟩
      rintro n t ⟨i, G, J1, t1, n1, v1⟩
      rcases turn i n G v1 with ⟨sp, qq⟩ | ⟨gg, Nx, hNx, step⟩
      · refine thnF (T.done (X.blk s3 H3 scope ce fp) rfl rfl rfl k0 i [] t _ G (fun _ _ => False) J1 (FB J1 n1) t1 sp) ?_
        rintro _ t2 ⟨rfl, J2⟩
        have nC : G s3.heap.objs.size = none := by
          have z : G ce.locals = none := J2.free
          rwa [ceL] at z
        obtain ⟨m, hn, _⟩ := J2.loc
        have hn : t2.heap.Ns ce.locals m := hn
        have J3 : Inv X pins σ G t2 := I3.call' (ch := fp) J2.os J2.base J2.hok J2.bare fun b hb => by
          obtain ⟨_, y1, _, y2, y3, y4⟩ := (f3 b hb).1
          exact ⟨y2, y1, y3, y4⟩
        have res := fin D ce.locals t2 m G J3 qq hn (by rw [ceL]; exact I3.fpOk (Nat.le_refl _) nC)
        exact res
      · refine thnF (T.item (X.blk s3 H3 scope ce fp) rfl rfl rfl k0 i [] t _ G (fun _ _ => False) J1 (FB J1 n1) t1 gg) ?_
        rintro _ t2 ⟨y, rfl, g2⟩
        refine thnF g2 ?_
        rintro _ t3 ⟨x, G3, J3, r3, y3, tn3, n3⟩
        have J3p := J3.pinned (FB J3 n3) (T.obj _ _ tn3)
        rw [← eσ] at step
        refine thnF (pg.run _ t3 wσ G3 x y _ J3p r3 (step x G3 y3)) ?_
        rintro _ t4 ⟨σ4, G4, J4, w4, q4⟩
        refine thnF (pt.run _ t4 σ4 G4 _ J4 q4) ?_
        rintro b t5 ⟨G5, J5, q5⟩
        have back : ∀ {t' : Shared} {G' : Hp}, Inv (X.blk s3 H3 scope ce fp) ([] ++ pinsAt fp t3.heap) σ4 G' t' → Nx G' → ∃ m, m < n ∧ ∃ i G, Inv (X.blk s3 H3 scope ce fp) [] wσ G t' ∧ tn i t'.heap ∧ (∀ b ∈ fp, G b = none) ∧ Wt i m G := by
          intro t' G' J' nx
          obtain ⟨m', lt, w'⟩ := hNx G' nx
          have keepP : ∀ b ∈ fp, ∀ o, t3.heap.get? b = some o → t'.heap.get? b = some o ∧ G' b = none := fun b hb o e => by
            obtain ⟨z1, z2, _⟩ := J'.pin (b, o) (by simp [mem_pinsAt hb e])
            exact ⟨z1, z2⟩
          have len4 : wσ.length = σ4.length := by
            rw [← w4, wipe_length]
          refine ⟨m', lt, i + 1, G', (J'.unpinned (pins := [])).weak len4 (fun j v e => ?_), T.keep _ _ _ tn3 fun b hb o e => (keepP b hb o e).1, fun b hb => ?_, w'⟩
          · rw [← w4] at e
            exact (wipe_some e).1
          · obtain ⟨o, e, _⟩ := T.obj _ _ tn3 b hb
            exact (keepP b hb o e).2
        cases b with
        | false =>
          simp only [Bool.false_eq_true, if_false] at q5 ⊢
          exact back J5 q5
        | true =>
          simp only [if_true] at q5 ⊢
          refine wpAny_mono (pe2.run _ t5 σ4 G5 _ (inv_xe J5) q5) ?_ air
          rintro z t6 ⟨yv, G6, J6, r6, acc, dD, lt, nx⟩
          have J6 := inv_xe (e := fun _ _ => False) J6
          exact app_ok (X := X.blk s3 H3 scope ce fp) J6 dD lt r6 fun t7 J7 => back J7 nx
    exact codeAny_compStart_list loop (T.self X.A 0 _ _ _ st4 loop)
  rw [← e3]
  rw [ece, ecl, e4, eD] at goal
  exact goal
section
variable {c : Cfg} {Φ : Phi} {n : Nat} {xr : XR} {X : Cx} {W : WX}
/-- the turns of a comprehension whose element may raise -/
theorem comp_goE {Wb : WX} {EE : EK} {own : List Nat} {tg : Tg} {cs : List Te} {e : Ex} {tt : TT} {K : PySem.W.Frag} (htt : ∀ σ H Q, rTA Φ xr WF K cs σ H Q → tt σ H Q) {gd : Gd} {xs : List PyData} {ρ1 : VE} {S1 : Sto} {σ : L2.St} {H1 : Hp} {G : Gh} {J : It} {Q : VK} {P : List PyData → VE → Sto → Prop} {D : Addr}
    (ht : tgIn tg own = true) (R1 : Rel K G ρ1 S1 σ H1) (src : Src K J xs (fun H2 => Le H1 H2 ∧ gdH K H2 gd)) (hD : H1 D = none) (w : compW own tg (wpTAnd Φ noE cs) (wpE Φ EE e) gd xs [] (wipeV ρ1 own) S1 P)
    (hx : ∀ x ρ' S' σ' cls od H', EE x ρ' S' → Rel K (regh (wipeV ρ1 own) (wipe σ own) S1 H1) (wipeV ρ' own) S' (wipe σ own) H' → xr x cls od H' → Le H1 H' → Wb cls od σ' H')
    (fin : ∀ ys vs ρ S H, P ys ρ S → Rel K (regh (wipeV ρ1 own) (wipe σ own) S1 H1) ρ S (wipe σ own) H → Out (regh (wipeV ρ1 own) (wipe σ own) S1 H1) ρ S (wipe σ own) D → H D = some (.lst vs) → Reps K H ys vs → Le H1 H → Q (.ref D) H) :
    ∃ Wt : Nat → Nat → Hp → Prop, (∃ m, Wt 0 m (upd H1 D (.lst []))) ∧ ∀ i m H, Wt i m H →
      (J.stop i H ∧ Q (.ref D) H) ∨ (J.go i H ∧ ∃ Nx : Hp → Prop, (∀ H', Nx H' → ∃ m', m' < m ∧ Wt (i + 1) m' H') ∧ ∀ x H', J.yld i H x H' → gTg K tg x (wipe σ own) H' fun σ2 H2 => wipe σ2 own = wipe σ own ∧ tt σ2 H2 fun b H3 =>
        if b = true then rE Φ xr Wb K e σ2 H3 fun y H4 => ∃ acc, H4 D = some (.lst acc) ∧ acc.length < sizeLine ∧ Nx (upd H4 D (.lst (acc ++ [y]))) else Nx H3) := by
  have Rw := R1.wipe own
  have oD : Out (regh (wipeV ρ1 own) (wipe σ own) S1 H1) (wipeV ρ1 own) S1 (wipe σ own) D := by
    have q := Rw.outNew hD
    refine ⟨?_, q.sto, q.own⟩
    rw [regh_of q.own]
    exact hD
  generalize hG : regh (wipeV ρ1 own) (wipe σ own) S1 H1 = G1 at hx fin oD
  have RG : Rel K G1 (wipeV ρ1 own) S1 (wipe σ own) H1 := by rw [← hG]; exact Rw.reg
  refine ⟨fun i m H => m = xs.length - i ∧ i ≤ xs.length ∧ ∃ ρ S acc vs, Rel K G1 ρ S (wipe σ own) H ∧ Out G1 ρ S (wipe σ own) D ∧ H D = some (.lst vs) ∧ Reps K H acc vs ∧ Le H1 H ∧ compW own tg (wpTAnd Φ noE cs) (wpE Φ EE e) gd (xs.drop i) acc ρ S P,
    ⟨xs.length, rfl, Nat.zero_le _, _, S1, [], [], RG.ext (Same.upd hD), oD, upd_same, Reps.nil, Le.new hD, w⟩, ?_⟩
  rintro i m H ⟨rfl, hi, ρ, S, acc, vs, R, o, hd, rr, le, w⟩
  have ok : ∀ {gd : Gd}, Gd.ok S gd → gdH K H gd := fun {gd} h => by
    cases gd with
    | none => trivial
    | some p => exact R.sto p.1 _ h
  by_cases hlt : i < xs.length
  · obtain ⟨x, ex, dx⟩ := drop_cons hlt
    rw [dx] at w
    obtain ⟨wg, wl, w⟩ := w
    refine .inr ⟨src.goes i H hlt ⟨le, ok wg⟩, fun H' => ∃ ρ S acc vs, Rel K G1 ρ S (wipe σ own) H' ∧ Out G1 ρ S (wipe σ own) D ∧ H' D = some (.lst vs) ∧ Reps K H' acc vs ∧ Le H1 H' ∧ compW own tg (wpTAnd Φ noE cs) (wpE Φ EE e) gd (xs.drop (i + 1)) acc ρ S P,
      fun H' h => ⟨xs.length - (i + 1), by omega, rfl, hlt, h⟩, fun u H' y => ?_⟩
    obtain ⟨sm, d, ed, rv⟩ : Same H H' ∧ ∃ d, xs[i]? = some d ∧ Rep K H' d u := by
      obtain ⟨z1, z2⟩ := src.yields i H u H' x ex ⟨le, ok wg⟩ y
      exact ⟨z1, x, ex, z2⟩
    rw [ex] at ed
    cases ed
    have R' := R.ext sm
    have hd' := sm _ _ hd
    have le' := le.trans (Le.of_same sm)
    refine tg_sound (G := regh ρ (wipe σ own) S H') R'.reg rv w fun ρ2 σ2 R2 w2 hw => ?_
    have e2 : wipe σ2 own = wipe σ own := by
      rw [hw own ht]
      have : ∀ (ws us : List Nat) (τ : L2.St), (∀ k ∈ us, k ∈ ws) → wipe (wipe τ us) ws = wipe τ ws := by
        intro ws us τ
        induction us with
        | nil => intro _; rfl
        | cons k us ih =>
          intro h
          show wipe ((wipe τ us).set k none) ws = _
          rw [wipe_set (h k List.mem_cons_self), ih fun j hj => h j (List.mem_cons_of_mem _ hj)]
      exact this own own σ fun _ h => h
    refine ⟨e2, htt _ _ _ ⟨_, ρ2, S, noE, _, R2, w2, fun b ρ3 S3 b' H3 w3 R3 eb l3 => ?_, fun _ _ _ _ _ _ z => z.elim⟩⟩
    have eb : b = b' := eb
    subst eb
    have again : ∀ {ρ4 : VE} {S4 : Sto} {H4 : Hp} {acc' : List PyData} {vs' : List V}, Rel K G1 ρ4 S4 σ2 H4 → Out G1 ρ4 S4 σ2 D → H4 D = some (.lst vs') → Reps K H4 acc' vs' → Le H1 H4 → compW own tg (wpTAnd Φ noE cs) (wpE Φ EE e) gd (xs.drop (i + 1)) acc' (wipeV ρ4 own) S4 P →
        ∃ ρ S acc vs, Rel K G1 ρ S (wipe σ own) H4 ∧ Out G1 ρ S (wipe σ own) D ∧ H4 D = some (.lst vs) ∧ Reps K H4 acc vs ∧ Le H1 H4 ∧ compW own tg (wpTAnd Φ noE cs) (wpE Φ EE e) gd (xs.drop (i + 1)) acc ρ S P := fun {ρ4 S4 H4 acc' vs'} R4 o4 h4 r4 l4 w4 => by
      have q1 := R4.wipe own
      have q2 := o4.wipe own
      rw [e2] at q1 q2
      exact ⟨_, _, _, _, q1, q2, h4, r4, l4, w4⟩
    cases b with
    | false =>
      dsimp only
      rw [if_neg Bool.false_ne_true] at w3 ⊢
      obtain ⟨o3, h3⟩ := R'.outBack R3 hd' o
      exact again (R'.back R3) o3 h3 (Reps.le ((Le.of_same sm).trans l3) _ rr) (le'.trans l3) w3
    | true =>
      dsimp only
      rw [if_pos rfl] at w3 ⊢
      refine ⟨_, ρ3, S3, EE, _, R3, w3, fun v ρ4 S4 y H4 w4 R4 rv4 l4 => ?_, fun x ρe Se cls od He he Re hr le3 => ?_⟩
      rotate_left
      · have q1 := (R'.back Re).wipe own
        rw [e2] at q1
        exact hx x ρe Se σ2 cls od He he q1 hr ((le'.trans l3).trans le3)
      obtain ⟨yd, rfl, w4⟩ := isD_of w4
      have rv4 : Rep K H4 yd y := rv4
      obtain ⟨o4, h4⟩ := R'.outBack R4 hd' o
      have rr4 : Reps K H4 acc vs := Reps.le (((Le.of_same sm).trans l3).trans l4) _ rr
      refine ⟨vs, h4, by rw [rr.length]; exact wl, ?_⟩
      have lm : Le H4 (upd H4 D (.lst (vs ++ [y]))) := Le.mut h4 trivial
      exact again ((R'.back R4).bump h4 trivial o4) o4 upd_same ((Reps.le lm _ rr4).append (es := [yd]) ⟨y, [], rfl, Rep.le lm _ rv4, rfl⟩) (((le'.trans l3).trans l4).trans lm) w4
  · have e : i = xs.length := by omega
    subst e
    rw [List.drop_length] at w
    obtain ⟨wg, w⟩ := w
    refine .inl ⟨src.stops H ⟨le, ok wg⟩, fin acc vs ρ S H w ?_ o hd rr le⟩
    exact R
/-- the block of a comprehension that lets its exceptions out -/
theorem CxOk.blkX {W2 : WX} {xe : Value → Shared → Prop} (o : CxOk c Φ n xr X W) (scope : Scope) (s : Shared) (H : Hp) (C : Addr) (cl : List (Str × Addr)) (fp : List Addr)
    (tk : Takes { X.blk s H scope (compEnvC scope cl C X.env) fp with xe := xe } W2) : CxOk (c.blk scope) Φ n xr { X.blk s H scope (compEnvC scope cl C X.env) fp with xe := xe } W2 := by
  have b := o.blk scope s H C cl fp
  exact ⟨b.N, b.nd, b.sc, b.fn, b.calm, b.room, b.gd, tk, b.sys, b.blt, b.cst, fun x h => by
    obtain ⟨f, fd, ps, F⟩ := o.fns x h
    exact ⟨f, fd, ps, F.mg, F.keep, F.binds, F.len, F.runs⟩, b.exs, b.err⟩
def swB (c : Cfg) (x : Str) (px : Pos) : Expr → Bool
  | .ListComp _ _ scope p => c.sc.names.lookup x == some .local && px.line == p.line && !(scope.names.any fun (n, k) => n == x && (k == .local || k == .cell))
  | _ => false
theorem snd_asgE {e : Expr} {x : Str} {i : Nat} {pos px : Pos} (o : StOk c Φ n xr X W) {own : List (Str × Nat)} {tg : Tg} {sk : Sk} {as : List Ex} {cs : List Te} {w : Ex} (hx : stoB c i x = true) (h : chkE c (.comp own tg sk as cs w) e = true) (hs : swB c x px e = true) :
    PS X (.Assign [.Name x px] e pos) (rS X.K xr W (wpS Φ (.asgE i own tg sk as cs w))) := by
  obtain ⟨h1, h2, h3⟩ := o.toCxOk.sto hx
  obtain ⟨elt, t, it, ifs, scope, p, rfl, k⟩ := comp_parts o.toCxOk h
  have hN : X.N.Nodup := by rw [o.N]; exact o.nd
  have sw := sw_pure (X := X) (x := x) (px := px) (elt := elt) (t := t) (it := it) (ifs := ifs) (scope := scope) (p := p) (l := pos.line) o.kind
  have hs2 : (X.env.kindOf x == some .local && px.line == p.line && !(scope.names.any fun (n, k) => n == x && (k == .local || k == .cell))) = true := by
    unfold Env.kindOf
    rw [o.sc]
    exact hs
  rw [hs2] at sw
  have lx : X.env.scope.names.lookup x = some .local := by
    simp only [Bool.and_eq_true, beq_iff_eq] at hs2
    exact hs2.1.1
  obtain ⟨tt, q1, q2⟩ := compTT o.toCxOk k
  have hb : BlkOk X.N X.env.scope scope own := by
    rw [o.N, o.sc]
    exact blkOk_by k.blk
  refine ⟨fun pins s σ H D I ⟨G, ρ, S, V, R, wp, en⟩ => ?_⟩
  rw [exec_Assign_Name_used _ _ _ _ sw]
  apply wpAny_bind
  apply wpAny_standAt
  apply wpAny_bind
  have main := lc_raises (Q := fun v H' => gName i v σ H' fun σ' H2 => D.nx σ' H2) (te := rE Φ xr (fun cls d _ H' => W cls d σ H') X.K w) (g := gTg X.K tg) (tt := tt) (u := assign (.Name x px) X.env) (Z := fun s' => SP X pins D .next s') (pos := p) (pos' := firstIterPos [⟨t, it, ifs, 0⟩] p)
    o.calm o.stk o.frm o.tk hN I k.src hb (fun s H C cl fp => pg_tg (o.toCxOk.blk scope s H C cl fp) k.tgt) q1 (fun s H C cl fp xe tk => k.elt _ _ (o.toCxOk.blkX scope s H C cl fp tk)) (nset_it k.set) ?_ ?_
  · refine wpAny_bind (thn main fun _ s' q => ?_)
    exact wpAny_pure (wpAny_pure q)
  · refine ⟨G, ρ, S, V.ex, _, R, wp, fun xs gd ρ1 S1 H1 J p R1 src l1 E0 hE => ?_, en.exf0⟩
    refine comp_goE (Wb := fun cls d _ H' => W cls d σ H') (Q := fun v H' => gName i v σ H' fun σ' H2 => D.nx σ' H2) q2 k.tin R1 src hE p (fun y ρ' S' σ' cls od H' he Re hr le => ?_) fun ys vs ρ2 S2 H2 q R2 oD hd rr l2 => ?_
    · exact en.ex y _ S' σ cls od H' he (R1.unwipe Re le) hr (l1.trans le)
    · exact en.nx _ _ _ _ q ((R1.unwipe R2 l2).setLo (l := .ol ys) ⟨E0, rfl, ⟨vs, hd, rr⟩, oD.back R1 hE⟩) (l1.trans l2)
  · intro E0 C s' m H' I' q hn fk
    refine wpAny_assign_Name (store_ok2 (v := L2.V.ref E0) I' hN h1 (.inl lx) rfl (fun s2 I2 ⟨a, sb, ha⟩ => ?_) (.inr lx))
    obtain ⟨f0, f1, _, f3, f4, f5⟩ := fk
    have ne : C ≠ a := fun z => by
      rcases ha with q | q
      · exact f1 (z.trans q)
      · exact f4 x a q z.symm
    exact ⟨m, hn.sameBut sb ne, fun h3 sb3 => ⟨_, H', I2.turned (t' := s2.toks) (fun b o hb e => (sb3.2 b hb).trans e) f0 f1 f3 f4 f5, q⟩⟩
end
end Lk
/-! D12: loops, changes in place; all statements. -/
namespace Lk
open PySem PySem.Spec PyProof.Rows L2
open AutoSeq1 (wpAny_loadPart')
section
variable {c : Cfg} {Φ : Phi} {n : Nat} {xr : XR} {X : Cx} {W : WX} {e it : Expr} {body els : List Stmt} {bs as' : List Sm} {pos : Pos}
/-! ### if, for, while -/
abbrev rSs (Φ : Phi) (xr : XR) (W : WX) (K : PySem.W.Frag) (b : List Sm) : TS := rS K xr W (wpSs Φ b)
theorem snd_if {t : Te} {a b : List Sm} (hc : PT X e (rT Φ xr W X.K t)) (ha : PSs X body (rSs Φ xr W X.K a)) (hb : PSs X els (rSs Φ xr W X.K b)) : PS X (.If e body els pos) (rS X.K xr W (wpS Φ (.ifs t a b))) :=
  psI (ps_if hc ha hb) fun D σ H ⟨G, ρ, S, V, R, w, en⟩ => ⟨G, ρ, S, V.ex, _, R, w, fun k ρ1 S1 k' H1 p R1 ek l1 => by
    have ek : k = k' := ek
    subst ek
    cases k with
    | true =>
      rw [if_pos rfl] at p
      exact ⟨G, ρ1, S1, V, R1, p, en.le l1⟩
    | false =>
      rw [if_neg Bool.false_ne_true] at p
      exact ⟨G, ρ1, S1, V, R1, p, en.le l1⟩, en.exf0⟩
theorem snd_for {tg : Tg} {sk : Sk} {as : List Ex} {b : List Sm} {t : Expr} (o : StOk c Φ n xr X W) (hs : PI X t it (rSrc Φ xr W X.K sk as)) (ht : tgB c tg t = true) (hn : nset it = true) (hb : PSs X body (rSs Φ xr W X.K b)) :
    PS X (.For t it body [] pos) (rS X.K xr W (wpS Φ (.forS tg sk as b))) := by
  refine psI (ps_for o.po o.calm hs (pg_tg o.toCxOk ht) hb (nset_it hn)) fun D σ H ⟨G, ρ, S, V, R, w, en⟩ => ?_
  refine ⟨G, ρ, S, V.ex, _, R, w, fun xs gd ρ1 S1 H1 J p R1 src l1 => ?_, en.exf0⟩
  refine ⟨fun i m σ H => m = xs.length - i ∧ i ≤ xs.length ∧ ∃ ρ S, Rel X.K G ρ S σ H ∧ Le H1 H ∧ forW tg (wpSs Φ b) gd (xs.drop i) ρ S V, ⟨xs.length, rfl, Nat.zero_le _, ρ1, S1, R1, Le.refl H1, p⟩, ?_⟩
  rintro i m σ2 H2 ⟨rfl, hi, ρ2, S2, R2, l2, w2⟩
  have ok : ∀ {gd : Gd}, Gd.ok S2 gd → gdH X.K H2 gd := fun {gd} h => by
    cases gd with
    | none => trivial
    | some p => exact R2.sto p.1 _ h
  by_cases hlt : i < xs.length
  · obtain ⟨x, ex, dx⟩ := drop_cons hlt
    rw [dx] at w2
    obtain ⟨wg, w2⟩ := w2
    refine .inr ⟨src.goes i H2 hlt ⟨l2, ok wg⟩, fun σ' H' => ∃ ρ S, Rel X.K G ρ S σ' H' ∧ Le H1 H' ∧ forW tg (wpSs Φ b) gd (xs.drop (i + 1)) ρ S V, fun σ' H' h => ⟨xs.length - (i + 1), by omega, rfl, hlt, h⟩, fun u H' y => ?_⟩
    obtain ⟨sm, rv⟩ := src.yields i H2 u H' x ex ⟨l2, ok wg⟩ y
    have l3 := l2.trans (Le.of_same sm)
    refine tg_sound (R2.ext sm) rv w2 fun ρ3 σ3 R3 w3 _ => ?_
    refine ⟨G, ρ3, S2, _, R3, w3, ⟨fun ρ S σ H a b c => ⟨ρ, S, b, l3.trans c, a⟩, fun v S u H a b c d => en.rt v S u H a b c ((l1.trans l3).trans d), fun ρ S σ H a b c => en.nx ρ S σ H a b ((l1.trans l3).trans c), fun ρ S σ H a b c => ⟨ρ, S, b, l3.trans c, a⟩,
      fun x ρ S σ cls od H a b c d => en.ex x ρ S σ cls od H a b c ((l1.trans l3).trans d)⟩⟩
  · have e : i = xs.length := by omega
    subst e
    rw [List.drop_length] at w2
    obtain ⟨wg, w2⟩ := w2
    exact .inl ⟨src.stops H2 ⟨l2, ok wg⟩, en.nx ρ2 S2 σ2 H2 w2 R2 (l1.trans l2)⟩
theorem snd_while {t : Te} {b : List Sm} (o : StOk c Φ n xr X W) (hc : PT X e (rT Φ xr W X.K t)) (hb : PSs X body (rSs Φ xr W X.K b)) : PS X (.While e body [] pos) (rS X.K xr W (wpS Φ (.whileS t b))) := by
  refine psI (ps_while o.po hc hb) fun D σ H ⟨G, ρ, S, V, R, w, en⟩ => ?_
  obtain ⟨I, ⟨m, hm⟩, turn⟩ := w
  refine ⟨fun m σ' H' => ∃ ρ S, Rel X.K G ρ S σ' H' ∧ Le H H' ∧ I m ρ S, ⟨m, ρ, S, R, Le.refl H, hm⟩, ?_⟩
  rintro m σ1 H1 ⟨ρ1, S1, R1, l1, i1⟩
  refine ⟨G, ρ1, S1, V.ex, _, R1, turn m ρ1 S1 i1, fun k ρ2 S2 k' H2 p R2 ek l2 => ?_, en.exf l1⟩
  have ek : k = k' := ek
  subst ek
  have l3 := l1.trans l2
  cases k with
  | true =>
    dsimp only
    rw [if_pos rfl] at p ⊢
    refine ⟨fun σ' H' => ∃ m', m' < m ∧ ∃ ρ S, Rel X.K G ρ S σ' H' ∧ Le H H' ∧ I m' ρ S, fun σ' H' ⟨m', a, b⟩ => ⟨m', a, b⟩, G, ρ2, S2, _, R2, p, ?_⟩
    exact ⟨fun ρ S σ H a b c => by obtain ⟨m', h1, h2⟩ := a; exact ⟨m', h1, ρ, S, b, l3.trans c, h2⟩, fun v S u H a b c d => en.rt v S u H a b c (l3.trans d), fun ρ S σ H a b c => en.nx ρ S σ H a b (l3.trans c),
      fun ρ S σ H a b c => by obtain ⟨m', h1, h2⟩ := a; exact ⟨m', h1, ρ, S, b, l3.trans c, h2⟩, fun x ρ S σ cls od H a b c d => en.ex x ρ S σ cls od H a b c (l3.trans d)⟩
  | false =>
    dsimp only
    rw [if_neg Bool.false_ne_true] at p ⊢
    exact en.nx _ _ _ _ p R2 l3
/-! ### x op= e -/
theorem opAug (op : Bop) : PIp X (bopA op) (fun x y H Q => ∃ (i : Int) (d : PyData), x = .int i ∧ Rep X.K H d y ∧ augP op i d fun r => Q (.int r) H) := by
  intro pins s σ H x y v u Q I rx ry h
  obtain ⟨i, d, rfl, rd, h⟩ := h
  cases op <;> cases d <;> try exact (show False from h).elim
  · rename_i j
    exact iop_add pins s σ H _ y v u Q I rx ry ⟨i, j, rfl, rd, h⟩
  · rename_i j
    exact iop_sub pins s σ H _ y v u Q I rx ry ⟨i, j, rfl, rd, h⟩
  · rename_i j
    obtain ⟨t, rfl⟩ := rx
    have ey : y = .int j := rd
    subst ey
    obtain ⟨t', rfl⟩ := ry
    exact imul_int ⟨.int (i * j), H, I.tok _, ⟨_, rfl⟩, h.2⟩ (h.1.elim CMulW.ok CMul.ok)
variable {i : Nat} {x : Str} {px : Pos} {a b d : Ex}
theorem augP_mono {op : Bop} {i : Int} {d : PyData} {Q Q' : Int → Prop} (h : ∀ r, Q r → Q' r) (z : augP op i d Q) : augP op i d Q' := by
  cases op <;> cases d <;> first | exact (show False from z).elim | exact h _ z | exact ⟨z.1, h _ z.2⟩
theorem snd_aug {op : Bop} (o : StOk c Φ n xr X W) (hx : stoB c i x = true) (h : chkE c a e = true) : PS X (.AugAssign (.Name x px) (bopA op) e pos) (rS X.K xr W (wpS Φ (.aug i op a))) := by
  obtain ⟨h1, h2, h3⟩ := o.toCxOk.sto hx
  refine psI (ps_aug (by rw [o.N]; exact o.nd) h1 h2 (sndE a o.toCxOk h) (opAug op) h3) fun D σ H ⟨G, ρ, S, V, R, w, en⟩ => ?_
  have w : intAt ρ i fun x => wpE Φ V.ex a ρ S fun v ρ1 S1 => isD v fun y => augP op x y fun r => V.nx (ρ1.set i (some (.v (.d (.int r))))) S1 := w
  unfold intAt at w
  split at w
  · rename_i k e
    obtain ⟨v, e1, rv⟩ := R.val i _ e
    have rv : v = .int k := rv
    subst rv
    refine ⟨.int k, e1, G, ρ, S, V.ex, _, R, w, fun v ρ1 S1 u H1 p R1 rv l1 => ?_, en.exf0⟩
    obtain ⟨y, rfl, p⟩ := isD_of p
    exact ⟨k, y, rfl, rv, augP_mono (fun r q => en.nx _ _ _ _ q (R1.setVal (p := .d (.int r)) rfl) l1) p⟩
  · exact w.elim
/-! ### x.append(e), x.extend(e) -/
theorem own_list {K : PySem.W.Frag} {G : Gh} {ρ : VE} {S : Sto} {σ : L2.St} {H : Hp} (R : Rel K G ρ S σ H) (h : isOl ρ i) : ∃ a vs, σ[i]? = some (some (V.ref a)) ∧ H a = some (.lst vs) := by
  obtain ⟨xs, e⟩ := h
  obtain ⟨a, e1, ⟨vs, ha, _⟩, _⟩ := R.own i _ e (fun _ z => nomatch z)
  exact ⟨a, vs, e1, ha⟩
theorem grow_of {ρ : VE} {ys : List PyData} {Q : VE → Prop} (h : grow ρ i ys Q) : ∃ xs, ρ[i]? = some (some (.ol xs)) ∧ xs.length + ys.length ≤ sizeLine ∧ Q (ρ.set i (some (.ol (xs ++ ys)))) := by
  unfold grow at h
  split at h
  · exact ⟨_, by assumption, h⟩
  · exact h.elim
theorem Rel.grown {K : PySem.W.Frag} {G : Gh} {ρ : VE} {S : Sto} {σ : L2.St} {H : Hp} {xs ys : List PyData} {a : Addr} {vs us : List V} (R : Rel K G ρ S σ H) (e : ρ[i]? = some (some (.ol xs))) (ea : σ[i]? = some (some (V.ref a))) (ha : H a = some (.lst vs))
    (rx : Reps K H xs vs) (ry : Reps K H ys us) : Rel K G (ρ.set i (some (.ol (xs ++ ys)))) S σ (upd H a (.lst (vs ++ us))) ∧ Le H (upd H a (.lst (vs ++ us))) := by
  have le : Le H (upd H a (.lst (vs ++ us))) := Le.mut ha trivial
  exact ⟨R.change e (fun _ z => nomatch z) (fun _ z => nomatch z) ea ⟨_, upd_same, (Reps.le le _ rx).append (Reps.le le _ ry)⟩, le⟩
theorem own_at {K : PySem.W.Frag} {G : Gh} {ρ : VE} {S : Sto} {σ : L2.St} {H : Hp} {xs : List PyData} {a : Addr} (R : Rel K G ρ S σ H) (e : ρ[i]? = some (some (.ol xs))) (ea : σ[i]? = some (some (V.ref a))) : ∃ vs, H a = some (.lst vs) ∧ Reps K H xs vs := by
  obtain ⟨a', e1, ⟨vs, ha, rr⟩, _⟩ := R.own i _ e (fun _ z => nomatch z)
  rw [ea] at e1; cases e1
  exact ⟨vs, ha, rr⟩
theorem few1 {e : Expr} {env : Env} {cpos : Pos} (h : nst e = true) : ((backTo cpos (starEach [e] env)).all (fun x => !x.1) && (backToKw cpos (keywordEach [] env)).all (fun x => x.1.isSome)
      && decide ([e].length + ([] : List Keyword).length + (if ([] : List Keyword).isEmpty then 0 else 1) < 30)) = true := by
  rw [star_cons h]
  rfl
variable {m : Str} {ap ep : Pos}
theorem snd_app (o : StOk c Φ n xr X W) (hx : slotB c i x = true) (hm : (m == ("append" : Str)) = true) (hl : (ap.endLine == pos.line) = true) (hn : nst e = true) (h : chkE c a e = true) :
    PS X (.Expr (.Call (.Attribute (.Name x px) m ap) [e] [] pos) ep) (rS X.K xr W (wpS Φ (.app i a))) := by
  obtain rfl := eq_of_beq hm
  obtain ⟨hN, hv, hd, hcd⟩ := o.toCxOk.vis hx
  have pv : PE X (.Name x px) (tVar i) := pe_var hN hv hd hcd
  have pa : PA X [e] (tCons (rE Φ xr W X.K a) tNil) := pa_cons (sndE a o.toCxOk h) pa_nil (star_cons hn)
  refine psI (ps_expr (pe_bm (r := rAppend) F.plainAttrs_list F.slot_list_append F.type_list_append mt_append pv pa rfl (few1 hn) hl (star_cons hn) rfl)) fun D σ H ⟨G, ρ, S, V, R, w, en⟩ => ?_
  have w : isOl ρ i ∧ wpE Φ V.ex a ρ S fun v ρ1 S1 => isD v fun x => grow ρ1 i [x] fun ρ2 => V.nx ρ2 S1 := w
  obtain ⟨l, vs0, e1, hl0⟩ := own_list R w.1
  refine ⟨.ref l, e1, .inl ⟨rfl, vs0, .inl (.inl hl0)⟩, G, ρ, S, V.ex, _, R, w.2, fun v ρ1 S1 u H1 p R1 rv l1 => ?_, en.exf0⟩
  obtain ⟨y, ev, p'⟩ := isD_of p
  subst ev
  have p := p'
  obtain ⟨xs, ex, hz, p⟩ := grow_of p
  obtain ⟨vs, ha, rr⟩ := own_at R1 ex e1
  obtain ⟨R2, l2⟩ := R1.grown ex e1 ha rr (ys := [y]) (us := [u]) ⟨u, [], rfl, rv, rfl⟩
  have hlen := rr.length
  have hz' : xs.length + 1 ≤ sizeLine := hz
  exact ⟨l, vs, u, rfl, rfl, ha, by omega, en.nx _ _ _ _ p R2 (l1.trans l2)⟩
theorem ext_tup (l : Addr) (items : Array Value) (k : Nat) (b : Addr) (items2 : Array Value) (k2 : Nat) (dd : Option Addr) (sl : Array (Option Value)) (hs0 : ¬(!items.isEmpty && Builtin.List.listTooLong (items.size + items2.size)) = true) (hs1 : items.size ≤ sizeLine) (hs2 : items.size + items2.size ≤ sizeLine + 1) :
    Meets (Builtin.«list.extend» ⟨[.ref l, .ref b], []⟩) (fun _ R s => s.heap.get? l = some { cls := .type "list", data := .seq items k } ∧ s.heap.get? b = some { cls := .type "tuple", dict := dd, data := .seq items2 k2, slots := sl } ∧
      R (.ok (.ret Value.none)) { s with heap := s.heap.update l (Obj.mapSeq fun x => x ++ items2), toks := s.toks }) :=
  .of_wp fun prog w A R s hw => by
    obtain ⟨hp, g, d, tk, os⟩ := s
    obtain ⟨hl, hb, hw⟩ := hw
    have f1 := AutoSeq1.idx_int
    have f2 := AutoSeq1.sub_tuple_tuple
    have f3 := AutoSeq1.sub_list_list
    have f4 := AutoSeq1.sub_tuple_list
    have f5 := AutoSeq1.sub_list_tuple
    have hz' : (items ++ items2).size ≤ sizeLine + 1 := by rw [Array.size_append]; exact hs2
    wp_walk using (wpAny_updateSeq hl rfl (hz := hs1) (_hz' := hz')), wpAny_loadPart' hl, wpAny_loadPart' hb
    exact ⟨_, rfl, hw⟩
def rExt (K : PySem.W.Frag) : V → List V → Hp → VK → Prop := fun x vs H Q => ∃ l b xs zs, x = .ref l ∧ vs = [.ref b] ∧ H l = some (.lst xs) ∧ (Rd H b (.lst zs) ∨ SqT K H b zs) ∧ xs.length + zs.length ≤ sizeLine ∧ Q .non (upd H l (.lst (xs ++ zs)))
theorem mt_ext : MtR X "list.extend" (rExt X.K) := by
  intro pins s σ H x vs v us Q I rx rv h
  obtain ⟨l, b, xs, zs, rfl, rfl, hH, hB, hz, q⟩ := h
  cases rx
  obtain ⟨u, rfl, ru⟩ := rv.one
  cases ru
  obtain ⟨z, its, k, r, hl, e⟩ := I.lstM hH
  have fin : ∀ {its2 : List Value}, Vals zs its2 → EP X pins σ Q .none { s with heap := s.heap.update l (Obj.mapSeq fun x => x ++ its2.toArray), toks := s.toks } := fun {its2} r2 =>
    ⟨.non, _, I.lset (its' := its ++ its2) hH e (by simp) (r.append r2) (by rw [List.length_append]; exact hz), rfl, q⟩
  have nl : ∀ {its2 : List Value}, Vals zs its2 → ¬ (!its.toArray.isEmpty && Builtin.List.listTooLong (its.toArray.size + its2.toArray.size)) = true := fun {its2} r2 => by
    rw [notLongL (by rw [List.size_toArray, List.size_toArray, ← hl, ← r2.length]; exact hz), Bool.and_false]
    exact Bool.false_ne_true
  rcases hB with hB | hB
  · obtain ⟨z2, its2, k2, r2, hl2, e2⟩ := lstR I hB
    exact call_meets F.slot_list_extend ⟨_, e, rfl⟩ F.entry_list_extend (F.args_list_extend_2 _ _) (AutoSeq1.list_extend_list_list_0 l its.toArray k b its2.toArray k2 (nl r2) (by rw [List.size_toArray]; omega) (by simp only [List.size_toArray]; omega)) ⟨e, e2, fin r2⟩
  · obtain ⟨its2, r2, ⟨⟨cls, dd, data, sl⟩, ho, hc, k2, hd⟩, hz2⟩ := I.tuple hB
    simp only at hc hd
    subst hc hd
    have hl2 := r2.length
    exact call_meets F.slot_list_extend ⟨_, e, rfl⟩ F.entry_list_extend (F.args_list_extend_2 _ _) (ext_tup l its.toArray k b its2.toArray k2 dd sl (nl r2) (by rw [List.size_toArray]; omega) (by simp only [List.size_toArray]; omega)) ⟨e, ho, fin r2⟩
theorem snd_ext (o : StOk c Φ n xr X W) (hx : slotB c i x = true) (hm : (m == ("extend" : Str)) = true) (hl : (ap.endLine == pos.line) = true) (hn : nst e = true) (h : chkE c a e = true) :
    PS X (.Expr (.Call (.Attribute (.Name x px) m ap) [e] [] pos) ep) (rS X.K xr W (wpS Φ (.ext i a))) := by
  obtain rfl := eq_of_beq hm
  obtain ⟨hN, hv, hd, hcd⟩ := o.toCxOk.vis hx
  have pv : PE X (.Name x px) (tVar i) := pe_var hN hv hd hcd
  have pa : PA X [e] (tCons (rX Φ xr W X.K a) tNil) := pa_cons (sndX o.toCxOk h (sndE a o.toCxOk h)) pa_nil (star_cons hn)
  refine psI (ps_expr (pe_bm (r := rExt X.K) F.plainAttrs_list F.slot_list_extend F.type_list_extend mt_ext pv pa rfl (few1 hn) hl (star_cons hn) rfl)) fun D σ H ⟨G, ρ, S, V, R, w, en⟩ => ?_
  have w : isOl ρ i ∧ wpX a (wpE Φ V.ex a) ρ S fun v ρ1 S1 => con ρ1 S1 v fun d => itemsP d fun ys => grow ρ1 i ys fun ρ2 => V.nx ρ2 S1 := w
  obtain ⟨l, vs0, e1, hl0⟩ := own_list R w.1
  refine ⟨.ref l, e1, .inl ⟨rfl, vs0, .inl (.inl hl0)⟩, G, ρ, S, V.ex, _, R, w.2, fun v ρ1 S1 u H1 p R1 rv l1 => ?_, en.exf0⟩
  obtain ⟨d, cd, p⟩ := con_sound R1 p rv
  have go : ∀ {ys : List PyData} {us : List L2.V} {b : Addr}, u = .ref b → (Rd H1 b (.lst us) ∨ SqT X.K H1 b us) → Reps X.K H1 ys us → (grow ρ1 i ys fun ρ2 => V.nx ρ2 S1) → rExt X.K (.ref l) [u] H1 (fun _ H2 => D.nx σ H2) := fun {ys us b} eu hb ry p => by
    obtain ⟨xs, ex, hz, p⟩ := grow_of p
    obtain ⟨vs, ha, rr⟩ := own_at R1 ex e1
    obtain ⟨R2, l2⟩ := R1.grown ex e1 ha rr ry
    have h1 := rr.length
    have h2 := ry.length
    exact ⟨l, b, vs, us, rfl, by rw [eu], ha, hb, by omega, en.nx _ _ _ _ p R2 (l1.trans l2)⟩
  cases d <;> try exact (show False from p).elim
  · obtain ⟨b, us, eu, hb, rr⟩ := cd
    exact go eu (.inl hb) rr p
  · obtain ⟨b, us, eu, hb, rr⟩ := cd
    exact go eu (.inr hb) rr p
/-! ### o[k] = e -/
theorem keyD_of {K : PySem.W.Frag} {H : Hp} {k : PyData} {u : V} (h : isKey k = true) (r : Rep K H k u) : ∃ q, keyD k = some q ∧ u = kV q := by
  cases k <;> first | exact ⟨_, rfl, r⟩ | cases h
theorem repK_put {K : PySem.W.Frag} {H : Hp} {k v : PyData} {q : Key} {u : V} (hk : keyD k = some q) (hv : Rep K H v u) : ∀ {kvs : List (PyData × PyData)} {ks : List (Key × V)}, RepK K H kvs ks → RepK K H (putD kvs k v) (putK ks q u) := by
  have any : ∀ {kvs : List (PyData × PyData)} {ks : List (Key × V)}, RepK K H kvs ks → (kvs.any fun p => decide (keyD p.1 = keyD k)) = (ks.any fun p => decide (p.1 = q)) := by
    intro kvs
    induction kvs with
    | nil => intro ks r; rw [show ks = [] from r]; rfl
    | cons p kvs ih =>
      intro ks r
      obtain ⟨q', v', s, rfl, e1, _, r'⟩ := r
      rw [List.any_cons, List.any_cons, ih r', e1, hk]
      congr 1
      simp
  have mp : ∀ {kvs : List (PyData × PyData)} {ks : List (Key × V)}, RepK K H kvs ks → RepK K H (kvs.map fun p => if keyD p.1 = keyD k then (p.1, v) else p) (ks.map fun p => if p.1 = q then (p.1, u) else p) := by
    intro kvs
    induction kvs with
    | nil => intro ks r; rw [show ks = [] from r]; rfl
    | cons p kvs ih =>
      intro ks r
      obtain ⟨q', v', s, rfl, e1, rv, r'⟩ := r
      rw [List.map_cons, List.map_cons]
      by_cases e : q' = q
      · rw [if_pos (by rw [e1, hk, e]), if_pos e]
        exact ⟨q', u, _, rfl, e1, hv, ih r'⟩
      · rw [if_neg (by rw [e1, hk]; intro z; exact e (Option.some.inj z)), if_neg e]
        exact ⟨q', v', _, rfl, e1, rv, ih r'⟩
  have app : ∀ {kvs : List (PyData × PyData)} {ks : List (Key × V)}, RepK K H kvs ks → RepK K H (kvs ++ [(k, v)]) (ks ++ [(q, u)]) := by
    intro kvs
    induction kvs with
    | nil => intro ks r; rw [show ks = [] from r]; exact ⟨q, u, [], rfl, hk, hv, rfl⟩
    | cons p kvs ih =>
      intro ks r
      obtain ⟨q', v', s, rfl, e1, rv, r'⟩ := r
      exact ⟨q', v', _, rfl, e1, rv, ih r'⟩
  intro kvs ks r
  unfold putD putK
  rw [any r]
  split
  · exact mp r
  · exact app r
theorem repK_len {K : PySem.W.Frag} {H : Hp} : ∀ {kvs : List (PyData × PyData)} {ks : List (Key × V)}, RepK K H kvs ks → ks.length = kvs.length
  | [], _, r => by rw [show _ = [] from r]; rfl
  | p :: kvs, _, ⟨q, v, s, e, _, _, r⟩ => by rw [e, List.length_cons, List.length_cons, repK_len r]
theorem setAt_of {xs : List PyData} {k x : PyData} {Q : List PyData → Prop} (h : setAt xs k x Q) : ∃ i j, k = .int i ∧ ixN xs.length i = some j ∧ Q (xs.set j x) := by
  cases k <;> try exact (show False from h).elim
  rename_i z
  have h' : (match L2.ixN xs.length z with
    | some j => Q (xs.set j x)
    | none => False) := h
  split at h'
  · exact ⟨z, _, rfl, by assumption, h'⟩
  · exact h'.elim
abbrev rSetB (K : PySem.W.Frag) : TSet := fun o i v H Q => rSetL o i v H Q ∨ rSetD o i v H Q ∨ rSetO K o i v H Q
theorem set_both (hk : ∃ o, X.K.lookup sysModules = some o) (hu : X.A.units + 10 < cLine) : PSet X (rSetB X.K) := by
  intro pins s σ H o i v ov iv u Q I ro ri rv h
  rcases h with h | h | h
  · exact set_list pins s σ H o i v ov iv u Q I ro ri rv h
  · exact set_dict (by omega) pins s σ H o i v ov iv u Q I ro ri rv h
  · exact set_odd hk hu pins s σ H o i v ov iv u Q I ro ri rv h
variable {e1 e2 : Expr} {sp : Pos}
theorem snd_set (o : StOk c Φ n xr X W) (hl : isLc e = false) (hs : nsl e2 = true) (ha : PE X e1 (rX Φ xr W X.K a)) (hb : PE X e2 (rE Φ xr W X.K b)) (hd : PE X e (rE Φ xr W X.K d)) : PS X (.Assign [.Subscript e1 e2 sp] e pos) (rS X.K xr W (wpS Φ (.setI a b d))) := by
  have hu : X.A.units + 10 < cLine := by have := o.room.units; omega
  have hsw : swapsWithSole [.Subscript e1 e2 sp] e pos.line X.env = pure false := by cases e <;> first | rfl | cases hl
  refine psI (ps_asg hd (pg_sub ha hb (set_both o.sys hu) fun _ => by cases e2 <;> first | rfl | cases hs) hsw (by cases e <;> rfl) rfl) fun D σ H ⟨G, ρ, S, V, R, w, en⟩ => ?_
  have w : wpE Φ V.ex d ρ S fun v ρ1 S1 => isD v fun x => wpX a (wpE Φ V.ex a) ρ1 S1 fun o ρ2 S2 => wpE Φ V.ex b ρ2 S2 fun k ρ3 S3 => isD k fun k => setW k x o ρ3 S3 V.nx := w
  refine ⟨G, ρ, S, V.ex, _, R, w, fun v ρ1 S1 u H1 p R1 rv l1 => ?_, en.exf0⟩
  obtain ⟨x, ev, p'⟩ := isD_of p
  subst ev
  have p := p'
  have rv : Rep X.K H1 x u := rv
  refine ⟨G, ρ1, S1, V.ex, _, R1, p, fun oa ρ2 S2 ou H2 p2 R2 ra l2 => ⟨G, ρ2, S2, V.ex, _, R2, p2, fun k' ρ3 S3 ku H3 p3 R3 rk l3 => ?_, en.exf (l1.trans l2)⟩, en.exf l1⟩
  obtain ⟨k, ek, p3'⟩ := isD_of p3
  subst ek
  have p3 := p3'
  clear p3'
  have rk : Rep X.K H3 k ku := rk
  have rv3 := Rep.le (l2.trans l3) x rv
  have le3 := (l1.trans l2).trans l3
  have ra3 : RpA X.K G ρ3 S3 σ H3 oa ou := RpA.le ra l3
  have onStore : ∀ {p : PV} {Q : Sto → Prop}, RepV X.K H3 p ou → setPV k x p S3 Q → (∀ S' H', Q S' → Rel X.K G ρ3 S' σ H' → Le H3 H' → D.nx σ H') → rSetB X.K ou ku u H3 (fun H4 => D.nx σ H4) := by
    intro p Q rp h fin
    cases p with
    | d z => exact (show False from h).elim
    | s z => exact (show False from h).elim
    | r q =>
      have eo : ou = .ref q := rp
      subst eo
      have h' : (match S3 q with
        | some (.lst xs) => setAt xs k x fun ys => Q (sput S3 q (.lst ys))
        | some (.dic kvs) => isKey k = true ∧ kvs.length < 1000000 ∧ Q (sput S3 q (.dic (putD kvs k x)))
        | none => False) := h
      split at h'
      · rename_i xs es
        obtain ⟨z, j, rfl, hj, h'⟩ := setAt_of h'
        obtain ⟨vs, hq, rr⟩ := R3.sto q _ es
        have le : Le H3 (upd H3 q (.lst (vs.set j u))) := Le.mut hq trivial
        have rk : ku = .int z := rk
        subst rk
        refine .inl ⟨q, vs, z, j, rfl, rfl, hq, by rw [rr.length]; exact hj, fin _ _ h' (R3.store es ⟨_, upd_same, Reps.set (Rep.le le _ rv3) j (Reps.le le _ rr)⟩) le⟩
      · rename_i kvs es
        obtain ⟨h1, h2, h'⟩ := h'
        obtain ⟨ks, hq, rr⟩ := R3.sto q _ es
        obtain ⟨kq, e1, rfl⟩ := keyD_of h1 rk
        have le : Le H3 (upd H3 q (.dK (putK ks kq u))) := Le.mut hq trivial
        have hz := repK_len rr
        have := sizeLine_eq
        exact .inr (.inl ⟨q, _, rfl, DPut.k hq (by omega), fin _ _ h' (R3.store es ⟨_, upd_same, RepK.le le _ (repK_put e1 rv3 rr)⟩) le⟩)
      · exact h'.elim
  cases oa with
  | now p =>
    exact onStore (show RepV X.K H3 p ou from ra3) (show setPV k x p S3 fun S' => V.nx ρ3 S' from p3) fun S' H' q R' l' => en.nx _ _ _ _ q R' (le3.trans l')
  | late i =>
    have ra3 : σ[i]? = some (some ou) := ra3
    have p3' : (match ρ3[i]? with
      | some (some (.v p)) => setPV k x p S3 fun S' => V.nx ρ3 S'
      | some (some (.ol xs)) => setAt xs k x fun ys => V.nx (ρ3.set i (some (.ol ys))) S3
      | some (some (.od kvs)) => (isKey k = true ∧ kvs.length < 1000000 ∧ V.nx (ρ3.set i (some (.od (putD kvs k x)))) S3) ∨ (oddB k kvs = true ∧ kvs.length < 1000000 ∧ V.nx (ρ3.set i (some (.v (.d (.dict (kvs ++ [(k, x)])))))) S3)
      | _ => False) := p3
    split at p3'
    · rename_i p ei
      obtain ⟨v, ev, rp⟩ := R3.val i p ei
      rw [ra3] at ev; cases ev
      exact onStore rp p3' fun S' H' q R' l' => en.nx _ _ _ _ q R' (le3.trans l')
    · rename_i xs ei
      obtain ⟨z, j, rfl, hj, p3'⟩ := setAt_of p3'
      obtain ⟨q, rfl, vs, hq, rr⟩ := own_cur R3 ei (fun _ z => nomatch z) ra3
      have le : Le H3 (upd H3 q (.lst (vs.set j u))) := Le.mut hq trivial
      have rk : ku = .int z := rk
      subst rk
      exact .inl ⟨q, vs, z, j, rfl, rfl, hq, by rw [rr.length]; exact hj, en.nx _ _ _ _ p3' (R3.change ei (fun _ z => nomatch z) (fun _ z => nomatch z) ra3 ⟨_, upd_same, Reps.set (Rep.le le _ rv3) j (Reps.le le _ rr)⟩) (le3.trans le)⟩
    · rename_i kvs ei
      obtain ⟨q, rfl, ks, hq, rr⟩ := own_cur R3 ei (fun _ z => nomatch z) ra3
      rcases p3' with ⟨h1, h2, p3'⟩ | ⟨h1, h2, p3'⟩
      rotate_left
      · exact .inr (.inr ⟨q, ks, kvs, k, x, rfl, hq, rr, rk, rv3, h1, h2, fun ob rp => en.nx _ _ _ _ p3' (R3.freeze ei (fun _ z => nomatch z) ra3 hq trivial rp) (le3.trans (Le.mut hq trivial))⟩)
      obtain ⟨kq, e1, rfl⟩ := keyD_of h1 rk
      have le : Le H3 (upd H3 q (.dK (putK ks kq u))) := Le.mut hq trivial
      have hz := repK_len rr
      have := sizeLine_eq
      exact .inr (.inl ⟨q, _, rfl, DPut.k hq (by omega), en.nx _ _ _ _ p3' (R3.change ei (fun _ z => nomatch z) (fun _ z => nomatch z) ra3 ⟨_, upd_same, RepK.le le _ (repK_put e1 rv3 rr)⟩) (le3.trans le)⟩)
    · exact p3'.elim
end
/-! ### all statements -/
def aopB (op : Bop) : Bool := match op with
  | .add => true
  | .sub => true
  | .mul => true
  | _ => false
def isRc : Rh → Bool
  | .comp _ _ _ _ _ _ => true
  | _ => false
def isCall : Expr → Bool
  | .Call (.Name _ _) (_ :: _) _ _ => true
  | _ => false
mutual
def chkS : Cfg → Sm → Stmt → Bool
  | c, .asg i r, s => match s with
    | .Assign [.Name x _] e _ => stoB c i x && (isRc r || !isLc e) && chkR c r e
    | _ => false
  | c, .par i j r r2, s => match s with
    | .Assign [.Tuple [.Name x px, .Name y py] _ _] (.Tuple [a, b] _ _) _ => (parB c i j x y px py a b || parC c i j x y px py a b) && chkR c r a && chkR c r2 b
    | _ => false
  | c, .unpack is w, s => match s with
    | .Assign [.Tuple ts _ _] e _ => stosB c is ts && !isLc e && !isTupE e && chkE c w e
    | _ => false
  | c, .asgE i own tg sk as cs w, s => match s with
    | .Assign [.Name x px] e _ => stoB c i x && chkE c (.comp own tg sk as cs w) e && swB c x px e
    | _ => false
  | c, .unpackL is w, s => match s with
    | .Assign [.Tuple ts _ _] e _ => stosB c is ts && !isTupE e && chkE c w e
    | _ => false
  | c, .ret w, s => match s with
    | .Return (some e) _ => chkE c w e
    | _ => false
  | _, .retN, s => match s with
    | .Return none _ => true
    | _ => false
  | c, .expr w, s => match s with
    | .Expr e _ => !isLc e && chkE c w e
    | _ => false
  | c, .ifs t a b, s => match s with
    | .If e body els _ => chkT c t e && chkSs c a body && chkSs c b els
    | _ => false
  | c, .forS tg sk as b, s => match s with
    | .For t it body [] _ => tgB c tg t && nset it && (match srcE c t sk it with
      | some es => chkAs c as es
      | none => false) && chkSs c b body
    | _ => false
  | c, .whileS t b, s => match s with
    | .While e body [] _ => chkT c t e && chkSs c b body
    | _ => false
  | c, .aug i op w, s => match s with
    | .AugAssign (.Name x _) o e _ => decide (o = bopA op) && stoB c i x && chkE c w e
    | _ => false
  | c, .app i w, s => match s with
    | .Expr (.Call (.Attribute (.Name x _) m ap) [e] [] p) _ => slotB c i x && m == ("append" : Str) && ap.endLine == p.line && nst e && chkE c w e
    | _ => false
  | c, .ext i w, s => match s with
    | .Expr (.Call (.Attribute (.Name x _) m ap) [e] [] p) _ => slotB c i x && m == ("extend" : Str) && ap.endLine == p.line && nst e && chkE c w e
    | _ => false
  | c, .setI a b w, s => match s with
    | .Assign [.Subscript x y _] e _ => !isLc e && nsl y && chkE c a x && chkE c b y && chkE c w e
    | _ => false
  | _, .brk, s => match s with
    | .Break _ => true
    | _ => false
  | _, .cont, s => match s with
    | .Continue _ => true
    | _ => false
  | _, .pass, s => match s with
    | .Pass _ => true
    | _ => false
  | _, .bad, _ => true
  | c, .raiseT C, s => match s with
    | .Raise (some (.Call (.Name x _) [.Constant (.str _) _ _] [] _)) none _ => x == C && gloB c x && c.exs.contains x && c.rai.contains x
    | _ => false
  | c, .raiseL C a, s => match s with
    | .Raise (some (.Call (.Name x _) [e] [] _)) none _ => x == C && gloB c x && c.exs.contains x && x == ("TooMany" : Str) && nst e && chkE c a e
    | _ => false
  | c, .tryS b hs, s => match s with
    | .Try body (h₀ :: hds) [] [] _ => hdsB c hs (h₀ :: hds) && chkSs c b body
    | _ => false
  | c, .clrD w, s => match s with
    | .Expr (.Call (.Attribute y m ap) [] [] p) _ => m == ("clear" : Str) && ap.endLine == p.line && isCall y && chkE c w y
    | _ => false
  | c, .clrE w, s => match s with
    | .Expr (.Call (.Attribute y m ap) [] [] p) _ => m == ("clear" : Str) && ap.endLine == p.line && isCall y && chkE c w y
    | _ => false
  | c, .appE a w, s => match s with
    | .Expr (.Call (.Attribute y m ap) [e] [] p) _ => m == ("append" : Str) && ap.endLine == p.line && (isCall y || isNm y) && nst e && chkE c a y && chkE c w e
    | _ => false
def chkSs : Cfg → List Sm → List Stmt → Bool
  | _, [], [] => true
  | c, a :: as, s :: ss => chkS c a s && chkSs c as ss
  | _, _, _ => false
end
theorem bnot {b : Bool} (h : (!b) = true) : b = false := by simpa using h
section
variable {c : Cfg} {Φ : Phi} {n : Nat} {xr : XR} {X : Cx} {W : WX} {y e : Expr} {a w : Ex} {m : Str} {ap ep pos : Pos}
theorem stoL_of {K : PySem.W.Frag} {G : Gh} {ρ : VE} {S : Sto} {σ : L2.St} {H : Hp} {v : PV} {u : V} {Q : Addr → List PyData → Prop} (R : Rel K G ρ S σ H) (r : RepV K H v u) (h : stoL v S Q) : ∃ l xs vs, v = .r l ∧ u = .ref l ∧ S l = some (.lst xs) ∧ H l = some (.lst vs) ∧ Reps K H xs vs ∧ Q l xs := by
  cases v with
  | d x => exact h.elim
  | s ns => exact h.elim
  | r l =>
    have eu : u = .ref l := r
    unfold stoL at h
    dsimp only at h
    cases q : S l with
    | none => rw [q] at h; exact h.elim
    | some o =>
      rw [q] at h
      cases o with
      | dic kvs => exact h.elim
      | lst xs =>
        obtain ⟨vs, e1, rr⟩ := R.sto l _ q
        exact ⟨l, xs, vs, rfl, eu, q, e1, rr, h⟩
theorem isCall_base {env : Env} (h : isCall y = true) : attributeBase y m env (eval y env) = eval y env := by
  unfold isCall at h
  split at h
  · rfl
  · cases h
theorem snd_bad {s : Stmt} : PS X s (rS X.K xr W (wpS Φ .bad)) := ⟨fun pins s σ H D I ⟨G, ρ, S, V, R, w, en⟩ => (show False from w).elim⟩
theorem snd_clrE (o : StOk c Φ n xr X W) (hm : (m == ("clear" : Str)) = true) (hl : (ap.endLine == pos.line) = true) (hc : isCall y = true) (h : chkE c w y = true) :
    PS X (.Expr (.Call (.Attribute y m ap) [] [] pos) ep) (rS X.K xr W (wpS Φ (.clrE w))) := by
  obtain rfl := eq_of_beq hm
  refine psI (ps_expr (pe_bm0 (r := rClear) F.plainAttrs_list F.slot_list_clear F.type_list_clear mt_clear (sndE w o.toCxOk h) (isCall_base hc) hl)) fun D σ H ⟨G, ρ, S, V, R, wp, en⟩ => ?_
  have wp : wpE Φ V.ex w ρ S fun v ρ1 S1 => stoL v S1 fun a _ => V.nx ρ1 (sput S1 a (.lst [])) := wp
  refine ⟨G, ρ, S, V.ex, _, R, wp, fun v ρ1 S1 u H1 p R1 rv l1 => ?_, en.exf0⟩
  obtain ⟨l, xs, vs, rfl, rfl, es, hl', rr, p⟩ := stoL_of R1 rv p
  have le : Le H1 (upd H1 l (.lst [])) := Le.mut hl' trivial
  exact ⟨.inl ⟨rfl, vs, .inl (.inl hl')⟩, l, vs, rfl, rfl, hl', en.nx _ _ _ _ p (R1.store es ⟨[], upd_same, rfl⟩) (l1.trans le)⟩
theorem stoD_of {K : PySem.W.Frag} {G : Gh} {ρ : VE} {S : Sto} {σ : L2.St} {H : Hp} {v : PV} {u : V} {Q : Addr → List (PyData × PyData) → Prop} (R : Rel K G ρ S σ H) (r : RepV K H v u) (h : stoD v S Q) : ∃ l kvs ks, v = .r l ∧ u = .ref l ∧ S l = some (.dic kvs) ∧ H l = some (.dK ks) ∧ Q l kvs := by
  cases v with
  | d x => exact h.elim
  | s ns => exact h.elim
  | r l =>
    have eu : u = .ref l := r
    unfold stoD at h
    dsimp only at h
    cases q : S l with
    | none => rw [q] at h; exact h.elim
    | some o =>
      rw [q] at h
      cases o with
      | lst xs => exact h.elim
      | dic kvs =>
        obtain ⟨ks, e1, rr⟩ := R.sto l _ q
        exact ⟨l, kvs, ks, rfl, eu, q, e1, h⟩
theorem snd_clrD (o : StOk c Φ n xr X W) (hm : (m == ("clear" : Str)) = true) (hl : (ap.endLine == pos.line) = true) (hc : isCall y = true) (h : chkE c w y = true) :
    PS X (.Expr (.Call (.Attribute y m ap) [] [] pos) ep) (rS X.K xr W (wpS Φ (.clrD w))) := by
  obtain rfl := eq_of_beq hm
  refine psI (ps_expr (pe_dclear (sndE w o.toCxOk h) (isCall_base hc) hl)) fun D σ H ⟨G, ρ, S, V, R, wp, en⟩ => ?_
  have wp : wpE Φ V.ex w ρ S fun v ρ1 S1 => stoD v S1 fun a _ => V.nx ρ1 (sput S1 a (.dic [])) := wp
  refine ⟨G, ρ, S, V.ex, _, R, wp, fun v ρ1 S1 u H1 p R1 rv l1 => ?_, en.exf0⟩
  obtain ⟨l, kvs, ks, rfl, rfl, es, hl', p⟩ := stoD_of R1 rv p
  have le : Le H1 (upd H1 l (.dK [])) := Le.mut hl' trivial
  exact ⟨.inr (.inr (.inl ⟨rfl, .inl ⟨ks, hl'⟩⟩)), l, ks, rfl, rfl, hl', en.nx _ _ _ _ p (R1.store es ⟨[], upd_same, rfl⟩) (l1.trans le)⟩
theorem either_base {env : Env} (h : (isCall y || isNm y) = true) : attributeBase y m env (eval y env) = eval y env := by
  rcases Bool.or_eq_true _ _ ▸ h with q | q
  · exact isCall_base q
  · exact isNm_base q
theorem snd_appE (o : StOk c Φ n xr X W) (hm : (m == ("append" : Str)) = true) (hl : (ap.endLine == pos.line) = true) (hc : (isCall y || isNm y) = true) (hn : nst e = true) (h : chkE c a y = true) (h2 : chkE c w e = true) :
    PS X (.Expr (.Call (.Attribute y m ap) [e] [] pos) ep) (rS X.K xr W (wpS Φ (.appE a w))) := by
  obtain rfl := eq_of_beq hm
  have pa : PA X [e] (tCons (rE Φ xr W X.K w) tNil) := pa_cons (sndE w o.toCxOk h2) pa_nil (star_cons hn)
  refine psI (ps_expr (pe_bm (r := rAppend) F.plainAttrs_list F.slot_list_append F.type_list_append mt_append (sndE a o.toCxOk h) pa (either_base hc) (few1 hn) hl (star_cons hn) rfl)) fun D σ H ⟨G, ρ, S, V, R, wp, en⟩ => ?_
  have wp : wpE Φ V.ex a ρ S fun v ρ1 S1 => stoL v S1 fun a _ => wpE Φ V.ex w ρ1 S1 fun u ρ2 S2 => isD u fun x => stoL (.r a) S2 fun _ xs => xs.length < sizeLine ∧ V.nx ρ2 (sput S2 a (.lst (xs ++ [x]))) := wp
  refine ⟨G, ρ, S, V.ex, _, R, wp, fun v ρ1 S1 u H1 p R1 rv l1 => ?_, en.exf0⟩
  obtain ⟨l, xs, vs, rfl, rfl, es, hl', rr, p⟩ := stoL_of R1 rv p
  refine ⟨.inl ⟨rfl, vs, .inl (.inl hl')⟩, G, ρ1, S1, V.ex, _, R1, p, fun v2 ρ2 S2 u2 H2 q R2 rv2 l2 => ?_, en.exf l1⟩
  obtain ⟨x, ev, q'⟩ := isD_of q
  subst ev
  obtain ⟨l', xs2, vs2, e1, e2, es2, hl2, rr2, hz, q⟩ := stoL_of (v := .r l) (u := .ref l) R2 rfl q'
  cases e1
  have le : Le H2 (upd H2 l (.lst (vs2 ++ [u2]))) := Le.mut hl2 trivial
  exact ⟨l, vs2, u2, rfl, rfl, hl2, by rw [rr2.length]; exact hz, en.nx _ _ _ _ q (R2.store es2 ⟨_, upd_same, (Reps.le le _ rr2).append ⟨u2, [], rfl, Rep.le le _ rv2, rfl⟩⟩) ((l1.trans l2).trans le)⟩
end
mutual
theorem sndS {Φ : Phi} {n : Nat} {xr : XR} : ∀ (a : Sm) {c : Cfg} {X : Cx} {W : WX} (o : StOk c Φ n xr X W) {s : Stmt}, chkS c a s = true → PS X s (rS X.K xr W (wpS Φ a))
  | .asg i r, c, _, _, o, s, h => by
    unfold chkS at h
    split at h
    · obtain ⟨h, h3⟩ := and_of h
      obtain ⟨h1, h2⟩ := and_of h
      cases r with
      | comp own tg sk as cs w => exact snd_asgLc o h1 h3
      | val a => exact snd_asg o h1 h3 (bnot (by simpa [isRc] using h2))
      | disp a => exact snd_asg o h1 h3 (bnot (by simpa [isRc] using h2))
      | edic => exact snd_asg o h1 h3 (bnot (by simpa [isRc] using h2))
      | take a => exact snd_asg o h1 h3 (bnot (by simpa [isRc] using h2))
      | dct a => exact snd_asg o h1 h3 (bnot (by simpa [isRc] using h2))
    · cases h
  | .par i j r r2, c, _, _, o, s, h => by
    unfold chkS at h
    split at h
    · obtain ⟨h, h3⟩ := and_of h
      obtain ⟨h1, h2⟩ := and_of h
      rcases Bool.or_eq_true _ _ ▸ h1 with q | q
      · exact snd_par o q h2 h3
      · exact snd_parC o q h2 h3
    · cases h
  | .unpack is w, c, _, _, o, s, h => by
    unfold chkS at h
    split at h
    · obtain ⟨h, h4⟩ := and_of h
      obtain ⟨h, h3⟩ := and_of h
      obtain ⟨h1, h2⟩ := and_of h
      exact snd_unpack o h1 h4 (bnot h2) (bnot h3)
    · cases h
  | .asgE i own tg sk as cs w, c, _, _, o, s, h => by
    unfold chkS at h
    split at h
    · obtain ⟨h, h3⟩ := and_of h
      obtain ⟨h1, h2⟩ := and_of h
      exact snd_asgE o h1 h2 h3
    · cases h
  | .unpackL is w, c, _, _, o, s, h => by
    unfold chkS at h
    split at h
    · obtain ⟨h, h4⟩ := and_of h
      obtain ⟨h1, h3⟩ := and_of h
      exact snd_unpackL o h1 h4 (bnot h3)
    · cases h
  | .ret w, c, _, _, o, s, h => by
    unfold chkS at h
    split at h
    · exact snd_ret o h
    · cases h
  | .retN, c, _, _, o, s, h => by
    unfold chkS at h
    split at h
    · exact snd_retN
    · cases h
  | .expr w, c, _, _, o, s, h => by
    unfold chkS at h
    split at h
    · obtain ⟨h1, h2⟩ := and_of h
      exact snd_expr o h2 (bnot h1)
    · cases h
  | .ifs t a b, c, _, _, o, s, h => by
    unfold chkS at h
    split at h
    · obtain ⟨h, h3⟩ := and_of h
      obtain ⟨h1, h2⟩ := and_of h
      exact snd_if (sndT t o.toCxOk h1) (sndSs a o h2) (sndSs b o h3)
    · cases h
  | .forS tg sk as b, c, _, _, o, s, h => by
    unfold chkS at h
    split at h
    · obtain ⟨h, h4⟩ := and_of h
      obtain ⟨h, h3⟩ := and_of h
      obtain ⟨h1, h2⟩ := and_of h
      split at h3
      · rename_i es he
        exact snd_for o (src_snd o.toCxOk he h3 fun a e ha _ hc => sndMem as o.toCxOk a ha hc) h1 h2 (sndSs b o h4)
      · cases h3
    · cases h
  | .whileS t b, c, _, _, o, s, h => by
    unfold chkS at h
    split at h
    · obtain ⟨h1, h2⟩ := and_of h
      exact snd_while o (sndT t o.toCxOk h1) (sndSs b o h2)
    · cases h
  | .aug i op w, c, _, _, o, s, h => by
    unfold chkS at h
    split at h
    · obtain ⟨h, h3⟩ := and_of h
      obtain ⟨h1, h2⟩ := and_of h
      obtain rfl := of_decide_eq_true h1
      exact snd_aug o h2 h3
    · cases h
  | .app i w, c, _, _, o, s, h => by
    unfold chkS at h
    split at h
    · obtain ⟨h, h5⟩ := and_of h
      obtain ⟨h, h4⟩ := and_of h
      obtain ⟨h, h3⟩ := and_of h
      obtain ⟨h1, h2⟩ := and_of h
      exact snd_app o h1 h2 h3 h4 h5
    · cases h
  | .ext i w, c, _, _, o, s, h => by
    unfold chkS at h
    split at h
    · obtain ⟨h, h5⟩ := and_of h
      obtain ⟨h, h4⟩ := and_of h
      obtain ⟨h, h3⟩ := and_of h
      obtain ⟨h1, h2⟩ := and_of h
      exact snd_ext o h1 h2 h3 h4 h5
    · cases h
  | .setI a b w, c, _, _, o, s, h => by
    unfold chkS at h
    split at h
    · obtain ⟨h, h5⟩ := and_of h
      obtain ⟨h, h4⟩ := and_of h
      obtain ⟨h, h3⟩ := and_of h
      obtain ⟨h1, h2⟩ := and_of h
      exact snd_set o (bnot h1) h2 (sndX o.toCxOk h3 (sndE a o.toCxOk h3)) (sndE b o.toCxOk h4) (sndE w o.toCxOk h5)
    · cases h
  | .brk, c, _, _, o, s, h => by
    unfold chkS at h
    split at h
    · exact snd_brk
    · cases h
  | .cont, c, _, _, o, s, h => by
    unfold chkS at h
    split at h
    · exact snd_cont
    · cases h
  | .pass, c, _, _, o, s, h => by
    unfold chkS at h
    split at h
    · exact snd_pass
    · cases h
  | .bad, c, _, _, o, s, h => snd_bad
  | .raiseT C, c, _, _, o, s, h => by
    unfold chkS at h
    split at h
    · obtain ⟨h, h4⟩ := and_of h
      obtain ⟨h, h3⟩ := and_of h
      obtain ⟨h1, h2⟩ := and_of h
      exact snd_raise o h1 h2 h3 h4
    · cases h
  | .raiseL C a, c, _, _, o, s, h => by
    unfold chkS at h
    split at h
    · obtain ⟨h, h6⟩ := and_of h
      obtain ⟨h, h5⟩ := and_of h
      obtain ⟨h, h4⟩ := and_of h
      obtain ⟨h, h3⟩ := and_of h
      obtain ⟨h1, h2⟩ := and_of h
      exact snd_raiseL o h1 h2 h3 h4 h5 (sndE a o.toCxOk h6)
    · cases h
  | .tryS b hs, c, _, _, o, s, h => by
    unfold chkS at h
    split at h
    · obtain ⟨h1, h2⟩ := and_of h
      exact snd_try o h1 fun X' W' o' => sndSs b o' h2
    · cases h
  | .clrD w, c, _, _, o, s, h => by
    unfold chkS at h
    split at h
    · obtain ⟨h, h4⟩ := and_of h
      obtain ⟨h, h3⟩ := and_of h
      obtain ⟨h1, h2⟩ := and_of h
      exact snd_clrD o h1 h2 h3 h4
    · cases h
  | .clrE w, c, _, _, o, s, h => by
    unfold chkS at h
    split at h
    · obtain ⟨h, h4⟩ := and_of h
      obtain ⟨h, h3⟩ := and_of h
      obtain ⟨h1, h2⟩ := and_of h
      exact snd_clrE o h1 h2 h3 h4
    · cases h
  | .appE a w, c, _, _, o, s, h => by
    unfold chkS at h
    split at h
    · obtain ⟨h, h6⟩ := and_of h
      obtain ⟨h, h5⟩ := and_of h
      obtain ⟨h, h4⟩ := and_of h
      obtain ⟨h, h3⟩ := and_of h
      obtain ⟨h1, h2⟩ := and_of h
      exact snd_appE o h1 h2 h3 h4 h5 h6
    · cases h
theorem sndSs {Φ : Phi} {n : Nat} {xr : XR} : ∀ (as : List Sm) {c : Cfg} {X : Cx} {W : WX} (o : StOk c Φ n xr X W) {ss : List Stmt}, chkSs c as ss = true → PSs X ss (rSs Φ xr W X.K as)
  | [], _, _, _, o, [], _ => pssI pss_nil fun D σ H ⟨G, ρ, S, V, R, w, en⟩ => en.nx _ _ _ _ w R (Le.refl H)
  | [], _, _, _, o, _ :: _, h => nomatch h
  | a :: as, c, _, _, o, [], h => nomatch h
  | a :: as, c, _, _, o, s :: ss, h => by
    have h : (chkS c a s && chkSs c as ss) = true := h
    refine pssI (pss_cons (sndS a o (and_of h).1) (sndSs as o (and_of h).2)) fun D σ H ⟨G, ρ, S, V, R, w, en⟩ => ⟨G, ρ, S, _, R, w, ?_⟩
    exact ⟨fun ρ1 S1 σ1 H1 p R1 l1 => ⟨G, ρ1, S1, V, R1, p, en.le l1⟩, en.rt, en.bk, en.ct, en.ex⟩
end
end Lk
/-! D13: defs, the table of defs, the law's end. -/
namespace Lk
open PySem PySem.Spec PyProof.Rows L2
section
variable {P : Program} {w : World} {K : PySem.W.Frag} {mg : Str → Option Value} {base : Heap} {xr : XR}
/-- a def by its body -/
theorem fnG_of {n : Nat} {f : Addr} {name qual : Str} {params : Arguments} {body : List Stmt} {scope : Scope} {dV kV doc pm cdv ct oc : Value} {an od : Option Addr} {osl : Array (Option Value)} {N ps : List Str} {φ : List PV → Sto → (PV → Sto → Prop) → (Exc → Sto → Prop) → Prop}
    (lk : K.lookup f = some ⟨oc, od, .func (PySem.W.fnOf name qual params body scope dV kV doc pm an cdv ct), osl⟩) (hcd : PySem.W.codeIn K cdv qual = true) (fs : FnScope N ps scope) (len : ∀ vs S Q E, φ vs S Q E → vs.length = ps.length)
    (hbody : ∀ (A : Around) (outer : List Env) (s : Shared) (H : Hp) (xs : List V) (vs : List PV) (S : Sto) (Q : PV → Sto → Prop) (E : Exc → Sto → Prop), Room (n + 2) (A.deeper (envOfC qual scope s.heap.objs.size f cdv)) → A.guards = some [] → RepVs K H vs xs → Step K H S S H → φ vs S Q E →
      ∃ t, PSs (cxOf (CX P w) P w K mg base N qual scope f cdv A outer s H (PostX K xr H S E)) body t ∧ t { nx := fun _ H' => PostV K H S Q .non H', rt := PostV K H S Q } (start N xs) H) :
    FnG K xr P w mg base (n + 1) f (PySem.W.fnOf name qual params body scope dV kV doc pm an cdv ct) ps φ := by
  intro A outer s H us xs vs S Q E hr hg e0 hb r rv T hφ
  have hl : xs.length = ps.length := by rw [← rv.length]; exact len _ _ _ _ hφ
  have inK : K.In s.heap := e0.mod.kin.keeps fun b o e => (e0.bs b o e).1
  have lim : s.heap.NoLimit := e0.mod.nolimit.keeps fun b o e => (e0.bs b o e).1
  have kinds : ∀ y ∈ ps.zip us, scope.names.lookup y.1 = some .local ∨ (scope.names.lookup y.1 = some .cell ∧ ((cellsFrom (s.heap.objs.size + 1) scope.names []).lookup y.1).isSome = true) := by
    rintro ⟨y, v⟩ hy
    exact (fs.par y (List.of_mem_zip hy).1).imp (fun q => q) fun q => ⟨q, PySem.W.cellsFrom_some _ _ _ (.inl q)⟩
  refine codeAny_call_function hr.depth (inK _ _ lk) rfl fs.co fs.gen rfl (PySem.W.codeRec_of inK hcd) (hb _ _ _ _ ?_)
  refine wpAny_newFunctionEnv_cells fs.kind kinds fun env he s1 ic => ?_
  subst he
  refine ⟨lim.keeps ic.toInCall.keep, codeAny_func ?_⟩
  obtain ⟨t, ht, hq⟩ := hbody A outer s H xs vs S Q E (hr.deeper _) hg rv T hφ
  have I := inv_start (CX := CX P w) (E := PostX K xr H S E) fs hr.hd e0 hl r ic
  refine wpAny_mono (ht.run [] s1 (start N xs) H _ I hq) (fun fl s' z => ?_) fun _ _ z => z
  have fin : ∀ {σ' : L2.St} {H' : Hp} {v : V} {u : Value}, Inv (cxOf (CX P w) P w K mg base N qual scope f cdv A outer s H (PostX K xr H S E)) [] σ' H' s' → RelV v u → PostV K H S Q v H' → CE outer P w H s (PostV K H S Q) u s' :=
    fun {σ' H' v u} J rv' q => ⟨v, H', J.os, J.bare, J.base, J.hok, rv', q⟩
  cases fl with
  | ret u =>
    obtain ⟨v, σ', H', J, rv', q⟩ := z
    exact fin J rv' q
  | next =>
    obtain ⟨σ', H', J, q⟩ := z
    exact fin (v := .non) (u := .none) J rfl q
  | brk =>
    obtain ⟨σ', H', J, q⟩ := z
    exact q.elim
  | cont =>
    obtain ⟨σ', H', J, q⟩ := z
    exact q.elim
end
/-! ### the table -/
/-- what every def knows of the module -/
structure GCfg where
  fns : List Str
  cst : List (Str × PyData)
  bl : List Str
  exs : List Str
  rai : List Str
def GCfg.at (g : GCfg) (N : List Str) (sc : Scope) : Cfg := ⟨N, sc, fun _ => true, g.fns, g.cst, g.bl, g.exs, g.rai⟩
structure GOk (g : GCfg) (K : PySem.W.Frag) (mg : Str → Option Value) (xr : XR) : Prop where
  exs : ExsOk g.exs g.rai K mg xr
  err : ErrOk K mg
  sys : ∃ o, K.lookup sysModules = some o
  blt : ∀ x, g.bl.contains x = true → mg x = none
  cst : ∀ p ∈ g.cst, ∃ u v, mg p.1 = some u ∧ RelV v u ∧ ∀ H, Rep K H p.2 v
abbrev Dfn.pars (d : Dfn) : List Str := d.N.take d.ps
/-- the def x stands as d tells -/
structure DefOk (g : GCfg) (K : PySem.W.Frag) (mg : Str → Option Value) (x : Str) (d : Dfn) (f : Addr) (fd : FuncData) (body : List Stmt) (scope : Scope) : Prop where
  mg : mg x = some (.ref f)
  fn : ∃ (name qual : Str) (params : Arguments) (dvs : List V) (kws : List (Str × V)), FunD K name qual params body scope dvs kws f fd
  binds : ∀ (s : Shared) (us : List Value), us.length = d.pars.length → BindsTo s fd ⟨us, []⟩ (d.pars.zip us)
  fsc : FnScope d.N d.pars scope
  len : d.pars.length = d.ps
  chk : chkSs (g.at d.N scope) d.body body = true
theorem callW_len {T : Str → Option Dfn} {n : Nat} {x : Str} {d : Dfn} {vs : List PV} {S : Sto} {Q : PV → Sto → Prop} {E : Exc → Sto → Prop} (hd : T x = some d) (h : callW T n x vs S Q E) : vs.length = d.ps := by
  cases n with
  | zero => exact (show False from h).elim
  | succ n =>
    have h' : (match T x with
      | some d => vs.length = d.ps ∧ wpSs (callW T n) d.body (startV d vs) S { nx := fun _ S' => Q (.d .none) S', rt := Q, ex := fun x _ S' => E x S' }
      | none => False) := h
    rw [hd] at h'
    exact h'.1
theorem startV_get {d : Dfn} {vs : List PV} {i : Nat} {l : Lo} (h : (startV d vs)[i]? = some (some l)) : ∃ p, vs[i]? = some p ∧ l = .v p := by
  unfold startV at h
  by_cases hi : i < vs.length
  · rw [List.getElem?_append_left (by simpa using hi), List.getElem?_map] at h
    cases e : vs[i]? with
    | none => rw [e] at h; cases h
    | some p => rw [e] at h; cases h; exact ⟨p, rfl, rfl⟩
  · rw [List.getElem?_append_right (by simpa using hi), List.getElem?_replicate] at h
    split at h <;> cases h
theorem start_get {N : List Str} {xs : List V} {i : Nat} {x : V} (h : xs[i]? = some x) : (start N xs)[i]? = some (some x) := by
  unfold L2.start
  have hi := (List.getElem?_eq_some_iff.mp h).1
  rw [List.getElem?_append_left (by simpa using hi), List.getElem?_map, h] <;> rfl
theorem repVs_get {K : PySem.W.Frag} {H : Hp} : ∀ {vs : List PV} {xs : List V} {i : Nat} {p : PV}, RepVs K H vs xs → vs[i]? = some p → ∃ x, xs[i]? = some x ∧ RepV K H p x
  | _, _, _, _, .nil, e => by simp at e
  | _, _, 0, _, .cons r _, e => by simp at e; subst e; exact ⟨_, rfl, r⟩
  | _, _, i + 1, p, .cons _ t, e => by
    obtain ⟨x, h1, h2⟩ := repVs_get (i := i) (p := p) t (by simpa using e)
    exact ⟨x, by simpa using h1, h2⟩
theorem rel_start {K : PySem.W.Frag} {H : Hp} {S : Sto} {d : Dfn} {vs : List PV} {xs : List V} (T : Step K H S S H) (rv : RepVs K H vs xs) (hl : vs.length = d.ps) (hN : d.ps ≤ d.N.length) : Rel K ⟨H, S⟩ (startV d vs) S (start d.N xs) H := by
  refine ⟨fun i p e => ?_, fun i l e n => ?_, T.sto, fun a o e _ => e, fun a h => .inl h, fun _ h => h, ?_⟩
  · obtain ⟨q, e1, e2⟩ := startV_get e
    cases e2
    obtain ⟨x, e3, r⟩ := repVs_get rv e1
    exact ⟨x, start_get e3, r⟩
  · obtain ⟨q, _, rfl⟩ := startV_get e
    exact absurd rfl (n q)
  · have h2 := rv.length
    unfold startV L2.start
    rw [List.length_append, List.length_append, List.length_map, List.length_map, List.length_replicate, List.length_replicate]
    omega
section
variable {P : Program} {w : World} {K : PySem.W.Frag} {mg : Str → Option Value} {base : Heap} {xr : XR} {g : GCfg} {T : Str → Option Dfn}
/-- what is known of a called name, at a level -/
def Called (P : Program) (w : World) (K : PySem.W.Frag) (mg : Str → Option Value) (base : Heap) (xr : XR) (T : Str → Option Dfn) (n : Nat) (x : Str) (d : Dfn) : Prop :=
  ∃ f fd, (∃ oc od osl, K.lookup f = some ⟨oc, od, .func fd, osl⟩) ∧ mg x = some (.ref f) ∧ PySem.W.keepIn K (.ref f) = true ∧ (∀ (s : Shared) (us : List Value), us.length = d.pars.length → BindsTo s fd ⟨us, []⟩ (d.pars.zip us)) ∧ (∀ vs S Q E, callW T n x vs S Q E → vs.length = d.pars.length) ∧ FnG K xr P w mg base n f fd d.pars (callW T n x)
theorem table_ok (gk : GOk g K mg xr) (hT : ∀ x, g.fns.contains x = true → ∃ d f fd body scope, T x = some d ∧ DefOk g K mg x d f fd body scope) : ∀ (n : Nat) (x : Str), g.fns.contains x = true → ∃ d, T x = some d ∧ Called P w K mg base xr T n x d := by
  intro n
  induction n with
  | zero =>
    intro x hx
    obtain ⟨d, f, fd, body, scope, hd, D⟩ := hT x hx
    obtain ⟨_, _, _, _, _, F⟩ := D.fn
    obtain ⟨oc, od, _, _, _, _, _, _, _, osl, _, lk, _⟩ := F.ex
    exact ⟨d, hd, f, fd, ⟨oc, od, osl, lk⟩, D.mg, F.kp, D.binds, fun vs S Q E h => (show False from h).elim, fun A outer s H us xs vs S Q E _ _ _ _ _ _ _ h => (show False from h).elim⟩
  | succ n ih =>
    intro x hx
    obtain ⟨d, f, fd, body, scope, hd, D⟩ := hT x hx
    obtain ⟨name, qual, params, dvs, kws, F⟩ := D.fn
    have len : ∀ vs S Q E, callW T (n + 1) x vs S Q E → vs.length = d.pars.length := fun vs S Q E h => by rw [D.len]; exact callW_len hd h
    obtain ⟨oc, od, dV, kV, doc, pm, an, cdv, ct, osl, efd, lk, hcd, _, _⟩ := F.ex
    refine ⟨d, hd, f, fd, ⟨oc, od, osl, lk⟩, D.mg, F.kp, D.binds, len, ?_⟩
    subst efd
    refine fnG_of lk hcd D.fsc len fun A outer s H xs vs S Q E hr hg rv Tk h => ?_
    have h' : vs.length = d.ps ∧ wpSs (callW T n) d.body (startV d vs) S { nx := fun _ S' => Q (.d .none) S', rt := Q, ex := fun x _ S' => E x S' } := by
      have z : (match T x with
        | some d => vs.length = d.ps ∧ wpSs (callW T n) d.body (startV d vs) S { nx := fun _ S' => Q (.d .none) S', rt := Q, ex := fun x _ S' => E x S' }
        | none => False) := h
      rw [hd] at z
      exact z
    obtain ⟨hl, hw⟩ := h'
    have hpN : d.ps ≤ d.N.length := by
      have := congrArg List.length D.fsc.pre
      rw [List.length_take] at this
      have := D.len
      omega
    have st : StOk (g.at d.N scope) (callW T n) n xr (cxOf (CX P w) P w K mg base d.N qual scope f cdv A outer s H (PostX K xr H S E)) (fun cls od _ H' => PostX K xr H S E cls od H') :=
      { N := rfl, nd := D.fsc.nd, sc := rfl, fn := fun _ _ => rfl, calm := rfl, room := hr, gd := hg, tk := takes_of rfl rfl rfl rfl, sys := gk.sys, blt := gk.blt, cst := gk.cst, exs := gk.exs, err := gk.err,
        fns := fun y hy => by
          obtain ⟨d', _, f', fd', _, h1, h2, h3, h4, h5⟩ := ih y hy
          exact ⟨f', fd', d'.pars, h1, h2, fun s us _ hl => by rw [List.append_nil] at hl ⊢; exact h3 s us hl, h4, h5⟩
        po := passes_of rfl, kind := D.fsc.kind, stk := rfl, frm := rfl }
    refine ⟨_, sndSs d.body st D.chk, ⟨H, S⟩, _, S, _, rel_start Tk rv hl hpN, hw, ⟨fun ρ S' σ H' a b c => ?_, fun v S' u H' a b c d => ⟨v, S', c, b, a⟩, fun _ _ _ _ a => a.elim, fun _ _ _ _ a => a.elim, fun y ρ S' σ cls od H' a b c d => ⟨y, S', c, b.drop, a⟩⟩⟩
    exact ⟨.d .none, S', rfl, b.drop, a⟩
end
/-! ### the law's end -/
theorem lawG_call {P : Program} {w : World} {K : PySem.W.Frag} {mg mb : Str → Option Value} {xr : XR} {k : Nat} {fa a : Addr} {fd : FuncData} {x : Str} {φ : List PV → Sto → (PV → Sto → Prop) → (Exc → Sto → Prop) → Prop} {s₁ : Shared} {vs : List Value} {ns : List Int}
    (KX : K.In s₁.heap) (hns : s₁.heap.Ns mainGlobals mg) (hb : s₁.heap.Ns builtinsNs mb) (hbb : ∀ x : Str, x ≠ "__name__" → mb x = bootBuiltins x) (hlim : s₁.heap.NoLimit) (hg : s₁.gens = #[])
    (ha : s₁.heap.get? a = some { cls := .type "list", data := .seq vs.toArray }) (hi : IntsAre vs ns) (hl : ns.length ≤ sizeLine) (hr : Room (k + 2) callerA)
    (F : ∀ base : Heap, K.In base → base.Ns mainGlobals mg → FnG K xr P w mg base k fa fd [x] φ) (hbind : ∀ (s : Shared) (u : Value), BindsTo s fd ⟨[u], []⟩ [(x, u)])
    (hφ : φ [.s ns] (fun _ => none) (fun v _ => v = .d (.bool true)) fun _ _ => False) :
    codeAny (model P w) callerA (.call (.ref fa) ⟨[.ref a], []⟩) (fun r s' => r = .ok (.ret (.bool true)) ∧ OldK s₁.heap s'.heap ∧ s'.os = s₁.os ∧ AllBare s'.gens) s₁ := by
  have rv := vals_ints hi
  have lenV := hi.length
  have main : ∀ H : Hp, (∀ b, H b = none ∨ ∃ o xs, H b = some (.frz o (.lst xs))) → ScrAt K H ns (.ref a) → HOk P w H s₁.heap → (∀ b, H b ≠ none → b = a) → (H a ≠ none → K.lookup a = none) →
      codeAny (model P w) callerA (.call (.ref fa) ⟨[.ref a], []⟩) (fun r s' => r = .ok (.ret (.bool true)) ∧ OldK s₁.heap s'.heap ∧ s'.os = s₁.os ∧ AllBare s'.gens) s₁ := by
    intro H hO hS hok hA hK
    have isA : ∀ {b : Addr} {u : HO}, H b = some u → b = a := fun {b u} q => hA b (by rw [q]; exact Option.some_ne_none u)
    have at_ : ∀ {b : Addr} {o : Obj}, s₁.heap.get? b = some o → H b = none → (hidT s₁.heap H).get? b = some o := fun e n => hidT_get e n
    have free : ∀ {b : Addr} {o : Obj} {es : Array DictEntry} {ep : Nat}, s₁.heap.get? b = some o → o.data = .dict es ep → H b = none := fun {b o es ep} e d => by
      cases q : H b with
      | none => rfl
      | some u =>
        rw [isA q, ha] at e
        cases e
        exact nomatch (show Data.seq vs.toArray _ = Data.dict es ep from d)
    have nsH : ∀ {b : Addr} {m : Str → Option Value}, s₁.heap.Ns b m → (hidT s₁.heap H).Ns b m := fun {b m} ⟨o, es, ep, e, d, r⟩ => ⟨o, es, ep, at_ e (free e d), d, r⟩
    have inK : K.In (hidT s₁.heap H) := fun b o e => at_ (KX b o e) (by
      cases q : H b with
      | none => rfl
      | some u =>
        have e' := isA q
        subst e'
        rw [hK (by rw [q]; exact Option.some_ne_none u)] at e
        cases e)
    obtain ⟨mc, l1, l2⟩ := hlim
    have hM : Mod K mg (hidT s₁.heap H) := ⟨inK, nsH hns, ⟨mb, nsH hb, hbb⟩, ⟨mc, nsH l1, l2⟩⟩
    have noFr : ∀ {b : Addr} {Z : Prop}, b ∈ frs ([] : List Env) → Z := fun {b Z} z => absurd (show b ∈ ([] : List Addr) from z) List.not_mem_nil
    have e0 : Env0 P w K mg (hidT s₁.heap H) callerA [] s₁ H := ⟨rfl, hM, fun b o e => of_hidT e, Nat.le_of_eq (hidT_size _ _), trivial, fun b hb => noFr hb, hok, .of_eq hg⟩
    have T : Step K H (fun _ => none) (fun _ => none) H := ⟨fun i p e => by simp at e, fun i l e _ => by simp at e, fun b o e => (by cases (show (none : Option SO) = some o from e)), fun b o e _ => e, fun b h => absurd rfl h, fun _ h => h, rfl⟩
    refine codeAny_mono (F _ inK (nsH hns) callerA [] s₁ H [.ref a] [.ref a] [.s ns] (fun _ => none) _ _ hr rfl e0 (hbind s₁ (.ref a)) (.cons rfl .nil) (.cons hS .nil) T hφ) fun r s' h => ?_
    cases r with
    | error e =>
      obtain ⟨_, _, _, _, _, _, _, _, _, _, _, _, x', S', _, _, z⟩ := (show CX P w [] H s₁ _ e s' from h)
      exact z.elim
    | ok fl =>
      cases fl with
      | next => exact False.elim h
      | brk => exact False.elim h
      | cont => exact False.elim h
      | ret u =>
        obtain ⟨v, H', os, bare, un, hok', r', pv, S', rp, _, q⟩ := h
        subst q
        have ev : v = .bl true := rp
        subst ev
        obtain rfl : u = Value.bool true := r'
        refine ⟨rfl, OldK.of_keep fun b o e => ?_, os, bare⟩
        rcases hO b with z | ⟨ob, xs, z⟩
        · exact un.keep b o e z (fun m => noFr m) List.not_mem_nil
        · obtain ⟨e1, _⟩ := hok b _ z
          obtain ⟨e2, _⟩ := hok' b _ (un.frzs b ob _ z)
          rw [e] at e1
          cases e1
          exact e2
  cases hk : K.lookup a with
  | some o =>
    have e := KX a o hk
    rw [ha] at e
    cases e
    exact main (fun _ => none) (fun _ => .inl rfl) ⟨a, rfl, .inr ⟨_, vs.toArray, _, hk, rfl, rfl, rfl, by rw [List.size_toArray, lenV]; exact hl, by simpa using rv⟩⟩ (fun b u z => by cases (show (none : Option HO) = some u from z)) (fun b z => absurd rfl z) fun z => absurd rfl z
  | none =>
    have other : ∀ {b : Addr}, b ≠ a → upd (fun _ => none) a (.frz { cls := .type "list", data := .seq vs.toArray } (.lst (ns.map V.int))) b = none := fun n => upd_ne n
    refine main (upd (fun _ => none) a (.frz { cls := .type "list", data := .seq vs.toArray } (.lst (ns.map V.int)))) (fun b => ?_) ⟨a, rfl, .inl ⟨_, upd_same⟩⟩ (fun b u z => ?_) (fun b z => ?_) fun _ => hk
    · by_cases hb : b = a
      · subst hb
        exact .inr ⟨_, _, upd_same⟩
      · exact .inl (other hb)
    · by_cases hb : b = a
      · subst hb
        rw [upd_same] at z
        cases z
        exact ⟨ha, by rw [List.length_map]; exact hl, vs, _, rv, ha⟩
      · rw [other hb] at z
        cases z
    · by_cases hb : b = a
      · exact hb
      · exact absurd (other hb) z
theorem walkG {l : PySem.W.OpenLaw} {m k : Nat} {q : Program} {loose : List Str} {XP : (Str → Option Value) → Heap → Prop} {YP : World → Heap → Prop} {d : DefRec} {x : Str} {φ : List PV → Sto → (PV → Sto → Prop) → (Exc → Sto → Prop) → Prop}
    (hn : l.most = some m) (hn2 : m ≤ sizeLine) (hdf : d.params.defaults = []) (hr : Room (k + 2) callerA)
    (F : ∀ (w : World) (mg : Str → Option Value) (fa : Addr) (h : Heap), YP w h → h.Ns mainGlobals mg → mg d.name = some (.ref fa) →
      ∃ (K : PySem.W.Frag) (fd : FuncData) (xr : XR), K.In h ∧ (∀ (s : Shared) (u : Value), BindsTo s fd ⟨[u], []⟩ [(x, u)]) ∧ ∀ base : Heap, K.In base → base.Ns mainGlobals mg → FnG K xr l.prog w mg base k fa fd [x] φ)
    (hφ : ∀ ns : List Int, ns.length ≤ m → φ [.s ns] (fun _ => none) (fun v _ => v = .d (.bool true)) fun _ _ => False) :
    PySem.W.WalkO q loose XP YP l.row.toRowW d [] (fun f vs => PySem.call f vs) := by
  refine Att.attach_call hn hdf fun w s₀ s₁ mg mb fa o pm cd doc a vs ns G Y ho hd hcd hmg hobj hints hlen hg => ?_
  obtain ⟨K, fd, xr, KX, hb, hF⟩ := F w mg fa _ Y G.T.g hmg
  exact lawG_call KX G.T.g G.T.b G.T.builtins G.T.nolimit hg hobj hints (Nat.le_trans hlen hn2) hr hF hb (hφ ns hlen)
end Lk
/-! D14: rows of defs; the head's facts; the law's end over them. -/
namespace Lk
open PySem PySem.Spec PyProof.Rows L2
/-! ### binding of plain parameters -/
theorem zip_lookup : ∀ {ps : List Str} {us : List Value}, ps.Nodup → us.length = ps.length → ∀ x ∈ ps, ((ps.zip us).lookup x).isSome = true
  | p :: ps, u :: us, nd, hl, x, hx => by
    rw [List.zip_cons_cons, List.lookup_cons]
    by_cases e : (x == p) = true
    · rw [e] <;> rfl
    · rw [Bool.eq_false_iff.mpr e]
      refine zip_lookup (List.nodup_cons.mp nd).2 (by simpa using hl) x ?_
      rcases List.mem_cons.mp hx with z | z
      · exact absurd (by rw [z]; exact beq_self_eq_true p) e
      · exact z
theorem zip_binds : ∀ {ps qs : List Str} {us : List Value} {sl : List (Str × Value)}, us.length = ps.length → (∀ x v, (x, v) ∈ ps.zip us → sl.lookup x = some v) → (ps.filterMap fun n => (sl.lookup n).map (n, ·)) = ps.zip us
  | [], _, us, _, hl, _ => by cases us <;> simp
  | p :: ps, qs, [], _, hl, _ => by simp at hl
  | p :: ps, qs, u :: us, sl, hl, h => by
    have e : sl.lookup p = some u := h p u (by simp)
    rw [List.filterMap_cons, e]
    simp only [Option.map_some, List.zip_cons_cons]
    rw [zip_binds (qs := qs) (by simpa using hl) fun x v hm => h x v (by simp [hm])]
theorem zip_lookup_mem : ∀ {ps : List Str} {us : List Value}, ps.Nodup → ∀ x v, (x, v) ∈ ps.zip us → (ps.zip us).lookup x = some v
  | [], _, _, x, v, h => by simp at h
  | p :: ps, [], _, x, v, h => by simp at h
  | p :: ps, u :: us, nd, x, v, h => by
    rw [List.zip_cons_cons] at h ⊢
    rw [List.lookup_cons]
    rcases List.mem_cons.mp h with z | z
    · cases z
      rw [beq_self_eq_true]
    · have hx : x ∈ ps := (List.of_mem_zip z).1
      have e : (x == p) = false := by
        rw [Bool.eq_false_iff]
        intro q
        rw [eq_of_beq q] at hx
        exact (List.nodup_cons.mp nd).1 hx
      rw [e]
      exact zip_lookup_mem (List.nodup_cons.mp nd).2 x v z
theorem bind_plain {fd : FuncData} {as : List PySem.Arg} {ps : List Str} {us : List Value} {ds : List Expr} (hp : fd.params = ⟨[], as, none, [], [], none, ds⟩) (ha : as.map (·.arg) = ps) (nd : ps.Nodup) (hd : fd.defaults = .none) (hl : us.length = ps.length) :
    bindArgs fd ⟨us, []⟩ = pure (ps.zip us) := by
  have e1 : (ps.filter fun n => ((ps.zip us).lookup n).isNone) = [] := by
    rw [List.filter_eq_nil_iff]
    intro x hx
    have := zip_lookup nd hl x hx
    cases q : (ps.zip us).lookup x with
    | none => rw [q] at this; cases this
    | some v => simp
  have e2 := zip_binds (qs := []) hl (fun x v h => zip_lookup_mem nd x v h)
  have e3 : seqItems? Value.none = pure none := rfl
  unfold bindArgs
  simp only [hp, hd, e3, ha, List.map_nil, List.nil_append, List.append_nil, hl, List.length_nil, Nat.sub_zero, List.take_length, e1, e2, pure_bind, List.forIn_nil, List.drop_nil, List.zip_nil_right, List.take_of_length_le, Nat.le_refl, Option.isNone_none, Bool.and_true]
  simp [e1, e2]
/-! ### rows -/
structure Row where
  x : Str
  nm : Str
  st : Stmt
  code : Dfn
def Row.defD (r : Row) : He.DefD := ⟨(r.x, none), r.nm, r.nm, defArgs r.st, defBody r.st, defScope r.st, [], []⟩
def argsB (a : Arguments) (ps : List Str) : Bool := match a with
  | ⟨[], as, none, [], [], none, []⟩ => decide (as.map (·.arg) = ps)
  | _ => false
def scB (N ps : List Str) (sc : Scope) : Bool :=
  decide (sc.kind = .function) && !sc.isCoroutine && !sc.isGenerator && decide N.Nodup && decide (N.take ps.length = ps) && (ps.all fun x => decide (sc.names.lookup x = some .local) || decide (sc.names.lookup x = some .cell)) && (sc.names.all fun y => decide (y.2 ≠ .free))
theorem scB_ok {N ps : List Str} {sc : Scope} (h : scB N ps sc = true) : FnScope N ps sc := by
  unfold scB at h
  simp only [Bool.and_eq_true, decide_eq_true_eq, Bool.not_eq_true', List.all_eq_true, Bool.or_eq_true] at h
  obtain ⟨⟨⟨⟨⟨⟨h1, h2⟩, h3⟩, h4⟩, h5⟩, h6⟩, h7⟩ := h
  exact ⟨h1, h2, h3, h4, h5, h6, h7⟩
def rowB (g : GCfg) (r : Row) : Bool := argsB (defArgs r.st) r.code.pars && scB r.code.N r.code.pars (defScope r.st) && decide (r.code.pars.length = r.code.ps) && chkSs (g.at r.code.N (defScope r.st)) r.code.body (defBody r.st)
def cstB (p : Str × PyData) : Bool := match p.2 with
  | .int _ => true
  | .str _ => true
  | _ => false
def cstF (p : Str × PyData) : He.Fa := match p.2 with
  | .int i => .int p.1 i
  | .str z => .str p.1 z
  | _ => .glo p.1
def gOf (rows : List Row) (cst : List (Str × PyData)) (bl exs rai : List Str) : GCfg := ⟨rows.map (·.x), cst, bl, exs, rai⟩
/-- the three own __init__ -/
structure IniT where
  a : Stmt
  b : Stmt
  c : Stmt
def IniT.of (i : IniT) : Ik → Stmt
  | .lim => i.a
  | .syn => i.b
  | .rul => i.c
def iniD (i : IniT) (k : Ik) : He.DefD := ⟨(ikN k, some "__init__"), "__init__", ikQ k, defArgs (i.of k), defBody (i.of k), defScope (i.of k), [], []⟩
def iniOk (i : IniT) (k : Ik) : Bool := argsB (defArgs (i.of k)) (ikP k) && scB (ikP k) (ikP k) (defScope (i.of k)) && decide ((defScope (i.of k)).names.lookup ("ShownError" : Str) = some .globalImplicit) && ikB k (defBody (i.of k))
def iks : List Ik := [.lim, .syn, .rul]
def limC (exs : List Str) (ini : Option IniT) : Bool := !exs.contains "TooMany" && (match ini with
  | some i => iks.all (iniOk i)
  | none => false)
def fnOfRows (rows : List Row) (ini : Option IniT) : List He.DefD := rows.map Row.defD ++ (match ini with
  | some i => iks.map (iniD i)
  | none => [])
def oexB (K : PySem.W.Frag) (C : Addr) : Bool := match K.lookup C with
  | some ⟨.type "type", _, .cls cd, sl⟩ => (match cd.mro, sl.toList with
    | .ref C' :: bm, [_, _, _, _, some (.builtin n), _] => C' == C && n == "ValueError.__new__" && !cd.hasDel && cd.hasDict && PySem.HandSPX.refsVE bm
    | _, _ => false)
  | _ => false
def excCB (K : PySem.W.Frag) (D : Addr) : Bool :=
  decide (PySem.W.findIn K (.ref D) "__getattribute__" = some (some (.builtin "BaseException.__getattribute__"))) && decide (PySem.W.findIn K (.ref D) "__getattr__" = some none) && decide (PySem.W.subIn K (.ref D) (.type "BaseException") = some true) && PySem.W.hasDictIn K D &&
  decide (PySem.W.findIn K (.ref D) "__class__" = some (some (.builtin "object.__class__"))) && decide (PySem.W.specialIn K (.builtin "object.__class__") "__get__" = some (some (.builtin "getset_descriptor.__get__"))) && decide (PySem.W.takesIn K (.builtin "object.__class__") = some true) && decide (PySem.W.mroIn K D (.type "object") = some true)
theorem excCB_ok {K : PySem.W.Frag} {D : Addr} (h : excCB K D = true) : ExcC K D := by
  unfold excCB at h
  simp only [Bool.and_eq_true, decide_eq_true_eq] at h
  obtain ⟨⟨⟨⟨⟨⟨⟨h1, h2⟩, h3⟩, h4⟩, h5⟩, h6⟩, h7⟩, h8⟩ := h
  exact ⟨h1, h2, h3, h4, h5, h6, h7, h8⟩
def oexC (K : PySem.W.Frag) (C : Addr) : Bool := oexB K C && He.eqO (PySem.W.findIn K (.ref C) "__setattr__") (some (some (.builtin "object.__setattr__"))) && decide (PySem.W.subIn K (.ref C) (.type "BaseException") = some true) && decide (PySem.W.typeIn K (.ref C) = some (.type "type")) && PySem.W.keepIn K (.ref C) &&
  He.eqO (PySem.W.findIn K (.ref C) "__init__") (some (some (.ref (He.ma K C "__init__")))) && decide (PySem.W.typeIn K (.ref (He.ma K C "__init__")) = some (.type "function"))
def errB1 (K : PySem.W.Frag) : Bool := errN.all (fun c => (He.Fa.glo c).ok K && (excCB K (He.ga K c) && (decide (PySem.W.kitOne K (.ref (He.ga K c)) (.type "ValueError") = some true) && (decide (PySem.W.kitAny K (.ref (He.ga K c)) [.type "KeyError", .type "IndexError", .type "TypeError"] = some false) &&
  ((fldN.all fun f => He.eqO (PySem.W.findIn K (.ref (He.ga K c)) f) (some none)) && errN.all fun d => decide (PySem.W.kitOne K (.ref (He.ga K c)) (.ref (He.ga K d)) = some (isxB (.own d) c)))))))
def errB (K : PySem.W.Frag) : Bool := errB1 K && (errM.all fun c => PySem.W.excIn K (He.ga K c) He.veBase "ValueError.__new__" && PySem.W.keepIn K (.ref (He.ga K c))) && (iks.all fun k => oexC K (He.ga K (ikN k))) &&
  He.eqO (PySem.W.specialIn K (.ref (He.ga K "ShownError")) "__getattribute__") (some (some (.builtin "type.__getattribute__"))) && PySem.W.readsIn K (He.ga K "ShownError") (.type "type") && (match PySem.W.findCls K (.ref (He.ga K "ShownError")) (.type "type") "__init__" with
    | some (.val (.builtin z)) => z == "ValueError.__init__"
    | _ => false)
def limF (_ : Option IniT) (K : PySem.W.Frag) : Bool := errB K
def exsF (exs rai : List Str) : List He.Fa := exs.map .glo ++ (rai.map .glo ++ rai.map .exc ++ exs.flatMap fun x => exs.map fun y => .exm x y (decide (x = y)))
def faOfRows (rows : List Row) (cst : List (Str × PyData)) (bl exs rai : List Str) : List He.Fa := rows.map (fun r => .glo r.x) ++ (cst.map cstF ++ (bl.map .free ++ exsF exs rai))
def xrOf (exs : List Str) (mg : Str → Option Value) : XR := fun e cl od H => exs.contains e.cls = true ∧ (∃ C, mg e.cls = some (.ref C) ∧ cl = .ref C) ∧
  ((od = none ∧ e.fs = []) ∨ ∃ (d : Addr) (k : Int), od = some d ∧ e.fs = [(("limit" : Str), .int k)] ∧ H d = some (.xd [(("limit" : Str), L2.V.int k)]))
def tabOf (rows : List Row) (x : Str) : Option Dfn := (rows.find? fun r => r.x == x).map (·.code)
/-! ### the Hook -/
abbrev AlS : Type := Bool × He.AlD
def frS (n : Nat) (g : Addr → Option Obj) : PySem.W.Frag := He.frG g (sysModules :: PySem.cStatics :: He.asD g n)
def obsSG (n : Nat) (ini : Option IniT) (fa : List He.Fa) (fn : List He.DefD) (g : Addr → Option Obj) : AlS := (((frS n g).lookup sysModules).isSome && limF ini (frS n g), He.obsD fa fn (frS n g))
def hookS (n : Nat) (ini : Option IniT) (fa : List He.Fa) (fn : List He.DefD) : PySem.W.Hook where
  α := AlS
  obs := fun s => obsSG n ini fa fn s.heap.get?
  val := fun _ => (true, He.valD fn)
  says := fun _ h => ∃ K : PySem.W.Frag, K.In h ∧ (∃ o, K.lookup sysModules = some o) ∧ limF ini K = true ∧ He.SaysD fa fn K
  of := fun _ s e => ⟨frS n s.heap.get?, He.frG_in, Option.isSome_iff_exists.mp (and_of (congrArg (fun z : AlS => z.1) e)).1, (and_of (congrArg (fun z : AlS => z.1) e)).2, congrArg (fun z : AlS => z.2) e⟩
  keeps := fun _ _ _ ⟨K, hK, hs, hl, c⟩ k => ⟨K, PySem.W.Frag.In.keeps hK k, hs, hl, c⟩
theorem obsSG_eq {n : Nat} {ini : Option IniT} {fa : List He.Fa} {fn : List He.DefD} {g : Addr → Option Obj} {s : Shared} (h : ∀ a, g a = s.heap.get? a) : obsSG n ini fa fn g = (hookS n ini fa fn).obs s := by
  have e : g = s.heap.get? := funext h
  rw [e] <;> rfl
section
variable {K : PySem.W.Frag} {h : Heap} {mg : Str → Option Value} {rows : List Row} {cst : List (Str × PyData)} {bl exs rai : List Str}
theorem fact_mem {fa : List He.Fa} {fn : List He.DefD} (c : He.SaysD fa fn K) {f : He.Fa} (m : f ∈ fa) : f.ok K = true := by
  obtain ⟨i, e⟩ := List.getElem?_of_mem m
  exact c.fact i e
theorem def_mem {fa : List He.Fa} {fn : List He.DefD} (c : He.SaysD fa fn K) {d : He.DefD} (m : d ∈ fn) : ∃ fd, FunD K d.name d.qual d.params d.body d.scope (d.dvs K) (d.kws K) (He.fAd K d.at_) fd := by
  obtain ⟨i, e⟩ := List.getElem?_of_mem m
  exact c.def_ i e
theorem exs_ok (X : K.In h) (G : h.Ns mainGlobals mg) (hf : ∀ f ∈ exsF exs rai, f.ok K = true) (hl : exs.contains "TooMany" = true → LimOk K mg (xrOf exs mg)) : ExsOk exs rai K mg (xrOf exs mg) where
  glo := fun x hx => ⟨_, He.glo_ok X G (hf (.glo x) (List.mem_append_left _ (List.mem_map.mpr ⟨x, List.contains_iff_mem.mp hx, rfl⟩)))⟩
  cls := fun x hx => by
    have hm := List.contains_iff_mem.mp hx
    have h1 := hf (.glo x) (List.mem_append_right _ (List.mem_append_left _ (List.mem_append_left _ (List.mem_map.mpr ⟨x, hm, rfl⟩))))
    have h2 : (PySem.W.excIn K (He.ga K x) He.veBase "ValueError.__new__" && (PySem.W.keepIn K (.ref (He.ga K x)) && (decide (PySem.W.subIn K (.ref (He.ga K x)) (.type "BaseException") = some true) && decide (PySem.W.typeIn K (.ref (He.ga K x)) = some (.type "type"))))) = true :=
      hf (.exc x) (List.mem_append_right _ (List.mem_append_left _ (List.mem_append_right _ (List.mem_map.mpr ⟨x, hm, rfl⟩))))
    obtain ⟨q1, h2⟩ := and_of h2
    obtain ⟨q2, h2⟩ := and_of h2
    obtain ⟨q3, q4⟩ := and_of h2
    exact ⟨_, He.glo_ok X G h1, q1, q2, of_decide_eq_true q3, of_decide_eq_true q4⟩
  exm := fun x y C C' hx hy h1 h2 => by
    have mx := List.contains_iff_mem.mp hx
    have my := List.contains_iff_mem.mp hy
    have g1 := He.glo_ok X G (hf (.glo x) (List.mem_append_left _ (List.mem_map.mpr ⟨x, mx, rfl⟩)))
    have g2 := He.glo_ok X G (hf (.glo y) (List.mem_append_left _ (List.mem_map.mpr ⟨y, my, rfl⟩)))
    rw [h1] at g1
    rw [h2] at g2
    cases g1
    cases g2
    exact of_decide_eq_true (show decide (PySem.W.exmOne K (.ref (He.ga K x)) (.ref (He.ga K y)) = some (decide (x = y))) = true from
      hf (.exm x y (decide (x = y))) (List.mem_append_right _ (List.mem_append_right _ (List.mem_flatMap.mpr ⟨x, mx, List.mem_map.mpr ⟨y, my, rfl⟩⟩))))
  xin := fun x C H hx hm => ⟨hx, ⟨C, hm, rfl⟩, .inl ⟨rfl, rfl⟩⟩
  xout := fun x cl od H hx => by
    obtain ⟨h2, ⟨C, h3, h4⟩, _⟩ := hx
    exact ⟨C, h3, h4, h2⟩
  lim := hl
theorem argsB_of' {a : Arguments} {ps : List Str} (h : argsB a ps = true) : ∃ as, a = ⟨[], as, none, [], [], none, []⟩ ∧ as.map (·.arg) = ps := by
  unfold argsB at h
  split at h
  · exact ⟨_, rfl, of_decide_eq_true h⟩
  · cases h
theorem oexB_ok {C : Addr} (h : oexB K C = true) : ∃ nm q N bs bm sn sub ab col dd k0 k1 k2 k3 k5, K.lookup C = some (excClassObj nm q C N bs bm true sn sub ab col dd k0 k1 k2 k3 k5 "ValueError.__new__") ∧ PySem.HandSPX.refsVE bm = true := by
  unfold oexB at h
  split at h
  · rename_i dd cd sl ho
    split at h
    · rename_i C' bm k0 k1 k2 k3 n k5 hm hs
      simp only [Bool.and_eq_true, beq_iff_eq, Bool.not_eq_true'] at h
      obtain ⟨⟨⟨⟨rfl, rfl⟩, hdel⟩, hdict⟩, ht⟩ := h
      obtain ⟨nm, bs, mro, ns, qn, hd, sn, sub, ab, col, del⟩ := cd
      dsimp only at hm hdel hdict
      subst hm hdel hdict
      have hsl : sl = #[k0, k1, k2, k3, some (.builtin "ValueError.__new__"), k5] := by
        obtain ⟨l⟩ := sl
        simp only at hs
        rw [hs]
      subst hsl
      exact ⟨nm, qn, ns, bs, bm, sn, sub, ab, col, dd, k0, k1, k2, k3, k5, ho, ht⟩
    · cases h
  · cases h
theorem err_ok {ini : Option IniT} {fa : List He.Fa} {fn : List He.DefD} (X : K.In h) (G : h.Ns mainGlobals mg) (c : He.SaysD fa fn K) (hfn : ∀ i, ini = some i → ∀ k, iniD i k ∈ fn) (hl : limF ini K = true) (hc : limC exs ini = true) : ErrOk K mg := by
  cases ini with
  | none =>
    unfold limC at hc
    cases (and_of hc).2
  | some i =>
  have hc : ∀ k, iniOk i k = true := fun k => List.all_eq_true.mp (and_of hc).2 k (by cases k <;> simp [iks])
  have hl : errB K = true := hl
  unfold errB at hl
  obtain ⟨hl, l6⟩ := and_of hl
  obtain ⟨hl, l5⟩ := and_of hl
  obtain ⟨hl, l4⟩ := and_of hl
  obtain ⟨hl, l3⟩ := and_of hl
  obtain ⟨l1, l2⟩ := and_of hl
  have e1 : ∀ y, errN.contains y = true → _ := fun y hy => List.all_eq_true.mp l1 y (List.contains_iff_mem.mp hy)
  have vV : PySem.W.findCls K (.ref (He.ga K "ShownError")) (.type "type") "__init__" = some (.val (.builtin "ValueError.__init__")) := by
    split at l6
    · rename_i z e
      rw [e, eq_of_beq l6]
    · cases l6
  have ox : ∀ k, oexC K (He.ga K (ikN k)) = true := fun k => List.all_eq_true.mp l3 k (by cases k <;> simp [iks])
  refine ⟨fun y hy => He.glo_ok X G (and_of (e1 y hy)).1, fun y hy => excCB_ok (and_of (and_of (e1 y hy)).2).1, fun y hy => and_of (List.all_eq_true.mp l2 y (List.contains_iff_mem.mp hy)), fun y z hy hz => ?_, fun y hy => of_decide_eq_true (and_of (and_of (and_of (e1 y hy)).2).2).1,
    fun y hy => of_decide_eq_true (and_of (and_of (and_of (and_of (e1 y hy)).2).2).2).1, fun y f hy hf => ?_, fun k => ?_, ⟨He.eqO_ok l4, l5, vV⟩, fun k => ?_⟩
  · exact of_decide_eq_true (List.all_eq_true.mp (and_of (and_of (and_of (and_of (and_of (e1 y hy)).2).2).2).2).2 z (List.contains_iff_mem.mp hz))
  · exact He.eqO_ok (List.all_eq_true.mp (and_of (and_of (and_of (and_of (and_of (e1 y hy)).2).2).2).2).1 f (List.contains_iff_mem.mp hf))
  · have := ox k
    unfold oexC at this
    obtain ⟨q, o7⟩ := and_of this
    obtain ⟨q, o6⟩ := and_of q
    obtain ⟨q, o5⟩ := and_of q
    obtain ⟨q, o4⟩ := and_of q
    obtain ⟨q, o3⟩ := and_of q
    obtain ⟨o1, o2⟩ := and_of q
    exact ⟨oexB_ok o1, He.eqO_ok o2, of_decide_eq_true o3, of_decide_eq_true o4, o5⟩
  · have := ox k
    unfold oexC at this
    obtain ⟨q, o7⟩ := and_of this
    obtain ⟨q, o6⟩ := and_of q
    have hk := hc k
    unfold iniOk at hk
    obtain ⟨hk, c4⟩ := and_of hk
    obtain ⟨hk, c3⟩ := and_of hk
    obtain ⟨c1, c2⟩ := and_of hk
    obtain ⟨fd, F⟩ := def_mem c (hfn i rfl k)
    have fs := scB_ok c2
    refine ⟨_, fd, _, _, _, He.eqO_ok o6, of_decide_eq_true o7, F, .all fun us hus => ?_, fs, of_decide_eq_true c3, c4⟩
    obtain ⟨as, q1, q2⟩ := argsB_of' c1
    obtain ⟨oc, od, dV, kV, doc, pm, an, cdv, ct, osl, rfl, lk, hcd, hD, _⟩ := F.ex
    rcases hD with ⟨_, rfl⟩ | ⟨z, _⟩
    · exact bind_plain (show _ = (⟨[], as, none, [], [], none, []⟩ : Arguments) from q1) q2 fs.nd rfl hus
    · exact absurd rfl z
theorem gOk {ini : Option IniT} (X : K.In h) (G : h.Ns mainGlobals mg) (hs : ∃ o, K.lookup sysModules = some o) (c : He.SaysD (faOfRows rows cst bl exs rai) (fnOfRows rows ini) K) (hc : cst.all cstB = true) (hl : limF ini K = true) (hi : limC exs ini = true) : GOk (gOf rows cst bl exs rai) K mg (xrOf exs mg) where
  exs := exs_ok X G (fun f hf => fact_mem c (List.mem_append_right _ (List.mem_append_right _ (List.mem_append_right _ hf)))) fun hx => by
    unfold limC at hi
    rw [show exs.contains "TooMany" = true from hx] at hi
    cases (and_of hi).1
  err := err_ok X G c (fun i hi' k => List.mem_append_right _ (by rw [hi']; exact List.mem_map.mpr ⟨k, by cases k <;> simp [iks], rfl⟩)) hl hi
  sys := hs
  blt := fun x hx => He.free_ok X G (fact_mem c (List.mem_append_right _ (List.mem_append_right _ (List.mem_append_left _ (List.mem_map.mpr ⟨x, List.contains_iff_mem.mp hx, rfl⟩)))))
  cst := fun p hp => by
    have hb := List.all_eq_true.mp hc p hp
    have hf := fact_mem c (f := cstF p) (List.mem_append_right _ (List.mem_append_left _ (List.mem_map.mpr ⟨p, hp, rfl⟩)))
    obtain ⟨x, d⟩ := p
    cases d <;> try (cases hb; done)
    · rename_i i
      obtain ⟨t, e⟩ := He.int_ok X G (show (He.Fa.int x i).ok K = true from hf)
      exact ⟨_, .int i, e, ⟨t, rfl⟩, fun _ => rfl⟩
    · rename_i z
      obtain ⟨t, e⟩ := He.str_ok X G (show (He.Fa.str x z).ok K = true from hf)
      exact ⟨_, .str z, e, ⟨t, rfl⟩, fun _ => rfl⟩
theorem argsB_of {a : Arguments} {ps : List Str} (h : argsB a ps = true) : ∃ as, a = ⟨[], as, none, [], [], none, []⟩ ∧ as.map (·.arg) = ps := by
  unfold argsB at h
  split at h
  · exact ⟨_, rfl, of_decide_eq_true h⟩
  · cases h
theorem defOk {g : GCfg} (X : K.In h) (G : h.Ns mainGlobals mg) {fa : List He.Fa} {fn : List He.DefD} (c : He.SaysD fa fn K) {r : Row} (hm : r.defD ∈ fn) (hg : (He.Fa.glo r.x) ∈ fa) (hr : rowB g r = true) :
    ∃ f fd, DefOk g K mg r.x r.code f fd (defBody r.st) (defScope r.st) := by
  obtain ⟨fd, F⟩ := def_mem c hm
  unfold rowB at hr
  obtain ⟨hr, h4⟩ := and_of hr
  obtain ⟨hr, h3⟩ := and_of hr
  obtain ⟨h1, h2⟩ := and_of hr
  have fs := scB_ok h2
  refine ⟨_, fd, He.glo_ok X G (fact_mem c hg), ⟨_, _, _, _, _, F⟩, fun s us hl => ?_, fs, of_decide_eq_true h3, h4⟩
  obtain ⟨as, e1, e2⟩ := argsB_of h1
  obtain ⟨oc, od, dV, kV, doc, pm, an, cdv, ct, osl, rfl, lk, hcd, hD, _⟩ := F.ex
  rcases hD with ⟨_, rfl⟩ | ⟨z, _⟩
  · exact .of_eq (bind_plain (show _ = (⟨[], as, none, [], [], none, []⟩ : Arguments) from e1) e2 (fs.nd.sublist (List.take_sublist _ _)) rfl hl)
  · exact absurd rfl z
end
theorem walkRows {ini : Option IniT} {l : PySem.W.OpenLaw} {m k n : Nat} {q : Program} {loose : List Str} {XP : (Str → Option Value) → Heap → Prop} {d : DefRec} {rows : List Row} {cst : List (Str × PyData)} {bl exs rai : List Str} {xl x : Str} {c : Dfn}
    (hn : l.most = some m) (hn2 : m ≤ sizeLine) (hdf : d.params.defaults = []) (hr : Room (k + 2) callerA) (hname : d.name = xl) (hrow : rows.all (rowB (gOf rows cst bl exs rai)) = true) (hcst : cst.all cstB = true) (hini : limC exs ini = true) (hlaw : tabOf rows xl = some c) (hps : c.pars = [x])
    (hφ : ∀ ns : List Int, ns.length ≤ m → callW (tabOf rows) k xl [.s ns] (fun _ => none) (fun v _ => v = .d (.bool true)) fun _ _ => False) :
    PySem.W.WalkO q loose XP (hookS n ini (faOfRows rows cst bl exs rai) (fnOfRows rows ini)).says l.row.toRowW d [] (fun f vs => PySem.call f vs) := by
  refine walkG (x := x) hn hn2 hdf hr (fun w mg fa h Y G hmg => ?_) hφ
  obtain ⟨K, KX, hs, hlm, sd⟩ := Y
  have hT : ∀ (y : Str), (gOf rows cst bl exs rai).fns.contains y = true → ∃ d f fd body scope, tabOf rows y = some d ∧ DefOk (gOf rows cst bl exs rai) K mg y d f fd body scope := fun y hy => by
    have hy : y ∈ rows.map (·.x) := List.contains_iff_mem.mp hy
    obtain ⟨r, hr, e⟩ := List.mem_map.mp hy
    have : ∃ r', rows.find? (fun r => r.x == y) = some r' := by
      cases q : rows.find? (fun r => r.x == y) with
      | some r' => exact ⟨r', rfl⟩
      | none =>
        have := List.find?_eq_none.mp q r hr
        rw [e] at this
        simp at this
    obtain ⟨r', hf⟩ := this
    have hm := List.mem_of_find?_eq_some hf
    have ex : r'.x = y := by
      have := List.find?_some hf
      exact eq_of_beq this
    obtain ⟨f, fd, D⟩ := defOk (g := gOf rows cst bl exs rai) KX G sd (List.mem_append_left _ (List.mem_map.mpr ⟨r', hm, rfl⟩)) (List.mem_append_left _ (List.mem_map.mpr ⟨r', hm, rfl⟩)) (List.all_eq_true.mp hrow r' hm)
    rw [ex] at D
    exact ⟨r'.code, f, fd, _, _, by unfold tabOf; rw [hf] <;> rfl, D⟩
  have hin : (gOf rows cst bl exs rai).fns.contains xl = true := by
    unfold tabOf at hlaw
    cases q : rows.find? (fun r => r.x == xl) with
    | none => rw [q] at hlaw; cases hlaw
    | some r =>
      have z := List.find?_some q
      have e : r.x = xl := eq_of_beq z
      exact List.contains_iff_mem.mpr (List.mem_map.mpr ⟨r, List.mem_of_find?_eq_some q, e⟩)
  obtain ⟨dl, fl, fdl, bl', scl, hdl, DL⟩ := hT xl hin
  rw [hlaw] at hdl
  cases hdl
  have ea : fl = fa := by
    have e1 := DL.mg
    rw [← hname, hmg] at e1
    cases e1
    rfl
  subst ea
  refine ⟨K, fdl, xrOf exs mg, KX, fun s u => ?_, fun base Kb Gb => ?_⟩
  · have b := DL.binds s [u] (by rw [hps] <;> rfl)
    rw [hps] at b
    exact b
  · obtain ⟨d', hd', f', fd', ⟨oc, od, osl, lk'⟩, h1, _, _, _, h5⟩ := table_ok (P := l.prog) (w := w) (base := base) (xr := xrOf exs mg) (gOk KX G hs sd hcst hlm hini) hT k xl hin
    rw [hlaw] at hd'
    cases hd'
    have ef : f' = fl := by
      have := DL.mg
      rw [h1] at this
      cases this
      rfl
    subst ef
    obtain ⟨_, _, _, _, _, FL⟩ := DL.fn
    obtain ⟨oc2, od2, _, _, _, _, _, _, _, osl2, _, lk2, _⟩ := FL.ex
    have e2 : fd' = fdl := by
      have := lk'.symm.trans lk2
      cases this
      rfl
    subst e2
    rw [hps] at h5
    exact h5
end Lk
/-! D15: the lifted semantics walked by rules of its heads. -/
namespace Lk
open PySem
/-! ### guards: a goal's head -/
section
variable {Φ : Phi} {E : EK} {ρ : VE} {S : Sto} {Q : PV → VE → Sto → Prop} {a b d : Ex} {as : List Ex} {x y : PyData} {i : Nat}
theorem gd_E (h : wpE Φ E a ρ S Q) : wpE Φ E a ρ S Q := h
theorem gd_X {we : WE} {A : Arg → VE → Sto → Prop} (h : wpX a we ρ S A) : wpX a we ρ S A := h
theorem gd_con {r : Arg} {C : PyData → Prop} (h : con ρ S r C) : con ρ S r C := h
theorem gd_conL {r : Arg} {C : PyData → Prop} (h : conL ρ S r C) : conL ρ S r C := h
theorem gd_D {v : PV} {C : PyData → Prop} (h : isD v C) : isD v C := h
theorem gd_B {v : PV} {C : Bool → Prop} (h : isB v C) : isB v C := h
theorem gd_Ss {ss : List Sm} {V : EndsV} (h : wpSs Φ ss ρ S V) : wpSs Φ ss ρ S V := h
theorem gd_S {ss : Sm} {V : EndsV} (h : wpS Φ ss ρ S V) : wpS Φ ss ρ S V := h
theorem gd_R {r : Rh} {F : Lo → VE → Sto → Prop} (h : wpR Φ E r ρ S F) : wpR Φ E r ρ S F := h
theorem gd_As {F : List PV → VE → Sto → Prop} (h : wpAs Φ E as ρ S F) : wpAs Φ E as ρ S F := h
theorem gd_Is {ms : List Im} {F : List PyData → VE → Sto → Prop} (h : wpIs Φ E ms ρ S F) : wpIs Φ E ms ρ S F := h
theorem gd_T {t : Te} {F : Bool → VE → Sto → Prop} (h : wpT Φ E t ρ S F) : wpT Φ E t ρ S F := h
theorem gd_TA {t : List Te} {F : Bool → VE → Sto → Prop} (h : wpTAnd Φ E t ρ S F) : wpTAnd Φ E t ρ S F := h
theorem gd_TO {t : List Te} {F : Bool → VE → Sto → Prop} (h : wpTOr Φ E t ρ S F) : wpTOr Φ E t ρ S F := h
theorem gd_And (h : wpAnd Φ E as ρ S Q) : wpAnd Φ E as ρ S Q := h
theorem gd_Or (h : wpOr Φ E as ρ S Q) : wpOr Φ E as ρ S Q := h
theorem gd_tru {F : Bool → Prop} (h : truP x F) : truP x F := h
theorem gd_ite {k : Bool} {p q : Prop} (h : if k = true then p else q) : if k = true then p else q := h
theorem gd_bin {o : Bop} {C : PyData → Prop} (h : binP o x y C) : binP o x y C := h
theorem gd_cmp {o : Cop} {C : Bool → Prop} (h : cmpP o x y C) : cmpP o x y C := h
theorem gd_bf {o : Bf} {C : PyData → Prop} (h : bfP o x C) : bfP o x C := h
theorem gd_ix {C : PyData → Prop} (h : ixP x y C) : ixP x y C := h
theorem gd_tg {t : Tg} {W : VE → Prop} (h : tgP ρ t x W) : tgP ρ t x W := h
theorem gd_src {k : Sk} {vs : List PV} {D : List PyData → Gd → Prop} (h : srcP S k vs D) : srcP S k vs D := h
theorem gd_slc {l u : Bool} {vs : List PV} {C : PyData → Prop} (h : slcQ l u vs x C) : slcQ l u vs x C := h
theorem gd_it {C : List PyData → Prop} (h : itemsP x C) : itemsP x C := h
theorem gd_isP {l : Bool} {C : Bool → Prop} (h : isP l x y C) : isP l x y C := h
theorem gd_isK {l : Bool} {v : PV} {C : Bool → Prop} (h : isK l x v C) : isK l x v C := h
theorem gd_isB {l k : Bool} {v : PV} {C : Bool → Prop} (h : isBP l k v C) : isBP l k v C := h
theorem gd_asD {C : List (PyData × PyData) → Prop} (h : asD x C) : asD x C := h
theorem gd_stoD {v : PV} {C : Addr → List (PyData × PyData) → Prop} (h : stoD v S C) : stoD v S C := h
theorem gd_rv {l : Bool} {C : PyData → Prop} (h : rvP l x C) : rvP l x C := h
theorem gd_asL {C : List PyData → Prop} (h : asL x C) : asL x C := h
theorem gd_sto {v : PV} {C : Addr → List PyData → Prop} (h : stoL v S C) : stoL v S C := h
theorem gd_setW {r : Arg} {W : VE → Sto → Prop} (h : setW x y r ρ S W) : setW x y r ρ S W := h
theorem gd_aug {o : Bop} {n : Int} {C : Int → Prop} (h : augP o n x C) : augP o n x C := h
end
section
variable {Φ : Phi} {E : EK} {ρ : VE} {S : Sto} {Q : PV → VE → Sto → Prop} {a b d : Ex} {as : List Ex} {x y : PyData} {i : Nat}
/-! ### expressions -/
theorem e_kd (h : Q (.d x) ρ S) : wpE Φ E (.kd x) ρ S Q := h
theorem e_gl {n : Str} (h : Q (.d x) ρ S) : wpE Φ E (.gl n x) ρ S Q := h
theorem rd_v {p : PV} (e : ρ[i]? = some (some (.v p))) (h : Q p ρ S) : rdVar ρ S i Q := by unfold rdVar; rw [e]; exact h
theorem rd_ol {xs : List PyData} (e : ρ[i]? = some (some (.ol xs))) (h : Q (.d (.list xs)) (ρ.set i (some (.v (.d (.list xs))))) S) : rdVar ρ S i Q := by unfold rdVar; rw [e]; exact h
theorem rd_od {xs : List (PyData × PyData)} (e : ρ[i]? = some (some (.od xs))) (h : Q (.d (.dict xs)) (ρ.set i (some (.v (.d (.dict xs))))) S) : rdVar ρ S i Q := by unfold rdVar; rw [e]; exact h
theorem e_var {p : PV} (e : ρ[i]? = some (some (.v p))) (h : Q p ρ S) : wpE Φ E (.var i) ρ S Q := rd_v e h
theorem e_ol {xs : List PyData} (e : ρ[i]? = some (some (.ol xs))) (h : Q (.d (.list xs)) (ρ.set i (some (.v (.d (.list xs))))) S) : wpE Φ E (.var i) ρ S Q := rd_ol e h
theorem e_od {xs : List (PyData × PyData)} (e : ρ[i]? = some (some (.od xs))) (h : Q (.d (.dict xs)) (ρ.set i (some (.v (.d (.dict xs))))) S) : wpE Φ E (.var i) ρ S Q := rd_od e h
theorem e_bin {op : Bop} (h : wpX a (wpE Φ E a) ρ S fun x ρ1 S1 => wpX b (wpE Φ E b) ρ1 S1 fun y ρ2 S2 => con ρ2 S2 x fun d => con ρ2 S2 y fun e => binP op d e fun r => Q (.d r) ρ2 S2) : wpE Φ E (.bin op a b) ρ S Q := h
theorem e_cmp {op : Cop} (h : wpX a (wpE Φ E a) ρ S fun x ρ1 S1 => wpX b (wpE Φ E b) ρ1 S1 fun y ρ2 S2 => con ρ2 S2 x fun d => con ρ2 S2 y fun e => cmpP op d e fun r => Q (.d (.bool r)) ρ2 S2) : wpE Φ E (.cmp op a b) ρ S Q := h
theorem e_chain {op op' : Cop} (h : wpX a (wpE Φ E a) ρ S fun x ρ1 S1 => wpX b (wpE Φ E b) ρ1 S1 fun y ρ2 S2 => con ρ2 S2 x fun d1 => con ρ2 S2 y fun e => cmpP op d1 e fun r =>
      if r = true then wpX d (wpE Φ E d) ρ2 S2 fun z ρ3 S3 => con ρ3 S3 y fun e => con ρ3 S3 z fun f => cmpP op' e f fun r' => Q (.d (.bool r')) ρ3 S3 else Q (.d (.bool false)) ρ2 S2) : wpE Φ E (.chain op op' a b d) ρ S Q := h
theorem e_isk {neg : Bool} (h : wpE Φ E a ρ S fun v ρ1 S1 => isK neg x v fun b => Q (.d (.bool b)) ρ1 S1) : wpE Φ E (.isk neg x a) ρ S Q := h
theorem e_isB {neg k : Bool} (h : wpE Φ E a ρ S fun v ρ1 S1 => isBP neg k v fun b => Q (.d (.bool b)) ρ1 S1) : wpE Φ E (.isB neg k a) ρ S Q := h
@[simp] theorem plainK_nil : plainK [] = true := rfl
@[simp] theorem plainK_cons {p : PyData × PyData} {r : List (PyData × PyData)} : plainK (p :: r) = (isKey p.1 && plainK r) := rfl
@[simp] theorem isKey_int {i : Int} : isKey (.int i) = true := rfl
@[simp] theorem isKey_str {z : Str} : isKey (.str z) = true := rfl
theorem e_dgo {k d : Ex} {kvs : List (PyData × PyData)} (e0 : ρ[i]? = some (some (.od kvs))) (h : wpE Φ E k ρ S fun u ρ2 S2 => isD u fun kd => wpE Φ E d ρ2 S2 fun v ρ3 S3 => isD v fun dd => con ρ3 S3 (.late i) fun od => getP od kd dd fun r => Q (.d r) ρ3 S3) (hp : plainK kvs = true := by first | assumption | rfl | simp) : wpE Φ E (.dget (.var i) k d) ρ S Q := by
  show wpX (.var i) (wpE Φ E (.var i)) ρ S _
  refine ⟨⟨_, e0⟩, ?_, h⟩
  unfold con
  dsimp only
  rw [e0]
  exact hp
theorem e_dgv {k d : Ex} {kvs : List (PyData × PyData)} (e0 : ρ[i]? = some (some (.v (.d (.dict kvs))))) (h : wpE Φ E k ρ S fun u ρ2 S2 => isD u fun kd => wpE Φ E d ρ2 S2 fun v ρ3 S3 => isD v fun dd => con ρ3 S3 (.late i) fun od => getP od kd dd fun r => Q (.d r) ρ3 S3) (hp : plainK kvs = true := by first | assumption | rfl | simp) : wpE Φ E (.dget (.var i) k d) ρ S Q := by
  show wpX (.var i) (wpE Φ E (.var i)) ρ S _
  refine ⟨⟨_, e0⟩, ?_, h⟩
  unfold con
  dsimp only
  rw [e0]
  exact hp
theorem e_ddis {k : Ex} (h : wpE Φ E k ρ S fun u ρ1 S1 => isD u fun kd => wpE Φ E a ρ1 S1 fun v ρ2 S2 => isD v fun d => isKey kd = true ∧ Q (.d (.dict [(kd, d)])) ρ2 S2) : wpE Φ E (.ddis k a) ρ S Q := h
theorem e_ddis2 {k k2 : Ex} (h : wpE Φ E k ρ S fun u ρ1 S1 => isD u fun kd => wpE Φ E a ρ1 S1 fun v ρ2 S2 => isD v fun d => wpE Φ E k2 ρ2 S2 fun u2 ρ3 S3 => isD u2 fun kd2 => wpE Φ E b ρ3 S3 fun v2 ρ4 S4 => isD v2 fun d2 => isKey kd = true ∧ oddB kd2 [(kd, d)] = true ∧ Q (.d (.dict [(kd, d), (kd2, d2)])) ρ4 S4) : wpE Φ E (.ddis2 k a k2 b) ρ S Q := h
theorem e_litems (h : wpE Φ E a ρ S fun v ρ1 S1 => isD v fun d => litP d fun r => Q (.d r) ρ1 S1) : wpE Φ E (.litems a) ρ S Q := h
theorem e_dctB (h : wpE Φ E a ρ S fun v ρ1 S1 => isD v fun d => dctP d fun r => Q (.d r) ρ1 S1) : wpE Φ E (.dctB a) ρ S Q := h
theorem e_srtS (h : wpE Φ E a ρ S fun v ρ1 S1 => isD v fun d => srtP d fun r => Q (.d r) ρ1 S1) : wpE Φ E (.srtS a) ρ S Q := h
theorem e_lidx (h : wpE Φ E a ρ S fun v ρ1 S1 => lvP S1 v fun _ => wpE Φ E b ρ1 S1 fun u ρ2 S2 => isD u fun d => lvP S2 v fun ds => idxP ds d fun k => Q (.d (.int k)) ρ2 S2) : wpE Φ E (.lidx a b) ρ S Q := h
theorem e_trng (h : wpE Φ E a ρ S fun v ρ1 S1 => isD v fun d => rngP d fun r => Q (.d r) ρ1 S1) : wpE Φ E (.trng a) ρ S Q := h
theorem rg_p {k : Int} {C : PyData → Prop} (z1 : -(2 ^ 62) ≤ k) (z2 : k < 2 ^ 62) (z3 : k.toNat ≤ 2 ^ 24) (h : C (.tuple (rangeL 0 k))) : rngP (.int k) C := ⟨z1, z2, z3, h⟩
theorem e_lzip (h : wpX a (wpE Φ E a) ρ S fun x ρ1 S1 => wpX b (wpE Φ E b) ρ1 S1 fun y ρ2 S2 => con ρ2 S2 x fun d => con ρ2 S2 y fun e => lzP d e fun r => Q (.d r) ρ2 S2) : wpE Φ E (.lzip a b) ρ S Q := h
theorem e_dcomp {own : List (Str × Nat)} {tg : Tg} {sk : Sk} {cs : List Te} {ke : Ex} (h : wpAs Φ E as ρ S fun vs ρ1 S1 => srcP S1 sk vs fun xs gd =>
      dcompW (own.map (·.2)) tg (wpTAnd Φ noE cs) (wpE Φ noE ke) (wpE Φ noE a) gd xs [] (wipeV ρ1 (own.map (·.2))) S1 fun ys ρ2 S2 => Q (.d (.dict ys)) (backV ρ1 ρ2 (own.map (·.2))) S2) : wpE Φ E (.dcomp own tg sk as cs ke a) ρ S Q := h
theorem e_dcompS {own : List (Str × Nat)} {tg : Tg} {sk : Sk} {cs : List Te} {ke : Ex} (h : wpAs Φ E as ρ S fun vs ρ1 S1 => srcP S1 sk vs fun xs gd =>
      dcompW (own.map (·.2)) tg (wpTAnd Φ noE cs) (wpE Φ noE ke) (wpE Φ noE a) gd xs [] (wipeV ρ1 (own.map (·.2))) S1 fun ys ρ2 S2 => ∀ b, S2 b = none → Q (.r b) (backV ρ1 ρ2 (own.map (·.2))) (sput S2 b (.dic ys))) : wpE Φ E (.dcompS own tg sk as cs ke a) ρ S Q := h
theorem e_join {sep : Str} (h : wpX a (wpE Φ E a) ρ S fun x ρ1 S1 => con ρ1 S1 x fun d => joinP sep d fun r => Q (.d r) ρ1 S1) : wpE Φ E (.join sep a) ρ S Q := h
theorem e_comp2 {own : List (Str × Nat)} {tg tg1 : Tg} {sk sk1 : Sk} {cs cs1 : List Te} {own1 : List Nat} {as1 : List Ex} (h : wpAs Φ E as ρ S fun vs ρ1 S1 => srcP S1 sk vs fun xs gd =>
      comp2W (own.map (·.2)) tg (wpTAnd Φ noE cs) (fun ρ S K => wpAs Φ noE as1 ρ S fun vs ρ1 S1 => srcP S1 sk1 vs fun ys gd1 => K ys gd1 ρ1 S1) own1 tg1 (wpTAnd Φ noE cs1) (wpE Φ noE a) gd xs [] (wipeV ρ1 (own.map (·.2))) S1 fun ys ρ2 S2 => Q (.d (.list ys)) (backV ρ1 ρ2 (own.map (·.2))) S2) : wpE Φ E (.comp2 own tg sk as cs own1 tg1 sk1 as1 cs1 a) ρ S Q := h
theorem e_inst {T : String} (h : wpX a (wpE Φ E a) ρ S fun x ρ1 S1 => con ρ1 S1 x fun d => noErr d = true ∧ Q (.d (.bool (instB T d))) ρ1 S1) : wpE Φ E (.inst T a) ρ S Q := h
theorem e_and (h : wpAnd Φ E as ρ S Q) : wpE Φ E (.andE as) ρ S Q := h
theorem e_or (h : wpOr Φ E as ρ S Q) : wpE Φ E (.orE as) ρ S Q := h
theorem and_one (h : wpE Φ E a ρ S Q) : wpAnd Φ E [a] ρ S Q := h
theorem or_one (h : wpE Φ E a ρ S Q) : wpOr Φ E [a] ρ S Q := h
theorem and_two (h : wpE Φ E a ρ S fun v ρ1 S1 => isB v fun k => if k = true then wpAnd Φ E (b :: as) ρ1 S1 Q else Q (.d (.bool false)) ρ1 S1) : wpAnd Φ E (a :: b :: as) ρ S Q := h
theorem or_two (h : wpE Φ E a ρ S fun v ρ1 S1 => orW v (fun w => Q w ρ1 S1) (wpOr Φ E (b :: as) ρ1 S1 Q)) : wpOr Φ E (a :: b :: as) ρ S Q := h
theorem e_not (h : wpX a (wpE Φ E a) ρ S fun x ρ1 S1 => con ρ1 S1 x fun d => truP d fun b => Q (.d (.bool (!b))) ρ1 S1) : wpE Φ E (.notE a) ρ S Q := h
theorem e_ite {t : Te} (h : wpT Φ E t ρ S fun k ρ1 S1 => if k = true then wpE Φ E a ρ1 S1 Q else wpE Φ E b ρ1 S1 Q) : wpE Φ E (.ite t a b) ρ S Q := h
theorem e_fnc {f : Bf} (h : wpX a (wpE Φ E a) ρ S fun x ρ1 S1 => con ρ1 S1 x fun d => bfP f d fun r => Q (.d r) ρ1 S1) : wpE Φ E (.fnc f a) ρ S Q := h
theorem e_call {f : Str} (h : wpAs Φ E as ρ S fun vs ρ1 S1 => Φ f vs S1 (fun v S2 => Q v ρ1 S2) fun x S2 => E x ρ1 S2) : wpE Φ E (.call f as) ρ S Q := h
theorem e_ix (h : wpX a (wpE Φ E a) ρ S fun x ρ1 S1 => wpX b (wpE Φ E b) ρ1 S1 fun y ρ2 S2 => con ρ2 S2 x fun d => con ρ2 S2 y fun e => ixP d e fun r => Q (.d r) ρ2 S2) : wpE Φ E (.ix a b) ρ S Q := h
theorem e_slc {l u : Bool} (h : wpX a (wpE Φ E a) ρ S fun x ρ1 S1 => wpAs Φ E as ρ1 S1 fun vs ρ2 S2 => conL ρ2 S2 x fun d => slcQ l u vs d fun r => Q (.d r) ρ2 S2) : wpE Φ E (.slc l u a as) ρ S Q := h
variable {ms : List Im} {P : List PyData → VE → Sto → Prop}
theorem e_tup (h : wpIs Φ E ms ρ S fun ds ρ1 S1 => ds.length ≤ sizeLine ∧ Q (.d (.tuple ds)) ρ1 S1) : wpE Φ E (.tup ms) ρ S Q := h
theorem e_lst (h : wpIs Φ E ms ρ S fun ds ρ1 S1 => ds.length ≤ sizeLine ∧ Q (.d (.list ds)) ρ1 S1) : wpE Φ E (.lst false ms) ρ S Q := h
theorem e_lstS (h : wpIs Φ E ms ρ S fun ds ρ1 S1 => ds.length ≤ sizeLine ∧ ∀ a, S1 a = none → Q (.r a) ρ1 (sput S1 a (.lst ds))) : wpE Φ E (.lst true ms) ρ S Q := h
theorem e_edic (h : Q (.d (.dict [])) ρ S) : wpE Φ E .edic ρ S Q := h
theorem e_frz (h : wpE Φ E a ρ S fun v ρ1 S1 => ∃ p xs, v = .r p ∧ S p = none ∧ S1 p = some (.lst xs) ∧ Q (.d (.list xs)) ρ1 (sdel S1 p)) : wpE Φ E (.frz a) ρ S Q := h
theorem sdel_sput {S : Sto} {p : Addr} {o : SO} (h : S p = none) : sdel (sput S p o) p = S := by
  funext b
  unfold sdel sput
  by_cases e : b = p
  · rw [if_pos e, e, h]
  · rw [if_neg e, if_neg e]
theorem e_edicS (h : ∀ a, S a = none → Q (.r a) ρ (sput S a (.dic []))) : wpE Φ E .edicS ρ S Q := h
theorem e_calB1 {f : Str} (h : wpE Φ E a ρ S fun v ρ1 S1 => borW Φ f [v] i ρ1 S1 Q) : wpE Φ E (.callB1 f a i) ρ S Q := h
theorem e_calB2 {f : Str} (h : wpE Φ E a ρ S fun v ρ1 S1 => wpE Φ E b ρ1 S1 fun u ρ2 S2 => borW Φ f [v, u] i ρ2 S2 Q) : wpE Φ E (.callB2 f a b i) ρ S Q := h
theorem bor_in {f : Str} {vs : List PV} {kvs : List (PyData × PyData)} (e : ρ[i]? = some (some (.od kvs))) (h : ∀ p, S p = none → Φ f (vs ++ [.r p]) (sput S p (.dic kvs)) (fun v S2 => ∃ kvs2, S2 p = some (.dic kvs2) ∧ Q v (ρ.set i (some (.od kvs2))) (sdel S2 p)) fun _ _ => False) : borW Φ f vs i ρ S Q := by
  unfold borW
  rw [e]
  exact h
theorem e_comp {own : List (Str × Nat)} {tg : Tg} {sk : Sk} {cs : List Te} (h : wpAs Φ E as ρ S fun vs ρ1 S1 => srcP S1 sk vs fun xs gd =>
      compW (own.map (·.2)) tg (wpTAnd Φ noE cs) (wpE Φ noE a) gd xs [] (wipeV ρ1 (own.map (·.2))) S1 fun ys ρ2 S2 => Q (.d (.list ys)) (backV ρ1 ρ2 (own.map (·.2))) S2) : wpE Φ E (.comp own tg sk as cs a) ρ S Q := h
theorem e_pop {xs : List PyData} (e : ρ[i]? = some (some (.ol xs))) (e2 : xs.getLast? = some x) (h : Q (.d x) (ρ.set i (some (.ol xs.dropLast))) S) : wpE Φ E (.popv i) ρ S Q := by
  show (match ρ[i]? with
    | some (some (.ol xs)) => match xs.getLast? with
      | some x => Q (.d x) (ρ.set i (some (.ol xs.dropLast))) S
      | none => False
    | _ => False)
  rw [e]
  show (match xs.getLast? with
    | some x => Q (.d x) (ρ.set i (some (.ol xs.dropLast))) S
    | none => False)
  rw [e2]
  exact h
theorem is_nil (h : P [] ρ S) : wpIs Φ E [] ρ S P := h
theorem is_one (h : wpE Φ E a ρ S fun v ρ1 S1 => isD v fun x => wpIs Φ E ms ρ1 S1 fun ys ρ2 S2 => P (x :: ys) ρ2 S2) : wpIs Φ E (.one a :: ms) ρ S P := h
theorem is_star (h : wpX a (wpE Φ E a) ρ S fun x ρ1 S1 => con ρ1 S1 x fun d => itemsP d fun xs => wpIs Φ E ms ρ1 S1 fun ys ρ2 S2 => P (xs ++ ys) ρ2 S2) : wpIs Φ E (.star a :: ms) ρ S P := h
variable {R : List PV → VE → Sto → Prop}
theorem as_nil (h : R [] ρ S) : wpAs Φ E [] ρ S R := h
theorem as_one (h : wpE Φ E a ρ S fun v ρ1 S1 => wpAs Φ E as ρ1 S1 fun vs ρ2 S2 => R (v :: vs) ρ2 S2) : wpAs Φ E (a :: as) ρ S R := h
/-! ### operands -/
variable {A : Arg → VE → Sto → Prop} {l : Lo} {C : PyData → Prop}
theorem x_var {w : VE → Sto → (PV → VE → Sto → Prop) → Prop} (e : ρ[i]? = some (some l)) (h : A (.late i) ρ S) : wpX (.var i) w ρ S A := ⟨⟨l, e⟩, h⟩
theorem x_now (n : a.late? = none) (h : wpE Φ E a ρ S fun v ρ' S' => A (.now v) ρ' S') : wpX a (wpE Φ E a) ρ S A := by
  unfold wpX
  rw [n]
  exact h
theorem con_now (h : C x) : con ρ S (.now (.d x)) C := h
theorem con_v (e : ρ[i]? = some (some (.v (.d x)))) (h : C x) : con ρ S (.late i) C := by
  unfold con
  dsimp only
  rw [e]
  exact h
theorem con_ol {xs : List PyData} (e : ρ[i]? = some (some (.ol xs))) (h : C (.list xs)) : con ρ S (.late i) C := by
  unfold con
  dsimp only
  rw [e]
  exact h
theorem con_od {xs : List (PyData × PyData)} (e : ρ[i]? = some (some (.od xs))) (h : C (.dict xs)) : con ρ S (.late i) C := by
  unfold con
  dsimp only
  rw [e]
  exact h
theorem con_rl {r : Addr} {xs : List PyData} (e : ρ[i]? = some (some (.v (.r r)))) (s : S r = some (.lst xs)) (h : C (.list xs)) : con ρ S (.late i) C := by
  unfold con conV
  dsimp only
  rw [e]
  dsimp only
  rw [s]
  exact h
theorem con_rn {r : Addr} {xs : List PyData} (s : S r = some (.lst xs)) (h : C (.list xs)) : con ρ S (.now (.r r)) C := by
  unfold con conV
  dsimp only
  rw [s]
  exact h
theorem con_rd {r : Addr} {xs : List (PyData × PyData)} (e : ρ[i]? = some (some (.v (.r r)))) (s : S r = some (.dic xs)) (h : C (.dict xs)) : con ρ S (.late i) C := by
  unfold con conV
  dsimp only
  rw [e]
  dsimp only
  rw [s]
  exact h
theorem con_rnd {r : Addr} {xs : List (PyData × PyData)} (s : S r = some (.dic xs)) (h : C (.dict xs)) : con ρ S (.now (.r r)) C := by
  unfold con conV
  dsimp only
  rw [s]
  exact h
theorem conL_s {ns : List Int} (e : ρ[i]? = some (some (.v (.s ns)))) (h : C (.list (ns.map .int))) : conL ρ S (.late i) C := by
  unfold conL
  dsimp only
  rw [e]
  exact h
theorem conL_v (e : ρ[i]? = some (some (.v (.d x)))) (h : C x) : conL ρ S (.late i) C := by
  unfold conL
  dsimp only
  rw [e]
  dsimp only
  exact con_v e h
theorem conL_ol {xs : List PyData} (e : ρ[i]? = some (some (.ol xs))) (h : C (.list xs)) : conL ρ S (.late i) C := by
  unfold conL
  dsimp only
  rw [e]
  dsimp only
  exact con_ol e h
theorem conL_now (h : C x) : conL ρ S (.now (.d x)) C := h
theorem d_d (h : C x) : isD (.d x) C := h
theorem gd_orW {v : PV} {A : PV → Prop} {R : Prop} (h : orW v A R) : orW v A R := h
theorem ow_b {k : Bool} {A : PV → Prop} {R : Prop} (h : if k = true then A (.d (.bool true)) else R) : orW (.d (.bool k)) A R := h
theorem ow_n {A : PV → Prop} {R : Prop} (h : R) : orW (.d .none) A R := h
theorem ow_d {kvs : List (PyData × PyData)} {A : PV → Prop} {R : Prop} (h : if kvs.isEmpty = true then R else A (.d (.dict kvs))) (hp : plainK kvs = true := by first | assumption | rfl | simp) : orW (.d (.dict kvs)) A R := ⟨hp, h⟩
theorem ow_l {xs : List PyData} {A : PV → Prop} {R : Prop} (h : if xs.isEmpty = true then R else A (.d (.list xs))) : orW (.d (.list xs)) A R := h
theorem b_b {k : Bool} {B : Bool → Prop} (h : B k) : isB (.d (.bool k)) B := h
/-! ### tests -/
variable {B : Bool → VE → Sto → Prop} {t : Te} {ts : List Te}
theorem t_of (h : wpX a (wpE Φ E a) ρ S fun x ρ1 S1 => con ρ1 S1 x fun d => truP d fun b => B b ρ1 S1) : wpT Φ E (.of a) ρ S B := h
theorem t_and (h : wpTAnd Φ E ts ρ S B) : wpT Φ E (.and ts) ρ S B := h
theorem t_or (h : wpTOr Φ E ts ρ S B) : wpT Φ E (.or ts) ρ S B := h
theorem t_not (h : wpT Φ E t ρ S fun b ρ1 S1 => B (!b) ρ1 S1) : wpT Φ E (.not t) ρ S B := h
theorem ta_nil (h : B true ρ S) : wpTAnd Φ E [] ρ S B := h
theorem to_nil (h : B false ρ S) : wpTOr Φ E [] ρ S B := h
theorem ta_one (h : wpT Φ E t ρ S fun b ρ1 S1 => if b = true then wpTAnd Φ E ts ρ1 S1 B else B false ρ1 S1) : wpTAnd Φ E (t :: ts) ρ S B := h
theorem to_one (h : wpT Φ E t ρ S fun b ρ1 S1 => if b = true then B true ρ1 S1 else wpTOr Φ E ts ρ1 S1 B) : wpTOr Φ E (t :: ts) ρ S B := h
theorem tr_b {k : Bool} {Z : Bool → Prop} (h : Z k) : truP (.bool k) Z := h
theorem tr_n {Z : Bool → Prop} (h : Z false) : truP .none Z := h
theorem tr_i {k : Int} {Z : Bool → Prop} (h : Z (k != 0)) : truP (.int k) Z := h
theorem ite_t {p q : Prop} (h : p) : if true = true then p else q := by rw [if_pos rfl]; exact h
theorem ite_f {p q : Prop} (h : q) : if false = true then p else q := by rw [if_neg Bool.false_ne_true]; exact h
theorem ite_b {k : Bool} {p q : Prop} (h1 : k = true → p) (h2 : k = false → q) : if k = true then p else q := by
  cases k with
  | true => exact ite_t (h1 rfl)
  | false => exact ite_f (h2 rfl)
/-! ### operations -/
theorem o_addi {m n : Int} (h : C (.int (m + n))) : binP .add (.int m) (.int n) C := h
theorem o_adds {m n : Str} (z : m.length + n.length ≤ sizeLine) (h : C (.str (m ++ n))) : binP .add (.str m) (.str n) C := ⟨z, h⟩
theorem o_addl {m n : List PyData} (z : m.length + n.length ≤ sizeLine) (h : C (.list (m ++ n))) : binP .add (.list m) (.list n) C := ⟨z, h⟩
theorem o_addt {m n : List PyData} (z : m.length + n.length ≤ sizeLine) (h : C (.tuple (m ++ n))) : binP .add (.tuple m) (.tuple n) C := ⟨z, h⟩
theorem o_sub {m n : Int} (h : C (.int (m - n))) : binP .sub (.int m) (.int n) C := h
theorem o_mul {m n : Int} (z : L2.CMulW m n ∨ L2.CMul m n) (h : C (.int (m * n))) : binP .mul (.int m) (.int n) C := ⟨z, h⟩
theorem o_fdiv {m n : Int} (z : L2.CDivW m n) (h : C (.int (m / n))) : binP .fdiv (.int m) (.int n) C := ⟨z, h⟩
theorem o_mod {m n : Int} (z : 0 < n) (h : C (.int (m % n))) : binP .mod (.int m) (.int n) C := ⟨z, h⟩
theorem o_pow {m n : Int} (z : L2.CPow m n) (h : C (.int (m ^ n.toNat))) : binP .pow (.int m) (.int n) C := ⟨z, h⟩
variable {Z : Bool → Prop}
theorem o_lt {m n : Int} (h : Z (decide (m < n))) : cmpP .lt (.int m) (.int n) Z := h
theorem o_le {m n : Int} (h : Z (decide (m ≤ n))) : cmpP .le (.int m) (.int n) Z := h
theorem o_gt {m n : Int} (h : Z (decide (n < m))) : cmpP .gt (.int m) (.int n) Z := h
theorem o_ge {m n : Int} (h : Z (decide (n ≤ m))) : cmpP .ge (.int m) (.int n) Z := h
theorem o_eq {k : Bool} (e : eqO x y = some k) (h : Z k) : cmpP .eq x y Z := by
  show (match eqO x y with
    | some b => Z b
    | none => eqDic x y Z)
  rw [e]
  exact h
theorem o_ne {k : Bool} (e : eqO x y = some k) (h : Z (!k)) : cmpP .ne x y Z := by
  show (match eqO x y with
    | some b => Z (!b)
    | none => eqDic x y fun b => Z (!b))
  rw [e]
  exact h
theorem o_eqd {ks ls : List (PyData × PyData)} (v1 : dvOk ks) (v2 : dvOk ls) (h : Z (ks.length == ls.length && hitsB ls ks)) (hp : plainK ks = true := by first | assumption | rfl | simp) (hp2 : plainK ls = true := by first | assumption | rfl | simp) : cmpP .eq (.dict ks) (.dict ls) Z := by
  have e : eqO (.dict ks) (.dict ls) = none := by
    unfold eqO
    rw [if_neg fun q => by cases q.1]
  show (match eqO (.dict ks) (.dict ls) with
    | some b => Z b
    | none => eqDic (.dict ks) (.dict ls) Z)
  rw [e]
  exact ⟨hp, hp2, v1, v2, h⟩
theorem o_ned {ks ls : List (PyData × PyData)} (v1 : dvOk ks) (v2 : dvOk ls) (h : Z (!(ks.length == ls.length && hitsB ls ks))) (hp : plainK ks = true := by first | assumption | rfl | simp) (hp2 : plainK ls = true := by first | assumption | rfl | simp) : cmpP .ne (.dict ks) (.dict ls) Z := by
  have e : eqO (.dict ks) (.dict ls) = none := by
    unfold eqO
    rw [if_neg fun q => by cases q.1]
  show (match eqO (.dict ks) (.dict ls) with
    | some b => Z (!b)
    | none => eqDic (.dict ks) (.dict ls) fun b => Z (!b))
  rw [e]
  exact ⟨hp, hp2, v1, v2, h⟩
theorem o_inst {m n : Str} (h : Z (strHas m n)) : cmpP .isin (.str m) (.str n) Z := h
theorem o_ninst {m n : Str} (h : Z (!strHas m n)) : cmpP .notin (.str m) (.str n) Z := h
theorem f_lenl {xs : List PyData} (h : C (.int xs.length)) : bfP .len (.list xs) C := h
theorem f_lent {xs : List PyData} (h : C (.int xs.length)) : bfP .len (.tuple xs) C := h
theorem f_lens {z : Str} (l : z.length ≤ sizeLine) (h : C (.int z.length)) : bfP .len (.str z) C := ⟨l, h⟩
theorem f_ll {xs : List PyData} (h : C (.list xs)) : bfP .list (.list xs) C := h
theorem f_lt {xs : List PyData} (h : C (.list xs)) : bfP .list (.tuple xs) C := h
theorem f_ld {kvs : List (PyData × PyData)} (h : C (.list (kvs.map (·.1)))) (hp : plainK kvs = true := by first | assumption | rfl | simp) : bfP .list (.dict kvs) C := ⟨hp, h⟩
theorem f_lend {kvs : List (PyData × PyData)} (h : C (.int kvs.length)) (hp : plainK kvs = true := by first | assumption | rfl | simp) : bfP .len (.dict kvs) C := ⟨hp, h⟩
theorem f_ints {z : Str} {n : Int} (e : intText? z = some n) (l : z.length ≤ 640) (h : C (.int n)) : bfP .int (.str z) C := by
  show (match intText? z with
    | some n => z.length ≤ 640 ∧ C (.int n)
    | none => False)
  rw [e]
  exact ⟨l, h⟩
theorem f_str {n : Int} (l : n.natAbs.log2 < 1920) (h : C (.str (toString n))) : bfP .str (.int n) C := ⟨l, h⟩
theorem jo_l {sep : Str} {xs : List PyData} {ys : List Str} (e : strsOf xs = some ys) (l : (ys.map (·.length)).sum + ys.length * sep.length ≤ 16777216) (h : C (.str (Str.join sep ys))) : joinP sep (.list xs) C := by
  show (match strsOf xs with
    | some ys => (ys.map (·.length)).sum + ys.length * sep.length ≤ 16777216 ∧ C (.str (Str.join sep ys))
    | none => False)
  rw [e]
  exact ⟨l, h⟩
theorem f_tl {xs : List PyData} (h : C (.tuple xs)) : bfP .tuple (.list xs) C := h
theorem f_tt {xs : List PyData} (h : C (.tuple xs)) : bfP .tuple (.tuple xs) C := h
theorem f_int {k : Int} (h : C (.int k)) : bfP .int (.int k) C := h
theorem f_abs {k : Int} (h : C (.int (if k < 0 then -k else k))) : bfP .abs (.int k) C := h
theorem f_all {xs : List PyData} {bs : List Bool} (e : boolsOf xs = some bs) (h : C (.bool (bs.all id))) : bfP .all (.list xs) C := by
  show (match boolsOf xs with
    | some bs => C (.bool (bs.all id))
    | none => False)
  rw [e]
  exact h
theorem f_any {xs : List PyData} {bs : List Bool} (e : boolsOf xs = some bs) (h : C (.bool (bs.any id))) : bfP .any (.list xs) C := by
  show (match boolsOf xs with
    | some bs => C (.bool (bs.any id))
    | none => False)
  rw [e]
  exact h
theorem ix_l {xs : List PyData} {k : Int} (e : L2.atI xs k = some x) (h : C x) : ixP (.list xs) (.int k) C := by
  show (match L2.atI xs k with
    | some x => C x
    | none => False)
  rw [e]
  exact h
theorem ix_t {xs : List PyData} {k : Int} (e : L2.atI xs k = some x) (h : C x) : ixP (.tuple xs) (.int k) C := by
  show (match L2.atI xs k with
    | some x => C x
    | none => False)
  rw [e]
  exact h
theorem sl_l {xs : List PyData} (h : C (.list (cutL xs none none))) : slcQ false false [] (.list xs) C := h
theorem sl_l1 {xs : List PyData} {m : Int} (h : C (.list (cutL xs (some m) none))) : slcQ true false [.d (.int m)] (.list xs) C := h
theorem sl_l2 {xs : List PyData} {m : Int} (h : C (.list (cutL xs none (some m)))) : slcQ false true [.d (.int m)] (.list xs) C := h
theorem sl_l3 {xs : List PyData} {m n : Int} (h : C (.list (cutL xs (some m) (some n)))) : slcQ true true [.d (.int m), .d (.int n)] (.list xs) C := h
theorem sl_t {xs : List PyData} (h : C (.tuple (cutL xs none none))) : slcQ false false [] (.tuple xs) C := h
theorem sl_t1 {xs : List PyData} {m : Int} (h : C (.tuple (cutL xs (some m) none))) : slcQ true false [.d (.int m)] (.tuple xs) C := h
theorem sl_t2 {xs : List PyData} {m : Int} (h : C (.tuple (cutL xs none (some m)))) : slcQ false true [.d (.int m)] (.tuple xs) C := h
theorem sl_t3 {xs : List PyData} {m n : Int} (h : C (.tuple (cutL xs (some m) (some n)))) : slcQ true true [.d (.int m), .d (.int n)] (.tuple xs) C := h
theorem it_l {xs : List PyData} {D : List PyData → Prop} (h : D xs) : itemsP (.list xs) D := h
theorem it_t {xs : List PyData} {D : List PyData → Prop} (h : D xs) : itemsP (.tuple xs) D := h
theorem ik_d {neg : Bool} (h : isP neg x y Z) : isK neg x (.d y) Z := h
theorem ik_r {neg : Bool} {r : Addr} (h : Z neg) : isK neg .none (.r r) Z := h
theorem isn_t {neg : Bool} {xs : List PyData} (h : Z neg) : isP neg .none (.tuple xs) Z := h
theorem isn_l {neg : Bool} {xs : List PyData} (h : Z neg) : isP neg .none (.list xs) Z := h
theorem isn_d {neg : Bool} {xs : List (PyData × PyData)} (h : Z neg) : isP neg .none (.dict xs) Z := h
theorem isn_i {neg : Bool} {k : Int} (h : Z neg) : isP neg .none (.int k) Z := h
theorem ib_b {neg k c : Bool} (h : Z (if neg then !decide (c = k) else decide (c = k))) : isBP neg k (.d (.bool c)) Z := h
theorem g_p {kvs : List (PyData × PyData)} {k d : PyData} (hk : isKey k = true) (h : C ((lookD kvs k).getD d)) (hp : plainK kvs = true := by first | assumption | rfl | simp) : getP (.dict kvs) k d C := ⟨hp, hk, h⟩
theorem lz_t {xs ys : List PyData} (hl : xs.length = ys.length) (h : C (.list (zipL xs ys))) : lzP (.tuple xs) (.tuple ys) C := ⟨hl, h⟩
theorem ix_d {kvs : List (PyData × PyData)} {k : PyData} (hk : isKey k = true) (e : lookD kvs k = some x) (h : C x) (hp : plainK kvs = true := by first | assumption | rfl | simp) : ixP (.dict kvs) k C := by
  have g : plainK kvs = true ∧ isKey k = true ∧ (match lookD kvs k with
    | some x => C x
    | none => False) := by
    rw [e]
    exact ⟨hp, hk, h⟩
  cases k <;> exact g
theorem o_ind {kvs : List (PyData × PyData)} {k : PyData} (hk : isKey k = true) (h : Z (lookD kvs k).isSome) (hp : plainK kvs = true := by first | assumption | rfl | simp) : cmpP .isin k (.dict kvs) Z := by
  have g : plainK kvs = true ∧ isKey k = true ∧ Z (lookD kvs k).isSome := ⟨hp, hk, h⟩
  cases k <;> exact g
theorem o_nind {kvs : List (PyData × PyData)} {k : PyData} (hk : isKey k = true) (h : Z (!(lookD kvs k).isSome)) (hp : plainK kvs = true := by first | assumption | rfl | simp) : cmpP .notin k (.dict kvs) Z := by
  have g : plainK kvs = true ∧ isKey k = true ∧ Z (!(lookD kvs k).isSome) := ⟨hp, hk, h⟩
  cases k <;> exact g
theorem f_sortd {kvs : List (PyData × PyData)} {ns : List Int} (e : intsOf (kvs.map (·.1)) = some ns) (hl : ns.length < 64) (h : C (.list ((sortI ns).map .int))) : bfP .sorted (.dict kvs) C := by
  show (match intsOf (kvs.map (·.1)) with
    | some ns => ns.length < 64 ∧ C (.list ((sortI ns).map .int))
    | none => False)
  rw [e]
  exact ⟨hl, h⟩
theorem f_dicl {xs : List PyData} {ps : List (PyData × PyData)} (e : pairsOf xs = some ps) (h : C (.dict (mergeD ps))) : bfP .dict (.list xs) C := by
  show (match pairsOf xs with
    | some ps => C (.dict (mergeD ps))
    | none => False)
  rw [e]
  exact h
theorem f_dicd {kvs : List (PyData × PyData)} (h : C (.dict kvs)) (hp : plainK kvs = true := by first | assumption | rfl | simp) : bfP .dict (.dict kvs) C := ⟨hp, h⟩
theorem asD_d {kvs : List (PyData × PyData)} {D : List (PyData × PyData) → Prop} (h : D kvs) : asD (.dict kvs) D := h
theorem sto_d {a : Addr} {kvs : List (PyData × PyData)} {D : Addr → List (PyData × PyData) → Prop} (e : S a = some (.dic kvs)) (h : D a kvs) : stoD (.r a) S D := by
  unfold stoD
  dsimp only
  rw [e]
  exact h
theorem isn_n {neg : Bool} (h : Z (!neg)) : isP neg .none .none Z := h
theorem e_rv {all : Bool} {a : Ex} {Q : PV → VE → Sto → Prop} (h : wpX a (wpE Φ E a) ρ S fun x ρ1 S1 => con ρ1 S1 x fun d => rvP all d fun r => Q (.d r) ρ1 S1) : wpE Φ E (.rv all a) ρ S Q := h
theorem rv_l0 {xs : List PyData} (h : C (.list xs.tail.reverse)) : rvP false (.list xs) C := h
theorem rv_l1 {xs : List PyData} (h : C (.list xs.reverse)) : rvP true (.list xs) C := h
theorem rv_t0 {xs : List PyData} (h : C (.tuple xs.tail.reverse)) : rvP false (.tuple xs) C := h
theorem rv_t1 {xs : List PyData} (h : C (.tuple xs.reverse)) : rvP true (.tuple xs) C := h
theorem e_catS {a b : Ex} {Q : PV → VE → Sto → Prop} (h : wpX a (wpE Φ E a) ρ S fun x ρ1 S1 => wpX b (wpE Φ E b) ρ1 S1 fun y ρ2 S2 => con ρ2 S2 x fun d => con ρ2 S2 y fun e => catP d e fun xs => ∀ a, S2 a = none → Q (.r a) ρ2 (sput S2 a (.lst xs))) : wpE Φ E (.catS a b) ρ S Q := h
theorem gd_cat {x y : PyData} {C : List PyData → Prop} (h : catP x y C) : catP x y C := h
theorem cat_l {xs ys : List PyData} {C : List PyData → Prop} (z : xs.length + ys.length ≤ sizeLine) (h : C (xs ++ ys)) : catP (.list xs) (.list ys) C := ⟨z, h⟩
theorem take_new {a : Addr} {xs : List PyData} {F : Lo → VE → Sto → Prop} (s : S a = none) (h : F (.ol xs) ρ S) : ∃ p ys, PV.r a = .r p ∧ S p = none ∧ sput S a (.lst xs) p = some (.lst ys) ∧ F (.ol ys) ρ (sdel (sput S a (.lst xs)) p) := ⟨a, xs, rfl, s, sput_same, by rw [sdel_sput s]; exact h⟩
theorem e_mkE {k : Str} {Q : PV → VE → Sto → Prop} (h : wpE Φ E a ρ S fun _ ρ1 S1 => Q (.d (errD k [])) ρ1 S1) : wpE Φ E (.mkE k a) ρ S Q := h
theorem e_mkI {k : Ik} {as : List Ex} {Q : PV → VE → Sto → Prop} (h : wpAs Φ E as ρ S fun vs ρ1 S1 => mkP k vs fun fs => Q (.d (errD (ikN k) fs)) ρ1 S1) : wpE Φ E (.mkI k as) ρ S Q := h
theorem e_isx {q : Xq} {Q : PV → VE → Sto → Prop} (h : wpX a (wpE Φ E a) ρ S fun x ρ1 S1 => con ρ1 S1 x fun d => isxP q d fun b => Q (.d (.bool b)) ρ1 S1) : wpE Φ E (.isx q a) ρ S Q := h
theorem e_fld {f : Str} {Q : PV → VE → Sto → Prop} (h : wpE Φ E a ρ S fun v ρ1 S1 => isD v fun d => fldP f d fun x => Q (.d x) ρ1 S1) : wpE Φ E (.fld f a) ρ S Q := h
theorem gd_isx {q : Xq} {d : PyData} {C : Bool → Prop} (h : isxP q d C) : isxP q d C := h
theorem isx_d {q : Xq} {k : Str} {fs : List (Str × PyData)} {C : Bool → Prop} (hk : errN.contains k = true) (h : C (isxB q k)) : isxP q (errD k fs) C := ⟨hk, h⟩
theorem fld_d {f k : Str} {fs : List (Str × PyData)} {x : PyData} {C : PyData → Prop} (e : lookF f (fs.map fun p => (.str p.1, p.2)) = some x) (hk : errN.contains k = true) (hf : fldN.contains f = true) (h : C x) : fldP f (errD k fs) C := by
  unfold fldP errD errK
  simp only [errOf, List.tail_cons, e]
  exact ⟨hk, hf, h⟩
theorem e_fncS {f : Bf} {a : Ex} {Q : PV → VE → Sto → Prop} (h : wpX a (wpE Φ E a) ρ S fun x ρ1 S1 => con ρ1 S1 x fun d => bfP f d fun r => asL r fun xs => ∀ a, S1 a = none → Q (.r a) ρ1 (sput S1 a (.lst xs))) : wpE Φ E (.fncS f a) ρ S Q := h
theorem e_compS {own : List (Str × Nat)} {tg : Tg} {sk : Sk} {cs : List Te} {as : List Ex} {a : Ex} {Q : PV → VE → Sto → Prop} (h : wpAs Φ E as ρ S fun vs ρ1 S1 => srcP S1 sk vs fun xs gd =>
      compW (own.map (·.2)) tg (wpTAnd Φ noE cs) (wpE Φ noE a) gd xs [] (wipeV ρ1 (own.map (·.2))) S1 fun ys ρ2 S2 => ∀ b, S2 b = none → Q (.r b) (backV ρ1 ρ2 (own.map (·.2))) (sput S2 b (.lst ys))) : wpE Φ E (.compS own tg sk as cs a) ρ S Q := h
theorem as_l {xs : List PyData} {D : List PyData → Prop} (h : D xs) : asL (.list xs) D := h
theorem f_sorted {xs : List PyData} {ns : List Int} (e : intsOf xs = some ns) (h : C (.list ((sortI ns).map .int))) : bfP .sorted (.list xs) C := by
  show (match intsOf xs with
    | some ns => C (.list ((sortI ns).map .int))
    | none => False)
  rw [e]
  exact h
theorem f_max {xs : List PyData} {ns : List Int} (e : intsOf xs = some ns) (n : ns ≠ []) (h : C (.int (maxI ns))) : bfP .max (.list xs) C := by
  show (match intsOf xs with
    | some ns => ns ≠ [] ∧ C (.int (maxI ns))
    | none => False)
  rw [e]
  exact ⟨n, h⟩
theorem f_min {xs : List PyData} {ns : List Int} (e : intsOf xs = some ns) (n : ns ≠ []) (h : C (.int (minI ns))) : bfP .min (.list xs) C := by
  show (match intsOf xs with
    | some ns => ns ≠ [] ∧ C (.int (minI ns))
    | none => False)
  rw [e]
  exact ⟨n, h⟩
theorem f_sum {xs : List PyData} {ns : List Int} (e : intsOf xs = some ns) (h : C (.int ns.sum)) : bfP .sum (.list xs) C := by
  show (match intsOf xs with
    | some ns => C (.int ns.sum)
    | none => False)
  rw [e]
  exact h
theorem intsOf_map : ∀ ns : List Int, intsOf (ns.map .int) = some ns
  | [] => rfl
  | n :: ns => by
    show (intsOf (ns.map .int)).map (n :: ·) = _
    rw [intsOf_map ns]
    rfl
theorem e_callL {fs : List Str} {a : Ex} {as : List Ex} {Q : PV → VE → Sto → Prop} (h : wpE Φ E a ρ S fun v ρ1 S1 => isD v fun d => fnP fs d fun f => wpAs Φ E as ρ1 S1 fun vs ρ2 S2 => Φ f vs S2 (fun v S3 => Q v ρ2 S3) fun x S3 => E x ρ2 S3) : wpE Φ E (.callL fs a as) ρ S Q := h
theorem fn_at {fs : List Str} {k : Int} {f : Str} {D : Str → Prop} (e : L2.atI fs k = some f) (h : D f) : fnP fs (.int k) D := by
  show (match L2.atI fs k with
    | some f => D f
    | none => False)
  rw [e]
  exact h
theorem sto_l {a : Addr} {xs : List PyData} {D : Addr → List PyData → Prop} (e : S a = some (.lst xs)) (h : D a xs) : stoL (.r a) S D := by
  unfold stoL
  dsimp only
  rw [e]
  exact h
/-! ### loops' heads -/
variable {D : List PyData → Gd → Prop}
theorem s_l {xs : List PyData} (h : D xs none) : srcP S .val [.d (.list xs)] D := h
theorem s_t {xs : List PyData} (h : D xs none) : srcP S .val [.d (.tuple xs)] D := h
theorem s_s {z : Str} (h : D (signsOf z) none) : srcP S .val [.d (.str z)] D := h
theorem s_dk {kvs : List (PyData × PyData)} (h : D (kvs.map (·.1)) none) (hp : plainK kvs = true := by first | assumption | rfl | simp) : srcP S .val [.d (.dict kvs)] D := ⟨hp, h⟩
theorem s_diN {kvs : List (PyData × PyData)} (h : D (kvs.map fun p => .tuple [p.1, p.2]) none) (hp : plainK kvs = true := by first | assumption | rfl | simp) : srcP S .itemsN [.d (.dict kvs)] D := ⟨hp, h⟩
theorem s_di {kvs : List (PyData × PyData)} (h : D (kvs.map fun p => .tuple [p.1, p.2]) none) (hp : plainK kvs = true := by first | assumption | rfl | simp) : srcP S .items [.d (.dict kvs)] D := ⟨hp, h⟩
theorem s_dv {kvs : List (PyData × PyData)} (h : D (kvs.map (·.2)) none) (hp : plainK kvs = true := by first | assumption | rfl | simp) : srcP S .values [.d (.dict kvs)] D := ⟨hp, h⟩
theorem s_zt {xs ys : List PyData} (hl : xs.length = ys.length) (h : D (zipL xs ys) none) : srcP S .zip [.d (.tuple xs), .d (.tuple ys)] D := ⟨hl, h⟩
theorem s_zl {xs ys : List PyData} (hl : xs.length = ys.length) (h : D (zipL xs ys) none) : srcP S .zip [.d (.list xs), .d (.list ys)] D := ⟨hl, h⟩
theorem s_r1 {n : Int} (z : inRg n) (h : D (rangeL 0 n) none) : srcP S .rng [.d (.int n)] D := ⟨z, h⟩
theorem s_r2 {m n : Int} (z1 : inRg m) (z2 : inRg n) (h : D (rangeL m n) none) : srcP S .rng [.d (.int m), .d (.int n)] D := ⟨z1, z2, h⟩
theorem s_rC {m n : Int} (z1 : inRg m) (z2 : inRg n) (h : D (rangeD m n) none) : srcP S .rngC [.d (.int m), .d (.int n), .d (.int (-1))] D := ⟨rfl, z1, z2, h⟩
theorem s_el {xs : List PyData} (h : D (enumL xs) none) : srcP S .enum [.d (.list xs)] D := h
theorem s_et {xs : List PyData} (h : D (enumL xs) none) : srcP S .enum [.d (.tuple xs)] D := h
theorem tg_nm {W : VE → Prop} (h : W (ρ.set i (some (.v (.d x))))) : tgP ρ (.nm i) x W := h
theorem tg_2 {W : VE → Prop} {j : Nat} (h : W ((ρ.set i (some (.v (.d x)))).set j (some (.v (.d y))))) : tgP ρ (.tup [i, j]) (.tuple [x, y]) W := h
/-! ### statements -/
variable {nx : VE → Sto → Prop} {rt : PV → Sto → Prop} {bk ct : VE → Sto → Prop} {ex : EK} {s : Sm} {ss : List Sm} {r r2 : Rh} {e : Ex}
variable {AG : Int → Prop} in
theorem ag_add {m n : Int} (h : AG (m + n)) : augP .add m (.int n) AG := h
variable {AG : Int → Prop} in
theorem ag_sub {m n : Int} (h : AG (m - n)) : augP .sub m (.int n) AG := h
theorem ss_nil (h : nx ρ S) : wpSs Φ [] ρ S ⟨nx, rt, bk, ct, ex⟩ := h
theorem ss_one (h : wpS Φ s ρ S ⟨fun ρ1 S1 => wpSs Φ ss ρ1 S1 ⟨nx, rt, bk, ct, ex⟩, rt, bk, ct, ex⟩) : wpSs Φ (s :: ss) ρ S ⟨nx, rt, bk, ct, ex⟩ := h
variable {F : Lo → VE → Sto → Prop}
theorem r_val (h : wpE Φ E e ρ S fun v ρ1 S1 => F (.v v) ρ1 S1) : wpR Φ E (.val e) ρ S F := h
theorem r_disp (h : wpIs Φ E ms ρ S fun ds ρ1 S1 => ds.length ≤ sizeLine ∧ F (.ol ds) ρ1 S1) : wpR Φ E (.disp ms) ρ S F := h
theorem r_take {a : Ex} {F : Lo → VE → Sto → Prop} (h : wpE Φ E a ρ S fun v ρ1 S1 => ∃ p xs, v = .r p ∧ S p = none ∧ S1 p = some (.lst xs) ∧ F (.ol xs) ρ1 (sdel S1 p)) : wpR Φ E (.take a) ρ S F := h
theorem r_edic (h : F (.od []) ρ S) : wpR Φ E .edic ρ S F := h
theorem r_dct (h : wpX e (wpE Φ E e) ρ S fun x ρ1 S1 => con ρ1 S1 x fun d => bfP .dict d fun r => asD r fun kvs => F (.od kvs) ρ1 S1) : wpR Φ E (.dct e) ρ S F := h
theorem r_comp {own : List (Str × Nat)} {tg : Tg} {sk : Sk} {cs : List Te} (h : wpAs Φ E as ρ S fun vs ρ1 S1 => srcP S1 sk vs fun xs gd =>
      compW (own.map (·.2)) tg (wpTAnd Φ noE cs) (wpE Φ noE a) gd xs [] (wipeV ρ1 (own.map (·.2))) S1 fun ys ρ2 S2 => F (.ol ys) (backV ρ1 ρ2 (own.map (·.2))) S2) : wpR Φ E (.comp own tg sk as cs a) ρ S F := h
theorem s_asg (h : wpR Φ ex r ρ S fun l ρ1 S1 => nx (ρ1.set i (some l)) S1) : wpS Φ (.asg i r) ρ S ⟨nx, rt, bk, ct, ex⟩ := h
theorem s_par {j : Nat} (h : wpR Φ ex r ρ S fun l ρ1 S1 => wpR Φ ex r2 ρ1 S1 fun l' ρ2 S2 => nx ((ρ2.set i (some l)).set j (some l')) S2) : wpS Φ (.par i j r r2) ρ S ⟨nx, rt, bk, ct, ex⟩ := h
theorem s_unp {is : List Nat} (h : wpE Φ ex e ρ S fun v ρ1 S1 => isD v fun d => tgP ρ1 (.tup is) d fun ρ2 => nx ρ2 S1) : wpS Φ (.unpack is e) ρ S ⟨nx, rt, bk, ct, ex⟩ := h
theorem s_asgE {i : Nat} {own : List (Str × Nat)} {tg : Tg} {sk : Sk} {cs : List Te} (h : wpAs Φ ex as ρ S fun vs ρ1 S1 => srcP S1 sk vs fun xs gd =>
      compW (own.map (·.2)) tg (wpTAnd Φ noE cs) (wpE Φ (fun x ρe Se => ex x (backV ρ1 (wipeV ρe (own.map (·.2))) (own.map (·.2))) Se) e) gd xs [] (wipeV ρ1 (own.map (·.2))) S1 fun ys ρ2 S2 => nx ((backV ρ1 ρ2 (own.map (·.2))).set i (some (.ol ys))) S2) : wpS Φ (.asgE i own tg sk as cs e) ρ S ⟨nx, rt, bk, ct, ex⟩ := h
theorem s_unpL {is : List Nat} (h : wpE Φ ex e ρ S fun v ρ1 S1 => isD v fun d => asL d fun xs => tgP ρ1 (.tup is) (.tuple xs) fun ρ2 => nx ρ2 S1) : wpS Φ (.unpackL is e) ρ S ⟨nx, rt, bk, ct, ex⟩ := h
theorem s_ret (h : wpE Φ ex e ρ S fun v _ S1 => rt v S1) : wpS Φ (.ret e) ρ S ⟨nx, rt, bk, ct, ex⟩ := h
theorem s_retN (h : rt (.d .none) S) : wpS Φ .retN ρ S ⟨nx, rt, bk, ct, ex⟩ := h
theorem s_expr (h : wpE Φ ex e ρ S fun _ ρ1 S1 => nx ρ1 S1) : wpS Φ (.expr e) ρ S ⟨nx, rt, bk, ct, ex⟩ := h
theorem s_if {b1 b2 : List Sm} (h : wpT Φ ex t ρ S fun k ρ1 S1 => if k = true then wpSs Φ b1 ρ1 S1 ⟨nx, rt, bk, ct, ex⟩ else wpSs Φ b2 ρ1 S1 ⟨nx, rt, bk, ct, ex⟩) : wpS Φ (.ifs t b1 b2) ρ S ⟨nx, rt, bk, ct, ex⟩ := h
theorem s_for {tg : Tg} {sk : Sk} {b1 : List Sm} (h : wpAs Φ ex as ρ S fun vs ρ1 S1 => srcP S1 sk vs fun xs gd => forW tg (wpSs Φ b1) gd xs ρ1 S1 ⟨nx, rt, bk, ct, ex⟩) : wpS Φ (.forS tg sk as b1) ρ S ⟨nx, rt, bk, ct, ex⟩ := h
theorem s_aug {op : Bop} {k : Int} (e0 : ρ[i]? = some (some (.v (.d (.int k))))) (h : wpE Φ ex e ρ S fun v ρ1 S1 => isD v fun y => augP op k y fun r => nx (ρ1.set i (some (.v (.d (.int r))))) S1) : wpS Φ (.aug i op e) ρ S ⟨nx, rt, bk, ct, ex⟩ := by
  show intAt ρ i fun x => _
  unfold intAt
  rw [e0]
  exact h
theorem s_app {xs : List PyData} (e0 : ρ[i]? = some (some (.ol xs))) (h : wpE Φ ex e ρ S fun v ρ1 S1 => isD v fun x => grow ρ1 i [x] fun ρ2 => nx ρ2 S1) : wpS Φ (.app i e) ρ S ⟨nx, rt, bk, ct, ex⟩ := ⟨⟨xs, e0⟩, h⟩
theorem s_ext {xs : List PyData} (e0 : ρ[i]? = some (some (.ol xs))) (h : wpX e (wpE Φ ex e) ρ S fun v ρ1 S1 => con ρ1 S1 v fun d => itemsP d fun ys => grow ρ1 i ys fun ρ2 => nx ρ2 S1) : wpS Φ (.ext i e) ρ S ⟨nx, rt, bk, ct, ex⟩ := ⟨⟨xs, e0⟩, h⟩
theorem g_grow {xs ys : List PyData} {W : VE → Prop} (e0 : ρ[i]? = some (some (.ol xs))) (z : xs.length + ys.length ≤ sizeLine) (h : W (ρ.set i (some (.ol (xs ++ ys))))) : grow ρ i ys W := by
  unfold grow
  rw [e0]
  exact ⟨z, h⟩
theorem s_set (h : wpE Φ ex e ρ S fun v ρ1 S1 => isD v fun x => wpX a (wpE Φ ex a) ρ1 S1 fun o ρ2 S2 => wpE Φ ex b ρ2 S2 fun k ρ3 S3 => isD k fun k => setW k x o ρ3 S3 nx) : wpS Φ (.setI a b e) ρ S ⟨nx, rt, bk, ct, ex⟩ := h
theorem w_ol {xs : List PyData} {k : Int} {j : Nat} {W : VE → Sto → Prop} (e0 : ρ[i]? = some (some (.ol xs))) (z : L2.ixN xs.length k = some j) (h : W (ρ.set i (some (.ol (xs.set j x)))) S) : setW (.int k) x (.late i) ρ S W := by
  unfold setW
  dsimp only
  rw [e0]
  show setAt xs (.int k) x _
  unfold setAt
  dsimp only
  rw [z]
  exact h
theorem w_od {xs : List (PyData × PyData)} {W : VE → Sto → Prop} {k : PyData} (e0 : ρ[i]? = some (some (.od xs))) (hk : isKey k = true) (z : xs.length < 1000000) (h : W (ρ.set i (some (.od (putD xs k x)))) S) : setW k x (.late i) ρ S W := by
  unfold setW
  dsimp only
  rw [e0]
  exact .inl ⟨hk, z, h⟩
theorem w_odd {xs : List (PyData × PyData)} {W : VE → Sto → Prop} {k : PyData} (e0 : ρ[i]? = some (some (.od xs))) (hk : oddB k xs = true) (z : xs.length < 1000000) (h : W (ρ.set i (some (.v (.d (.dict (xs ++ [(k, x)])))))) S) : setW k x (.late i) ρ S W := by
  unfold setW
  dsimp only
  rw [e0]
  exact .inr ⟨hk, z, h⟩
theorem w_r {xs : List PyData} {k : Int} {j : Nat} {q : Addr} {W : VE → Sto → Prop} (e0 : ρ[i]? = some (some (.v (.r q)))) (s0 : S q = some (.lst xs)) (z : L2.ixN xs.length k = some j) (h : W ρ (sput S q (.lst (xs.set j x)))) : setW (.int k) x (.late i) ρ S W := by
  unfold setW
  dsimp only
  rw [e0]
  show setPV (.int k) x (.r q) S _
  unfold setPV
  dsimp only
  rw [s0]
  show setAt xs (.int k) x _
  unfold setAt
  dsimp only
  rw [z]
  exact h
theorem s_clrD (h : wpE Φ ex e ρ S fun v ρ1 S1 => stoD v S1 fun a _ => nx ρ1 (sput S1 a (.dic []))) : wpS Φ (.clrD e) ρ S ⟨nx, rt, bk, ct, ex⟩ := h
theorem s_clrE (h : wpE Φ ex e ρ S fun v ρ1 S1 => stoL v S1 fun a _ => nx ρ1 (sput S1 a (.lst []))) : wpS Φ (.clrE e) ρ S ⟨nx, rt, bk, ct, ex⟩ := h
theorem s_appE (h : wpE Φ ex a ρ S fun v ρ1 S1 => stoL v S1 fun a _ => wpE Φ ex e ρ1 S1 fun u ρ2 S2 => isD u fun x => stoL (.r a) S2 fun _ xs => xs.length < sizeLine ∧ nx ρ2 (sput S2 a (.lst (xs ++ [x])))) : wpS Φ (.appE a e) ρ S ⟨nx, rt, bk, ct, ex⟩ := h
theorem s_rai {cl : Str} (h : ex ⟨cl, []⟩ ρ S) : wpS Φ (.raiseT cl) ρ S ⟨nx, rt, bk, ct, ex⟩ := h
theorem s_try {b1 : List Sm} {hs : List Hd} (h : wpSs Φ b1 ρ S ⟨nx, rt, bk, ct, fun x ρ1 S1 => hdW ⟨nx, rt, bk, ct, ex⟩ hs x ρ1 S1⟩) : wpS Φ (.tryS b1 hs) ρ S ⟨nx, rt, bk, ct, ex⟩ := h
theorem hd_hit {cl : Str} {i j : Nat} {k : PyData} {hs : List Hd} {fs : List (Str × PyData)} (h : nx (((ρ.set i none).set j (some (.v (.d k)))).set i none) S) : hdW ⟨nx, rt, bk, ct, ex⟩ (⟨cl, i, j, some k, none⟩ :: hs) ⟨cl, fs⟩ ρ S := by
  show (if cl = cl then _ else _)
  rw [if_pos rfl]
  exact h
theorem hd_fld {cl f : Str} {i j : Nat} {k : Option PyData} {d : PyData} {hs : List Hd} {fs : List (Str × PyData)} (hi : i < ρ.length) (e : fs.lookup f = some d) (h : nx (((ρ.set i none).set j (some (.v (.d d)))).set i none) S) : hdW ⟨nx, rt, bk, ct, ex⟩ (⟨cl, i, j, k, some f⟩ :: hs) ⟨cl, fs⟩ ρ S := by
  show (if cl = cl then _ else _)
  rw [if_pos rfl]
  refine ⟨hi, ?_⟩
  dsimp only
  rw [e]
  exact h
theorem s_raiL {cl : Str} {e : Ex} (h : wpE Φ ex e ρ S fun v ρ1 S1 => isD v fun x => ∃ k : Int, x = .int k ∧ k.natAbs.log2 < 1920 ∧ (toString k : Str).length ≤ 1000 ∧ ex ⟨cl, [(("limit" : Str), .int k)]⟩ ρ1 S1) : wpS Φ (.raiseL cl e) ρ S ⟨nx, rt, bk, ct, ex⟩ := h
theorem hd_miss {cl cl2 : Str} {i j : Nat} {k : Option PyData} {ff : Option Str} {hs : List Hd} {fs : List (Str × PyData)} (n : cl2 ≠ cl) (h : hdW ⟨nx, rt, bk, ct, ex⟩ hs ⟨cl2, fs⟩ ρ S) : hdW ⟨nx, rt, bk, ct, ex⟩ (⟨cl, i, j, k, ff⟩ :: hs) ⟨cl2, fs⟩ ρ S := by
  show (if cl2 = cl then _ else _)
  rw [if_neg n]
  exact h
theorem s_brk (h : bk ρ S) : wpS Φ .brk ρ S ⟨nx, rt, bk, ct, ex⟩ := h
theorem s_cont (h : ct ρ S) : wpS Φ .cont ρ S ⟨nx, rt, bk, ct, ex⟩ := h
theorem s_pass (h : nx ρ S) : wpS Φ .pass ρ S ⟨nx, rt, bk, ct, ex⟩ := h
theorem for_nil {tg : Tg} {wb : WS} (h : nx ρ S) : forW tg wb none [] ρ S ⟨nx, rt, bk, ct, ex⟩ := ⟨trivial, h⟩
theorem for_cons {tg : Tg} {wb : WS} {xs : List PyData} (h : tgP ρ tg x fun ρ1 => wb ρ1 S ⟨fun ρ2 S2 => forW tg wb none xs ρ2 S2 ⟨nx, rt, bk, ct, ex⟩, rt, nx, fun ρ2 S2 => forW tg wb none xs ρ2 S2 ⟨nx, rt, bk, ct, ex⟩, ex⟩) : forW tg wb none (x :: xs) ρ S ⟨nx, rt, bk, ct, ex⟩ := ⟨trivial, h⟩
end
/-! ### loops by a word of what is left -/
/-- a for: I stands ahead of each turn, told of what is left; N: what the turn is to reach -/
theorem for_by {tg : Tg} {wb : WS} {nx : VE → Sto → Prop} {rt : PV → Sto → Prop} {bk ct : VE → Sto → Prop} {ex : EK} (I : List PyData → VE → Sto → Prop) (hd : ∀ ρ S, I [] ρ S → nx ρ S)
    (hs : ∀ x xs ρ S (N : VE → Sto → Prop), (∀ ρ S, I xs ρ S → N ρ S) → I (x :: xs) ρ S → tgP ρ tg x fun ρ1 => wb ρ1 S ⟨N, rt, nx, N, ex⟩) :
    ∀ (xs : List PyData) (ρ : VE) (S : Sto), I xs ρ S → forW tg wb none xs ρ S ⟨nx, rt, bk, ct, ex⟩
  | [], ρ, S, h => ⟨trivial, hd ρ S h⟩
  | x :: xs, ρ, S, h => ⟨trivial, hs x xs ρ S _ (fun ρ S h => for_by I hd hs xs ρ S h) h⟩
/-- the same over a place of the store -/
theorem for_byS {tg : Tg} {wb : WS} {nx : VE → Sto → Prop} {rt : PV → Sto → Prop} {bk ct : VE → Sto → Prop} {ex : EK} {gd : Gd} (I : List PyData → VE → Sto → Prop) (hg : ∀ xs ρ S, I xs ρ S → Gd.ok S gd) (hd : ∀ ρ S, I [] ρ S → nx ρ S)
    (hs : ∀ x xs ρ S (N : VE → Sto → Prop), (∀ ρ S, I xs ρ S → N ρ S) → I (x :: xs) ρ S → tgP ρ tg x fun ρ1 => wb ρ1 S ⟨N, rt, nx, N, ex⟩) :
    ∀ (xs : List PyData) (ρ : VE) (S : Sto), I xs ρ S → forW tg wb gd xs ρ S ⟨nx, rt, bk, ct, ex⟩
  | [], ρ, S, h => ⟨hg [] ρ S h, hd ρ S h⟩
  | x :: xs, ρ, S, h => ⟨hg _ ρ S h, hs x xs ρ S _ (fun ρ S h => for_byS I hg hd hs xs ρ S h) h⟩
theorem comp_by {own : List Nat} {tg : Tg} {wc : WT} {we : WE} {Q : List PyData → VE → Sto → Prop} (I : List PyData → List PyData → VE → Sto → Prop) (hd : ∀ acc ρ S, I [] acc ρ S → Q acc ρ S)
    (hs : ∀ x xs acc ρ S (N : List PyData → VE → Sto → Prop), (∀ acc ρ S, I xs acc ρ S → N acc ρ S) → I (x :: xs) acc ρ S → acc.length < sizeLine ∧ tgP ρ tg x fun ρ1 => wc ρ1 S fun b ρ2 S2 => if b = true then
      we ρ2 S2 fun v ρ3 S3 => isD v fun y => N (acc ++ [y]) (wipeV ρ3 own) S3 else N acc (wipeV ρ2 own) S2) :
    ∀ (xs acc : List PyData) (ρ : VE) (S : Sto), I xs acc ρ S → compW own tg wc we none xs acc ρ S Q
  | [], acc, ρ, S, h => ⟨trivial, hd acc ρ S h⟩
  | x :: xs, acc, ρ, S, h => by
    obtain ⟨h1, h2⟩ := hs x xs acc ρ S (fun acc ρ S => compW own tg wc we none xs acc ρ S Q) (fun acc ρ S h => comp_by I hd hs xs acc ρ S h) h
    exact ⟨trivial, h1, h2⟩
/-- a comprehension that changes nothing: p, f tell what it keeps, what it makes -/
theorem comp_mf {own : List Nat} {tg : Tg} {wc : WT} {we : WE} {Q : List PyData → VE → Sto → Prop} {ρ : VE} {S : Sto} (p : PyData → Bool) (f : PyData → PyData) (xs : List PyData) (hl : xs.length ≤ sizeLine)
    (hs : ∀ x, x ∈ xs → ∀ (N : List PyData → VE → Sto → Prop) (acc : List PyData), N (if p x = true then acc ++ [f x] else acc) ρ S → tgP ρ tg x fun ρ1 => wc ρ1 S fun b ρ2 S2 => if b = true then
      we ρ2 S2 fun v ρ3 S3 => isD v fun y => N (acc ++ [y]) (wipeV ρ3 own) S3 else N acc (wipeV ρ2 own) S2) (hd : Q ((xs.filter p).map f) ρ S) : compW own tg wc we none xs [] ρ S Q := by
  refine comp_by (fun ys acc ρ' S' => ρ' = ρ ∧ S' = S ∧ ∃ zs, xs = zs ++ ys ∧ acc = (zs.filter p).map f) (fun acc ρ' S' h => ?_) (fun x ys acc ρ' S' N k h => ?_) xs [] ρ S ⟨rfl, rfl, [], rfl, rfl⟩
  · obtain ⟨rfl, rfl, zs, e, rfl⟩ := h
    rw [List.append_nil] at e
    rw [← e]
    exact hd
  · obtain ⟨rfl, rfl, zs, e, rfl⟩ := h
    refine ⟨?_, hs x (by rw [e]; simp) N _ (k _ _ _ ⟨rfl, rfl, zs ++ [x], by rw [e]; simp, ?_⟩)⟩
    · have h1 := List.length_filter_le p zs
      have h2 : xs.length = zs.length + (ys.length + 1) := by rw [e]; simp
      rw [List.length_map]
      omega
    · rw [List.filter_append, List.map_append]
      cases q : p x with
      | true => simp [q]
      | false => simp [q]
/-- a comprehension of two sources -/
theorem comp2_by {own own1 : List Nat} {tg tg1 : Tg} {wc wc1 : WT} {we : WE} {src1 : VE → Sto → (List PyData → Gd → VE → Sto → Prop) → Prop} {Q : List PyData → VE → Sto → Prop} (I : List PyData → List PyData → VE → Sto → Prop) (hd : ∀ acc ρ S, I [] acc ρ S → Q acc ρ S)
    (hs : ∀ x xs acc ρ S (N : List PyData → VE → Sto → Prop), (∀ acc ρ S, I xs acc ρ S → N acc ρ S) → I (x :: xs) acc ρ S → tgP ρ tg x fun ρ1 => wc ρ1 S fun b ρ2 S2 => if b = true then
      src1 ρ2 S2 fun ys gd1 ρ3 S3 => compW own1 tg1 wc1 we gd1 ys acc (wipeV ρ3 own1) S3 fun acc' ρ4 S4 => N acc' (wipeV ρ4 own) S4 else N acc (wipeV ρ2 own) S2) :
    ∀ (xs acc : List PyData) (ρ : VE) (S : Sto), I xs acc ρ S → comp2W own tg wc src1 own1 tg1 wc1 we none xs acc ρ S Q
  | [], acc, ρ, S, h => ⟨trivial, hd acc ρ S h⟩
  | x :: xs, acc, ρ, S, h => ⟨trivial, hs x xs acc ρ S (fun acc ρ S => comp2W own tg wc src1 own1 tg1 wc1 we none xs acc ρ S Q) (fun acc ρ S h => comp2_by I hd hs xs acc ρ S h) h⟩
/-- a dict comprehension -/
theorem dcomp_by {own : List Nat} {tg : Tg} {wc : WT} {wk wv : WE} {Q : List (PyData × PyData) → VE → Sto → Prop} (I : List PyData → List (PyData × PyData) → VE → Sto → Prop) (hd : ∀ acc ρ S, I [] acc ρ S → Q acc ρ S)
    (hs : ∀ x xs acc ρ S (N : List (PyData × PyData) → VE → Sto → Prop), (∀ acc ρ S, I xs acc ρ S → N acc ρ S) → I (x :: xs) acc ρ S → acc.length < sizeLine ∧ tgP ρ tg x fun ρ1 => wc ρ1 S fun b ρ2 S2 => if b = true then
      wk ρ2 S2 fun u ρ3 S3 => isD u fun k => isKey k = true ∧ wv ρ3 S3 fun v ρ4 S4 => isD v fun y => N (putD acc k y) (wipeV ρ4 own) S4 else N acc (wipeV ρ2 own) S2) :
    ∀ (xs : List PyData) (acc : List (PyData × PyData)) (ρ : VE) (S : Sto), I xs acc ρ S → dcompW own tg wc wk wv none xs acc ρ S Q
  | [], acc, ρ, S, h => ⟨trivial, hd acc ρ S h⟩
  | x :: xs, acc, ρ, S, h => by
    obtain ⟨h1, h2⟩ := hs x xs acc ρ S (fun acc ρ S => dcompW own tg wc wk wv none xs acc ρ S Q) (fun acc ρ S h => dcomp_by I hd hs xs acc ρ S h) h
    exact ⟨trivial, h1, h2⟩
theorem s_while {Φ : Phi} {t : Te} {b : List Sm} {ρ : VE} {S : Sto} {nx : VE → Sto → Prop} {rt : PV → Sto → Prop} {bk ct : VE → Sto → Prop} {ex : EK} (I : Nat → VE → Sto → Prop) (n : Nat) (h0 : I n ρ S)
    (hs : ∀ n ρ S, I n ρ S → wpT Φ ex t ρ S fun k ρ1 S1 => if k = true then wpSs Φ b ρ1 S1 ⟨fun ρ2 S2 => ∃ m, m < n ∧ I m ρ2 S2, rt, nx, fun ρ2 S2 => ∃ m, m < n ∧ I m ρ2 S2, ex⟩ else nx ρ1 S1) : wpS Φ (.whileS t b) ρ S ⟨nx, rt, bk, ct, ex⟩ := ⟨I, ⟨n, h0⟩, hs⟩
/-- a call entered -/
theorem call_in {T : Str → Option Dfn} {n : Nat} {f : Str} {d : Dfn} {vs : List PV} {S : Sto} {Q : PV → Sto → Prop} {E : Exc → Sto → Prop} (hd : T f = some d) (hl : vs.length = d.ps)
    (h : wpSs (callW T n) d.body (startV d vs) S { nx := fun _ S' => Q (.d .none) S', rt := Q, ex := fun x _ S' => E x S' }) : callW T (n + 1) f vs S Q E := by
  show (match T f with
    | some d => vs.length = d.ps ∧ wpSs (callW T n) d.body (startV d vs) S { nx := fun _ S' => Q (.d .none) S', rt := Q, ex := fun x _ S' => E x S' }
    | none => False)
  rw [hd]
  exact ⟨hl, h⟩
end Lk
/-! P1: plain laws of data: equality with nothing, sizes, texts. -/
namespace Lk
open PySem
/-! ### equality -/
theorem eqvAll_nil : ∀ xs : List PyData, PyData.eqvAll xs [] = xs.isEmpty
  | [] => by simp [PyData.eqvAll]
  | _ :: _ => by simp [PyData.eqvAll]
theorem eqO_lnil (xs : List PyData) : eqO (.list xs) (.list []) = some xs.isEmpty := by
  unfold eqO
  split
  · simp only [PyData.eqv, eqvAll_nil]
  · rename_i h
    cases xs with
    | nil => exact absurd ⟨by simp [PyData.canLay0, PyData.canLayAll0], by simp [PyData.canLay0, PyData.canLayAll0], by simp [PyData.depth, PyData.depthAll]⟩ h
    | cons x xs => simp
theorem eqO_tnil (xs : List PyData) : eqO (.tuple xs) (.tuple []) = some xs.isEmpty := by
  unfold eqO
  split
  · simp only [PyData.eqv, eqvAll_nil]
  · rename_i h
    cases xs with
    | nil => exact absurd ⟨by simp [PyData.canLay0, PyData.canLayAll0], by simp [PyData.canLay0, PyData.canLayAll0], by simp [PyData.depth, PyData.depthAll]⟩ h
    | cons x xs => rfl
theorem eqO_str (x y : Str) : eqO (.str x) (.str y) = some (x == y) := by
  unfold eqO
  split
  · simp [PyData.eqv]
  · simp [PyData.eqv]
/-! ### sizes: vol bounds the text, the texts within, the number of parts -/
mutual
def vol : PyData → Nat
  | .none => 20
  | .bool _ => 20
  | .int i => (toString i : Str).length + 20 + (if i.natAbs.log2 < 1920 then 0 else 2 ^ 40)
  | .str x => x.length + (reprText x).length + 20
  | .list xs => 20 + volAll xs
  | .tuple xs => 20 + volAll xs
  | .dict kvs => if kvs.isEmpty then 20 else 2 ^ 40
def volAll : List PyData → Nat
  | [] => 0
  | x :: xs => vol x + volAll xs
end
theorem vol_ge : ∀ d : PyData, 20 ≤ vol d
  | .none => by simp [vol]
  | .bool _ => by simp [vol]
  | .int i => by unfold vol; omega
  | .str x => by unfold vol; omega
  | .list xs => by unfold vol; omega
  | .tuple xs => by unfold vol; omega
  | .dict kvs => by unfold vol; split <;> omega
theorem volAll_append : ∀ xs ys : List PyData, volAll (xs ++ ys) = volAll xs + volAll ys
  | [], ys => by simp [volAll]
  | x :: xs, ys => by simp only [List.cons_append, volAll, volAll_append xs ys]; omega
theorem volAll_len : ∀ xs : List PyData, 20 * xs.length ≤ volAll xs
  | [] => by simp [volAll]
  | x :: xs => by
    have h1 := volAll_len xs
    have h2 := vol_ge x
    simp only [volAll, List.length_cons]
    omega
theorem volAll_mem : ∀ {xs : List PyData} {x : PyData}, x ∈ xs → vol x ≤ volAll xs
  | y :: ys, x, h => by
    simp only [volAll]
    rcases List.mem_cons.mp h with z | z
    · subst z; omega
    · have := volAll_mem z
      omega
theorem showable_vol : ∀ d : PyData, vol d < 2 ^ 40 → d.showable = true
  | .none, _ => by simp [PyData.showable]
  | .bool _, _ => by simp [PyData.showable]
  | .int i, h => by
    unfold vol at h
    simp only [PyData.showable, decide_eq_true_eq]
    split at h
    · assumption
    · omega
  | .str x, _ => by simp [PyData.showable]
  | .list xs, h => by
    simp only [PyData.showable]
    exact go xs (by unfold vol at h; omega)
  | .tuple xs, h => by
    simp only [PyData.showable]
    exact go xs (by unfold vol at h; omega)
  | .dict kvs, h => by
    unfold vol at h
    split at h
    · rename_i e
      cases kvs with
      | nil => simp [PyData.showable, PyData.showableKv]
      | cons _ _ => cases e
    · omega
where go : ∀ xs : List PyData, volAll xs < 2 ^ 40 → PyData.showableAll xs = true
  | [], _ => by simp [PyData.showableAll]
  | x :: xs, h => by
    simp only [volAll] at h
    simp only [PyData.showableAll, showable_vol x (by omega), go xs (by omega), Bool.and_self]
theorem piled_vol : ∀ xs : List PyData, (∀ x ∈ xs, x.shown.length + 10 ≤ vol x) → piled (PyData.shownAll xs) + 8 * xs.length ≤ volAll xs
  | [], _ => by simp [PyData.shownAll, piled, volAll]
  | x :: xs, h => by
    have h1 := piled_vol xs fun y hy => h y (List.mem_cons_of_mem _ hy)
    have h2 := h x List.mem_cons_self
    simp only [PyData.shownAll, volAll, List.length_cons]
    rw [piled_cons]
    omega
theorem textFrom_le : ∀ (ts : List Str) (k : Nat) (acc : Str), (textFrom k acc ts).length ≤ acc.length + piled ts
  | [], k, acc => by show acc.length ≤ _; omega
  | t :: r, k, acc => by
    have h := textFrom_le r (k + 1) (acc ++ (if k > 0 then ", " else "" : String) ++ t)
    have e : (acc ++ (if k > 0 then ", " else "" : String) ++ t).length = acc.length + (if k > 0 then 2 else 0) + t.length := by
      rw [strLen_append, strLen_append]
      split <;> rfl
    rw [e] at h
    show (textFrom (k + 1) _ r).length ≤ _
    rw [piled_cons]
    have hk : (if k > 0 then 2 else 0 : Nat) ≤ 2 := by split <;> omega
    omega
theorem shown_vol : ∀ d : PyData, vol d < 2 ^ 40 → d.shown.length + 10 ≤ vol d
  | .none, _ => by
    simp only [PyData.shown, vol]
    decide
  | .bool b, _ => by
    cases b <;> (simp only [PyData.shown, vol]; decide)
  | .int i, h => by
    simp only [PyData.shown]
    unfold vol
    omega
  | .str x, h => by
    simp only [PyData.shown]
    unfold vol
    omega
  | .list xs, h => by
    have hx : volAll xs < 2 ^ 40 := by unfold vol at h; omega
    have h1 := piled_vol xs fun x hm => shown_vol x (by have := volAll_mem hm; omega)
    simp only [PyData.shown]
    unfold vol listText
    have h2 := textFrom_le (PyData.shownAll xs) 0 "["
    rw [strLen_append]
    have e1 : (("[" : String) : Str).length = 1 := rfl
    have e2 : (("]" : String) : Str).length = 1 := rfl
    rw [e1] at h2
    rw [e2]
    omega
  | .tuple xs, h => by
    have hx : volAll xs < 2 ^ 40 := by unfold vol at h; omega
    have h1 := piled_vol xs fun x hm => shown_vol x (by have := volAll_mem hm; omega)
    simp only [PyData.shown]
    unfold vol tupleText
    rw [strLen_append, strLen_append]
    have e1 : (("(" : String) : Str).length = 1 := rfl
    have e2 : (((if (PyData.shownAll xs).length == 1 then ",)" else ")" : String)) : Str).length ≤ 2 := by
      split
      · show (2 : Nat) ≤ 2; omega
      · show (1 : Nat) ≤ 2; omega
    have e3 : (Str.join ", " (PyData.shownAll xs)).length ≤ piled (PyData.shownAll xs) := by
      by_cases z : PyData.shownAll xs = []
      · rw [z]
        exact Nat.le_refl _
      · have := join_length_add _ z
        omega
    rw [e1]
    omega
  | .dict kvs, h => by
    unfold vol at h ⊢
    split at h
    · rename_i e
      cases kvs with
      | nil =>
        simp only [PyData.shown, PyData.shownKv]
        decide
      | cons _ _ => cases e
    · omega
termination_by d => sizeOf d
decreasing_by
  all_goals
    have := List.sizeOf_lt_of_mem hm
    simp
    omega
end Lk
/-! P2: what the laws draw from the script. -/
namespace Lk
open PySem
local macro_rules
  | `(tactic| back_ro) => `(tactic| first
    | (with_reducible refine gd_E ?_; first | with_reducible refine e_kd ?_ | with_reducible refine e_gl ?_ | with_reducible refine e_var rfl ?_ | with_reducible refine e_ol rfl ?_ | with_reducible refine e_od rfl ?_ | with_reducible refine e_call ?_ | with_reducible refine e_cmp ?_ | with_reducible refine e_bin ?_ | with_reducible refine e_ix ?_ | with_reducible refine e_fnc ?_ | with_reducible refine e_tup ?_ | with_reducible refine e_lst ?_ | with_reducible refine e_lstS ?_ | with_reducible refine e_ite ?_ | with_reducible refine e_inst ?_ | with_reducible refine e_and ?_ | with_reducible refine e_or ?_ | with_reducible refine e_not ?_ | with_reducible refine e_chain ?_ | with_reducible refine e_isk ?_ | with_reducible refine e_slc ?_ | with_reducible refine e_comp ?_ | with_reducible refine e_edic ?_ | with_reducible refine e_rv ?_ | with_reducible refine e_fncS ?_ | with_reducible refine e_compS ?_ | with_reducible refine e_callL ?_ | with_reducible refine e_isB ?_ | with_reducible refine e_dgo rfl ?_ | with_reducible refine e_dgv rfl ?_ | with_reducible refine e_lzip ?_ | with_reducible refine e_dcomp ?_ | with_reducible refine e_dcompS ?_ | with_reducible refine e_join ?_ | with_reducible refine e_comp2 ?_)
    | (with_reducible refine gd_X ?_; first | with_reducible refine x_var rfl ?_ | with_reducible refine x_now rfl ?_)
    | (with_reducible refine gd_con ?_; first | with_reducible refine con_now ?_ | with_reducible refine con_v rfl ?_ | with_reducible refine con_ol rfl ?_ | with_reducible refine con_od rfl ?_ | with_reducible refine con_rl rfl sput_same ?_ | with_reducible refine con_rn sput_same ?_ | with_reducible refine con_rd rfl sput_same ?_ | with_reducible refine con_rnd sput_same ?_)
    | (with_reducible refine gd_D ?_; first | with_reducible refine d_d ?_)
    | (with_reducible refine gd_Ss ?_; first | with_reducible refine ss_nil ?_)
    | (with_reducible refine gd_S ?_; first | with_reducible refine s_asg ?_ | with_reducible refine s_if ?_ | with_reducible refine s_ret ?_ | with_reducible refine s_expr ?_ | with_reducible refine s_for ?_ | with_reducible refine s_par ?_ | with_reducible refine s_app rfl ?_ | with_reducible refine s_ext rfl ?_ | with_reducible refine s_aug rfl ?_ | with_reducible refine s_unp ?_ | with_reducible refine s_set ?_ | with_reducible refine s_retN ?_ | with_reducible refine s_brk ?_ | with_reducible refine s_cont ?_ | with_reducible refine s_pass ?_ | with_reducible refine s_clrE ?_ | with_reducible refine s_appE ?_ | with_reducible refine s_rai ?_ | with_reducible refine s_clrD ?_ | with_reducible refine s_try ?_)
    | (with_reducible refine gd_R ?_; first | with_reducible refine r_val ?_ | with_reducible refine r_disp ?_ | with_reducible refine r_edic ?_ | with_reducible refine r_comp ?_ | with_reducible refine r_dct ?_)
    | (with_reducible refine gd_As ?_; first | with_reducible refine as_one ?_ | with_reducible refine as_nil ?_)
    | (with_reducible refine gd_T ?_; first | with_reducible refine t_of ?_ | with_reducible refine t_and ?_ | with_reducible refine t_or ?_ | with_reducible refine t_not ?_)
    | (with_reducible refine gd_tru ?_; first | with_reducible refine tr_b ?_ | with_reducible refine tr_n ?_ | with_reducible refine tr_i ?_)
    | (with_reducible refine gd_ite ?_; first | with_reducible refine ite_t ?_ | with_reducible refine ite_f ?_)
    | (with_reducible refine gd_Is ?_; first | with_reducible refine is_one ?_ | with_reducible refine is_nil ?_ | with_reducible refine is_star ?_)
    | (with_reducible refine gd_bin ?_; first | with_reducible refine o_addi ?_ | with_reducible refine o_sub ?_ | with_reducible refine o_addl (by first | decide | exact Nat.le_of_ble_eq_true (by with_unfolding_all rfl)) ?_ | with_reducible refine o_addt (by first | decide | exact Nat.le_of_ble_eq_true (by with_unfolding_all rfl)) ?_)
    | (with_reducible refine gd_cmp ?_; first | with_reducible refine o_lt ?_ | with_reducible refine o_le ?_ | with_reducible refine o_gt ?_ | with_reducible refine o_ge ?_ | with_reducible refine o_inst ?_ | with_reducible refine o_ninst ?_)
    | (with_reducible refine gd_bf ?_; first | with_reducible refine f_lenl ?_ | with_reducible refine f_lent ?_ | with_reducible refine f_ll ?_ | with_reducible refine f_lt ?_ | with_reducible refine f_ld ?_ | with_reducible refine f_lend ?_ | with_reducible refine f_tl ?_ | with_reducible refine f_tt ?_ | with_reducible refine f_int ?_ | with_reducible refine f_abs ?_ | with_reducible refine f_dicd ?_)
    | (with_reducible refine gd_ix ?_; first | with_reducible refine ix_l rfl ?_ | with_reducible refine ix_t rfl ?_)
    | (with_reducible refine gd_tg ?_; first | with_reducible refine tg_nm ?_ | with_reducible refine tg_2 ?_)
    | (with_reducible refine gd_src ?_; first | with_reducible refine s_l ?_ | with_reducible refine s_t ?_ | with_reducible refine s_s ?_ | with_reducible refine s_el ?_ | with_reducible refine s_et ?_ | with_reducible refine s_dk ?_ | with_reducible refine s_di ?_ | with_reducible refine s_dv ?_)
    | (with_reducible refine gd_B ?_; first | with_reducible refine b_b ?_)
    | (with_reducible refine gd_And ?_; first | with_reducible refine and_two ?_ | with_reducible refine and_one ?_)
    | (with_reducible refine gd_Or ?_; first | with_reducible refine or_two ?_ | with_reducible refine or_one ?_)
    | (with_reducible refine gd_TA ?_; first | with_reducible refine ta_one ?_ | with_reducible refine ta_nil ?_)
    | (with_reducible refine gd_TO ?_; first | with_reducible refine to_one ?_ | with_reducible refine to_nil ?_)
    | (with_reducible refine gd_conL ?_; first | with_reducible refine conL_s rfl ?_ | with_reducible refine conL_v rfl ?_ | with_reducible refine conL_ol rfl ?_ | with_reducible refine conL_now ?_)
    | (with_reducible refine gd_slc ?_; first | with_reducible refine sl_l1 ?_ | with_reducible refine sl_l2 ?_ | with_reducible refine sl_l3 ?_ | with_reducible refine sl_l ?_ | with_reducible refine sl_t1 ?_ | with_reducible refine sl_t2 ?_ | with_reducible refine sl_t3 ?_ | with_reducible refine sl_t ?_)
    | (with_reducible refine gd_it ?_; first | with_reducible refine it_l ?_ | with_reducible refine it_t ?_)
    | (with_reducible refine gd_isP ?_; first | with_reducible refine isn_n ?_ | with_reducible refine isn_t ?_ | with_reducible refine isn_l ?_ | with_reducible refine isn_d ?_ | with_reducible refine isn_i ?_)
    | (with_reducible refine gd_isK ?_; first | with_reducible refine ik_d ?_ | with_reducible refine ik_r ?_)
    | (with_reducible refine gd_isB ?_; first | with_reducible refine ib_b ?_)
    | (with_reducible refine gd_asD ?_; first | with_reducible refine asD_d ?_)
    | (with_reducible refine gd_stoD ?_; first | with_reducible refine sto_d sput_same ?_)
    | (with_reducible refine gd_rv ?_; first | with_reducible refine rv_l0 ?_ | with_reducible refine rv_l1 ?_ | with_reducible refine rv_t0 ?_ | with_reducible refine rv_t1 ?_)
    | (with_reducible refine gd_asL ?_; first | with_reducible refine as_l ?_)
    | (with_reducible refine gd_sto ?_; first | with_reducible refine sto_l sput_same ?_)
    | (with_reducible refine gd_setW ?_; first | with_reducible refine w_r rfl sput_same rfl ?_)
    | (with_reducible refine gd_aug ?_; first | with_reducible refine ag_add ?_ | with_reducible refine ag_sub ?_)
    | with_reducible refine And.intro (by first | decide | exact Nat.le_of_ble_eq_true (by with_unfolding_all rfl)) ?_)
local macro_rules
  | `(tactic| w_up) => `(tactic| repeat back_ro)
local macro_rules
  | `(tactic| w_fin) => `(tactic| repeat (first | back_ro | with_reducible refine ss_one ?_))
local macro_rules
  | `(tactic| w_typed) => `(tactic| simp only [startV, List.map_cons, List.map_nil, List.length_cons, List.length_nil, List.replicate, List.cons_append, List.nil_append, Nat.reduceAdd, Nat.reduceSub])
def cKneaded : Dfn := ⟨"_law_kneaded", 2, ["_law_seed", "_law_lap", "_law_prime", "_law_amount", "_law_again"], [
  .asg 2 (.val (.kd (.int 2305843009213693907))),
  .asg 3 (.val (.bin .mod (.fnc .int (.bin .add (.bin .add (.bin .mul (.var 0) (.kd (.int 2862933555777941757))) (.bin .mul (.var 1) (.kd (.int 3037000493)))) (.kd (.int 29)))) (.var 2))),
  .forS (.nm 4) .rng [.kd (.int 4)] [.asg 3 (.val (.bin .mod (.fnc .int (.bin .add (.bin .add (.bin .add (.bin .mul (.var 3) (.var 3)) (.bin .mul (.kd (.int 11)) (.var 3))) (.bin .mul (.kd (.int 4099)) (.var 4))) (.var 1))) (.var 2)))],
  .ret (.bin .add (.bin .mul (.var 3) (.var 2)) (.bin .mod (.fnc .int (.bin .add (.bin .mul (.var 3) (.kd (.int 69621))) (.var 1))) (.var 2)))]⟩
def cPotOf : Dfn := ⟨"_law_pot_of", 1, ["_law_script", "_law_cells", "_law_place", "_law_cell"], [
  .asg 1 (.comp [("_law_cell", 3)] (.nm 3) .val [.slc false true (.var 0) [.kd (.int 17)]] [] (.fnc .abs (.var 3))),
  .forS (.tup [2, 3]) .enum [.slc true true (.var 0) [.kd (.int 17), .kd (.int 60)]] [.setI (.var 1) (.bin .mod (.var 2) (.kd (.int 17))) (.bin .add (.ix (.var 1) (.bin .mod (.var 2) (.kd (.int 17)))) (.fnc .abs (.var 3)))],
  .ret (.lst true [.one (.var 1), .one (.kd (.int 0)), .one (.kd (.int 0)), .one (.kd (.int 0))])]⟩
def cBelow : Dfn := ⟨"_law_below", 2, ["_law_pot", "_law_bound", "_law_found", "_law_amount", "_law_cells", "_law_place"], [
  .ifs (.of (.cmp .lt (.ix (.var 0) (.kd (.int 3))) (.var 1))) [.par 4 5 (.val (.ix (.var 0) (.kd (.int 0)))) (.val (.ix (.var 0) (.kd (.int 1)))), .asg 3 (.val (.ite (.of (.cmp .ne (.var 4) (.lst false []))) (.ix (.var 4) (.bin .mod (.var 5) (.fnc .len (.var 4)))) (.kd (.int 0)))), .ifs (.or [.of (.cmp .ge (.var 5) (.fnc .len (.var 4))), .of (.cmp .lt (.var 3) (.bin .pow (.kd (.int 10)) (.kd (.int 16))))]) [.asg 3 (.val (.call "_law_kneaded" [.bin .mod (.fnc .int (.var 3)) (.kd (.int 982451629)), .var 5]))] [], .setI (.var 0) (.kd (.int 1)) (.bin .add (.var 5) (.kd (.int 1))), .setI (.var 0) (.kd (.int 2)) (.var 3), .setI (.var 0) (.kd (.int 3)) (.var 3)] [],
  .asg 2 (.val (.bin .mod (.fnc .int (.ix (.var 0) (.kd (.int 2)))) (.var 1))),
  .setI (.var 0) (.kd (.int 2)) (.bin .fdiv (.ix (.var 0) (.kd (.int 2))) (.var 1)),
  .setI (.var 0) (.kd (.int 3)) (.bin .fdiv (.ix (.var 0) (.kd (.int 3))) (.var 1)),
  .ret (.var 2)]⟩
def cPick : Dfn := ⟨"_law_pick", 2, ["_law_pot", "_law_items"], [
  .ret (.ix (.var 1) (.call "_law_below" [.var 0, .fnc .len (.var 1)]))]⟩
structure PotT (T : Str → Option Dfn) : Prop where
  kn : T "_law_kneaded" = some cKneaded
  of : T "_law_pot_of" = some cPotOf
  below : T "_law_below" = some cBelow
/-- the store holds the pot alone -/
def PotS (a : Addr) (S : Sto) : Prop := ∃ (S0 : Sto) (cs : List Int) (p m l : Int), S = sput S0 a (.lst [.list (cs.map .int), .int p, .int m, .int l])
theorem PotS_put {a b : Addr} {S : Sto} {o : SO} (h : PotS a S) (n : S b = none) : PotS a (sput S b o) := by
  obtain ⟨S0, cs, p, m, l, rfl⟩ := h
  have hab : b ≠ a := by
    rintro rfl
    unfold sput at n
    rw [if_pos rfl] at n
    cases n
  refine ⟨sput S0 b o, cs, p, m, l, ?_⟩
  funext c
  unfold sput
  by_cases h1 : c = a
  · subst h1
    rw [if_neg fun z => hab z.symm, if_pos rfl, if_pos rfl]
  · rw [if_neg h1, if_neg h1]
section
variable {T : Str → Option Dfn} {n : Nat} {S : Sto} {Q : PV → Sto → Prop} {E : Exc → Sto → Prop}
theorem cmul_r {i j : Int} (h : -(2 ^ 64) < j ∧ j < 2 ^ 64) : L2.CMulW i j ∨ L2.CMul i j := .inr (.inr h)
theorem cmul_l {i j : Int} (h : -(2 ^ 64) < i ∧ i < 2 ^ 64) : L2.CMulW i j ∨ L2.CMul i j := .inr (.inl h)
theorem cdiv_small {i j : Int} (h : 0 < j) (h2 : j < 2 ^ 62) : L2.CDivW i j := L2.wide_div (b := 62) h (by omega) (by decide) (by decide)
theorem kneaded_ok (t : PotT T) {s l : Int} (h : ∀ r : Int, Q (.d (.int r)) S) : callW T (n + 1) "_law_kneaded" [.d (.int s), .d (.int l)] S Q E := by
  refine call_in t.kn rfl ?_
  unfold cKneaded startV
  w_fin
  refine o_mul (cmul_r (by decide)) ?_
  w_fin
  refine o_mul (cmul_r (by decide)) ?_
  w_fin
  refine o_mod (by decide) ?_
  w_fin
  refine s_r1 ⟨by decide, by decide⟩ ?_
  have p0 : (0 : Int) < 2305843009213693907 := by decide
  refine for_by (fun xs ρ S' => S' = S ∧ (∀ x ∈ xs, ∃ i : Int, x = .int i) ∧ ∃ (am : Int) (o : Option Lo), ρ = [some (.v (.d (.int s))), some (.v (.d (.int l))), some (.v (.d (.int 2305843009213693907))), some (.v (.d (.int am))), o] ∧ 0 ≤ am ∧ am < 2305843009213693907)
    (fun ρ S' hI => ?_) (fun x xs ρ S' N k hI => ?_) _ _ _ ⟨rfl, fun x hx => ?_, _, _, rfl, Int.emod_nonneg _ (by decide), Int.emod_lt_of_pos _ p0⟩
  · obtain ⟨rfl, _, am, o, rfl, h1, h2⟩ := hI
    w_fin
    refine o_mul (cmul_r (by decide)) ?_
    w_fin
    refine o_mul (cmul_r (by decide)) ?_
    w_fin
    refine o_mod (by decide) ?_
    w_fin
    exact h _
  · obtain ⟨rfl, hx, am, o, rfl, h1, h2⟩ := hI
    obtain ⟨i, rfl⟩ := hx x List.mem_cons_self
    w_fin
    refine o_mul (cmul_l ⟨by omega, by omega⟩) ?_
    w_fin
    refine o_mul (cmul_l (by decide)) ?_
    w_fin
    refine o_mul (cmul_l (by decide)) ?_
    w_fin
    refine o_mod (by decide) ?_
    w_fin
    exact k _ _ ⟨rfl, fun y hy => hx y (List.mem_cons_of_mem _ hy), _, _, rfl, Int.emod_nonneg _ (by decide), Int.emod_lt_of_pos _ p0⟩
  · unfold rangeL at hx
    obtain ⟨k, _, rfl⟩ := List.mem_map.mp hx
    exact ⟨_, rfl⟩
theorem atI_mem {α : Type} {xs : List α} {i : Int} {x : α} (h : L2.atI xs i = some x) : x ∈ xs := by
  unfold L2.atI at h
  cases q : L2.ixN xs.length i with
  | none => rw [q] at h; cases h
  | some j => rw [q] at h; exact List.mem_of_getElem? h
theorem ixN_lt {n : Nat} {i : Int} (h0 : 0 ≤ i) (h1 : i < n) : L2.ixN n i = some i.toNat := by
  unfold L2.ixN
  rw [if_pos h0, if_pos h1]
theorem atI_lt {α : Type} {xs : List α} {i : Int} (h0 : 0 ≤ i) (h1 : i < xs.length) : ∃ x, L2.atI xs i = some x ∧ xs[i.toNat]? = some x := by
  have hl : i.toNat < xs.length := by omega
  refine ⟨xs[i.toNat], ?_, List.getElem?_eq_getElem hl⟩
  unfold L2.atI
  rw [ixN_lt h0 h1]
  exact List.getElem?_eq_getElem hl
theorem sput_sput {a : Addr} {o u : SO} : sput (sput S a o) a u = sput S a u := by
  funext b
  unfold sput
  split <;> rfl
theorem ss_cut {Φ : Phi} {s : Sm} {ss : List Sm} {ρ : VE} {nx : VE → Sto → Prop} {rt : PV → Sto → Prop} {bk ct : VE → Sto → Prop} {ex : EK} (I : VE → Sto → Prop) (h1 : ∀ N : VE → Sto → Prop, (∀ ρ1 S1, I ρ1 S1 → N ρ1 S1) → wpS Φ s ρ S ⟨N, rt, bk, ct, ex⟩) (h2 : ∀ ρ1 S1, I ρ1 S1 → wpSs Φ ss ρ1 S1 ⟨nx, rt, bk, ct, ex⟩) : wpSs Φ (s :: ss) ρ S ⟨nx, rt, bk, ct, ex⟩ := h1 _ h2
theorem below_ok (t : PotT T) {a : Addr} {b : Int} (hp : PotS a S) (h0 : 0 < b) (h1 : b < 2 ^ 62) (h : ∀ (r : Int) (S' : Sto), PotS a S' → 0 ≤ r → r < b → Q (.d (.int r)) S') : callW T (n + 2) "_law_below" [.r a, .d (.int b)] S Q E := by
  refine call_in t.below rfl ?_
  unfold cBelow startV
  obtain ⟨S0, cs, p, m, l, rfl⟩ := hp
  simp only [List.map_cons, List.map_nil, List.length_cons, List.length_nil, List.replicate, List.cons_append, List.nil_append, Nat.reduceAdd, Nat.reduceSub]
  refine ss_cut (fun ρ1 S1 => ∃ (p m l : Int) (o3 o4 o5 : Option Lo), ρ1 = [some (.v (.r a)), some (.v (.d (.int b))), none, o3, o4, o5] ∧ S1 = (sput S0 a (.lst [.list (cs.map .int), .int p, .int m, .int l]))) (fun N hN => ?_) ?_
  · w_fin
    refine ite_b (fun _ => ?_) (fun _ => ?_)
    · refine ss_one ?_
      w_up
      refine ss_cut (fun ρ1 S1 => ∃ am : Int, ρ1 = [some (.v (.r a)), some (.v (.d (.int b))), none, some (.v (.d (.int am))), some (.v (.d (.list (cs.map .int)))), some (.v (.d (.int p)))] ∧ S1 = (sput S0 a (.lst [.list (cs.map .int), .int p, .int m, .int l]))) (fun N2 hN2 => ?_) ?_
      · w_fin
        refine o_ne (eqO_lnil _) ?_
        w_fin
        refine ite_b (fun hne => ?_) (fun _ => ?_)
        · w_fin
          have hpos : (0 : Int) < (cs.map PyData.int).length := by
            cases cs with
            | nil => simp at hne
            | cons c cs => simp
          refine o_mod hpos ?_
          w_fin
          obtain ⟨x, e1, e2⟩ := atI_lt (xs := cs.map PyData.int) (Int.emod_nonneg p (by omega)) (Int.emod_lt_of_pos p hpos)
          refine ix_l e1 ?_
          obtain ⟨c, _, rfl⟩ := List.mem_map.mp (atI_mem e1)
          exact hN2 _ _ ⟨_, rfl, rfl⟩
        · w_fin
          exact hN2 _ _ ⟨_, rfl, rfl⟩
      · rintro ρ1 S1 ⟨am, rfl, rfl⟩
        refine ss_cut (fun ρ1 S1 => ∃ am : Int, ρ1 = [some (.v (.r a)), some (.v (.d (.int b))), none, some (.v (.d (.int am))), some (.v (.d (.list (cs.map .int)))), some (.v (.d (.int p)))] ∧ S1 = (sput S0 a (.lst [.list (cs.map .int), .int p, .int m, .int l]))) (fun N2 hN2 => ?_) ?_
        · have asg : wpSs (callW T (n + 1)) [.asg 3 (.val (.call "_law_kneaded" [.bin .mod (.fnc .int (.var 3)) (.kd (.int 982451629)), .var 5]))]
              [some (.v (.r a)), some (.v (.d (.int b))), none, some (.v (.d (.int am))), some (.v (.d (.list (cs.map .int)))), some (.v (.d (.int p)))] (sput S0 a (.lst [.list (cs.map .int), .int p, .int m, .int l]))
              { nx := N2, rt := Q, ex := fun x _ S' => E x S' } := by
            w_fin
            refine o_mod (by decide) ?_
            w_fin
            refine kneaded_ok t fun r => ?_
            w_fin
            exact hN2 _ _ ⟨r, rfl, rfl⟩
          w_fin
          refine ite_b (fun _ => asg) fun _ => ?_
          w_fin
          refine o_pow ⟨by decide, by decide, by decide⟩ ?_
          w_fin
          refine ite_b (fun _ => asg) fun _ => ?_
          w_fin
          exact hN2 _ _ ⟨am, rfl, rfl⟩
        · rintro ρ1 S1 ⟨am, rfl, rfl⟩
          w_fin
          refine hN _ _ ⟨p + 1, am, am, _, _, _, rfl, ?_⟩
          rw [sput_sput, sput_sput, sput_sput]
          rfl
    · refine ss_nil ?_
      exact hN _ _ ⟨_, _, _, _, _, _, rfl, rfl⟩
  · rintro ρ1 S1 ⟨p, m, l, o3, o4, o5, rfl, rfl⟩
    w_fin
    refine o_mod h0 ?_
    w_fin
    refine o_fdiv (cdiv_small h0 h1) ?_
    w_fin
    refine o_fdiv (cdiv_small h0 h1) ?_
    w_fin
    refine h _ _ ⟨S0, cs, p, m / b, l / b, ?_⟩ (Int.emod_nonneg _ (by omega)) (Int.emod_lt_of_pos _ h0)
    rw [sput_sput, sput_sput]
    rfl
theorem cut_to {α : Type} (xs : List α) (k : Nat) : cutL xs none (some (k : Int)) = xs.take k := by
  unfold cutL
  rw [HT.sIx_nat, HT.sIx_none]
  simp only [List.drop_zero, Nat.sub_zero]
  rw [List.take_eq_take_iff]
  omega
theorem cut_from {α : Type} (xs : List α) (k : Nat) : cutL xs (some (k : Int)) none = xs.drop k := by
  unfold cutL
  rw [HT.sIx_nat, HT.sIx_none]
  by_cases h : k ≤ xs.length
  · rw [Nat.min_eq_left h, List.take_of_length_le]
    rw [List.length_drop]
    omega
  · rw [Nat.min_eq_right (by omega), List.drop_length, List.drop_eq_nil_of_le (by omega)]
    simp
theorem cut_mid_mem {α : Type} {xs : List α} {a b : Option Int} {x : α} (h : x ∈ cutL xs a b) : x ∈ xs := by
  unfold cutL at h
  exact List.mem_of_mem_drop (List.mem_of_mem_take h)
theorem enumL_mem {xs : List PyData} {x : PyData} (h : x ∈ enumL xs) : ∃ (k : Nat) (y : PyData), k < xs.length ∧ y ∈ xs ∧ x = .tuple [.int k, y] := by
  unfold enumL at h
  obtain ⟨⟨y, k⟩, hm, rfl⟩ := List.mem_map.mp h
  have h2 := List.mem_zipIdx hm
  refine ⟨k, y, by omega, ?_, rfl⟩
  have h3 := List.mem_zipIdx' hm
  exact List.mem_of_getElem h3.2.symm
theorem pot_of_ok (t : PotT T) {ns : List Int} (h : ∀ (a : Addr) (S' : Sto), PotS a S' → Q (.r a) S') : callW T (n + 1) "_law_pot_of" [.s ns] (fun _ => none) Q E := by
  refine call_in t.of rfl ?_
  unfold cPotOf startV
  simp only [List.map_cons, List.map_nil, List.length_cons, List.length_nil, List.replicate, List.cons_append, List.nil_append, Nat.reduceAdd, Nat.reduceSub]
  have e17 : cutL (ns.map PyData.int) none (some 17) = (ns.take 17).map PyData.int := by
    rw [show (17 : Int) = ((17 : Nat) : Int) from rfl, cut_to, List.map_take]
  refine ss_one ?_
  w_up
  rw [e17]
  w_up
  refine comp_by (fun ys acc ρ' S' => ρ' = [some (.v (.s ns)), none, none, none] ∧ S' = (fun _ => none) ∧ (∃ zs : List Int, ys = zs.map .int) ∧ ∃ cs : List Int, acc = cs.map .int ∧ acc.length + ys.length = (ns.take 17).length)
    (fun acc ρ' S' hI => ?_) (fun x xs acc ρ' S' N k hI => ?_) _ _ _ _ ⟨rfl, rfl, ⟨_, rfl⟩, [], rfl, by simp⟩
  · obtain ⟨rfl, rfl, _, cs, rfl, hl⟩ := hI
    have hcs : cs.length = min 17 ns.length := by simpa using hl
    refine ss_cut (fun ρ1 S1 => ∃ (cs : List Int) (o2 o3 : Option Lo), ρ1 = [some (.v (.s ns)), some (.ol (cs.map .int)), o2, o3] ∧ S1 = (fun _ => none)) (fun N hN => ?_) ?_
    · w_up
      refine for_by (fun ys ρ1 S1 => (∃ (cs : List Int) (o2 o3 : Option Lo), ρ1 = [some (.v (.s ns)), some (.ol (cs.map .int)), o2, o3] ∧ S1 = (fun _ => none) ∧ cs.length = min 17 ns.length) ∧ ∀ y ∈ ys, 17 < ns.length ∧ ∃ (k : Nat) (c : Int), y = .tuple [.int k, .int c])
        (fun ρ1 S1 hI => ?_) (fun x xs ρ1 S1 N2 k hI => ?_) _ _ _ ⟨⟨cs, _, _, rfl, rfl, hcs⟩, fun y hy => ?_⟩
      · obtain ⟨⟨cs, o2, o3, rfl, rfl, _⟩, _⟩ := hI
        exact hN _ _ ⟨cs, o2, o3, rfl, rfl⟩
      · obtain ⟨⟨cs, o2, o3, rfl, rfl, hcs⟩, hI⟩ := hI
        obtain ⟨h17, kk, c, rfl⟩ := hI x List.mem_cons_self
        have hc17 : cs.length = 17 := by omega
        have p0 : 0 ≤ (kk : Int) % 17 := Int.emod_nonneg _ (by decide)
        have p1 : (kk : Int) % 17 < 17 := Int.emod_lt_of_pos _ (by decide)
        have e1 : L2.ixN (cs.map PyData.int).length ((kk : Int) % 17) = some ((kk : Int) % 17).toNat := ixN_lt p0 (by rw [List.length_map, hc17]; exact p1)
        w_fin
        refine o_mod (by decide) ?_
        w_fin
        obtain ⟨x, e2, e3⟩ := atI_lt (xs := cs.map PyData.int) p0 (by rw [List.length_map, hc17]; exact p1)
        obtain ⟨d, _, rfl⟩ := List.mem_map.mp (atI_mem e2)
        refine ix_l e2 ?_
        w_fin
        refine o_mod (by decide) ?_
        w_fin
        refine w_ol rfl e1 ?_
        w_fin
        refine k _ _ ⟨⟨cs.set ((kk : Int) % 17).toNat (d + if c < 0 then -c else c), some (.v (.d (.int kk))), some (.v (.d (.int c))), ?_, rfl, ?_⟩, fun y hy => hI y (List.mem_cons_of_mem _ hy)⟩
        · rw [List.map_set]
          rfl
        · rw [List.length_set]
          exact hcs
      · obtain ⟨kk, z, hk, hz, rfl⟩ := enumL_mem hy
        obtain ⟨c, _, rfl⟩ := List.mem_map.mp (cut_mid_mem hz)
        refine ⟨?_, kk, c, rfl⟩
        have hlen : (cutL (ns.map PyData.int) (some 17) (some 60)).length ≤ ns.length - 17 := by
          unfold cutL
          rw [List.length_take, List.length_drop, show (17 : Int) = ((17 : Nat) : Int) from rfl, HT.sIx_nat, List.length_map]
          omega
        omega
    · rintro ρ1 S1 ⟨cs, o2, o3, rfl, rfl⟩
      w_fin
      exact fun a _ => h a _ ⟨_, cs, 0, 0, 0, rfl⟩
  · obtain ⟨rfl, rfl, ⟨zs, ez⟩, cs, rfl, hl⟩ := hI
    cases zs with
    | nil => cases ez
    | cons z zs =>
      simp only [List.map_cons, List.cons.injEq] at ez
      obtain ⟨rfl, rfl⟩ := ez
      have hb : (ns.take 17).length ≤ 17 := by rw [List.length_take]; omega
      refine ⟨?_, ?_⟩
      · simp only [List.length_map, List.length_cons] at hl ⊢
        have : (17 : Nat) < sizeLine := by decide
        omega
      · w_fin
        refine k _ _ _ ⟨rfl, rfl, ⟨zs, rfl⟩, cs ++ [if z < 0 then -z else z], by rw [List.map_append]; rfl, ?_⟩
        simp only [List.length_map, List.length_append, List.length_cons, List.length_nil] at hl ⊢
        omega
end
end Lk
/-! P3: plain laws of patterns. -/
namespace Lk
open PySem
def isI : PyData → Bool
  | .int _ => true
  | _ => false
def belowB (x : PyData) (b : Int) : Bool := match x with
  | .int i => decide (0 ≤ i) && decide (i < b)
  | _ => false
def letB : PyData → Bool
  | .str s => strHas s "abcdefghijklmnopqrstuvwxyz"
  | _ => false
def headB : PyData → Bool
  | .str z => decide (1 ≤ z.length) && decide (z.length ≤ 8) && (signsOf z).all letB
  | _ => false
mutual
def treeB (w : Bool) : PyData → Bool
  | .tuple xs => treeT w xs
  | x => w && belowB x 1000
def treeT (w : Bool) : List PyData → Bool
  | [] => false
  | h :: ts => headB h && treeA w ts
def treeA (w : Bool) : List PyData → Bool
  | [] => true
  | x :: xs => treeB w x && treeA w xs
end
theorem boolsOf_map (f : PyData → Bool) : ∀ xs : List PyData, boolsOf (xs.map fun x => .bool (f x)) = some (xs.map f)
  | [] => rfl
  | x :: xs => by
    show (boolsOf (xs.map fun x => .bool (f x))).map (f x :: ·) = _
    rw [boolsOf_map f xs]
    rfl
theorem signsOf_len (z : Str) : (signsOf z).length = z.length := by
  unfold signsOf
  rw [List.length_map]
  rfl
theorem signsOf_str {z : Str} {x : PyData} (h : x ∈ signsOf z) : ∃ s, x = .str s := by
  unfold signsOf at h
  obtain ⟨c, _, rfl⟩ := List.mem_map.mp h
  exact ⟨_, rfl⟩
theorem treeA_append (w : Bool) : ∀ xs ys : List PyData, treeA w (xs ++ ys) = (treeA w xs && treeA w ys)
  | [], ys => by simp [treeA]
  | x :: xs, ys => by simp only [List.cons_append, treeA, treeA_append w xs ys, Bool.and_assoc]
theorem str_vol {x : PyData} {m : Nat} (h : vol x ≤ m) : ∀ z, x = .str z → z.length ≤ m := by
  rintro z rfl
  unfold vol at h
  omega
theorem cut_tail {α : Type} (x : α) (xs : List α) : cutL (x :: xs) (some 1) none = xs := by
  rw [show (1 : Int) = ((1 : Nat) : Int) from rfl, cut_from]
  rfl
theorem atI_zero {α : Type} (x : α) (xs : List α) : L2.atI (x :: xs) 0 = some x := by
  obtain ⟨y, h1, h2⟩ := atI_lt (xs := x :: xs) (i := 0) (by decide) (by simp only [List.length_cons]; omega)
  rw [h1]
  exact h2.symm
theorem treeB_not (w : Bool) {x : PyData} (h : ∀ xs, x ≠ .tuple xs) : treeB w x = (w && belowB x 1000) := by
  cases x <;> first | (simp [treeB]; done) | (exact absurd rfl (h _))
theorem eqO_int (i j : Int) : eqO (.int i) (.int j) = some (decide (i = j)) := by
  have h : (PyData.int i).canLay0 = true ∧ (PyData.int j).canLay0 = true ∧ min (PyData.int i).depth (PyData.int j).depth ≤ 60 := ⟨by simp [PyData.canLay0], by simp [PyData.canLay0], by simp [PyData.depth]⟩
  unfold eqO
  rw [if_pos h]
  simp only [PyData.eqv]
  congr 1
theorem not_isEmpty_filter (p : PyData → Bool) (xs : List PyData) : ((xs.filter fun y => !p y).map fun y => y).isEmpty = xs.all p := by
  induction xs with
  | nil => rfl
  | cons x xs ih =>
    rw [List.filter_cons]
    cases h : p x with
    | true => simpa [h] using ih
    | false => simp [h]
theorem treeA_all (w : Bool) : ∀ xs : List PyData, treeA w xs = xs.all (treeB w)
  | [] => rfl
  | x :: xs => by rw [treeA, treeA_all w xs, List.all_cons]
theorem depthAll_mem : ∀ {xs : List PyData} {x : PyData}, x ∈ xs → x.depth ≤ PyData.depthAll xs
  | y :: ys, x, h => by
    simp only [PyData.depthAll]
    rcases List.mem_cons.mp h with z | z
    · subst z; omega
    · have := depthAll_mem z
      omega
def pathTo : PyData → List Nat → PyData → Prop
  | x, [], y => y = x
  | .tuple (_ :: ts), k :: ks, y => ∃ t, ts[k]? = some t ∧ pathTo t ks y
  | _, _ :: _, _ => False
def plc (ks : List Nat) : List PyData := ks.map fun (k : Nat) => PyData.int k
theorem enumL_zip (zs : List PyData) : enumL zs = (zs.zipIdx 0).map fun p => .tuple [.int p.2, p.1] := rfl
theorem path_depth : ∀ {ks : List Nat} {x y : PyData}, pathTo x ks y → ks.length ≤ x.depth
  | [], x, y, _ => by simp
  | k :: ks, .tuple (h :: ts), y, hp => by
    obtain ⟨t, ht, hp⟩ := hp
    have h1 := path_depth hp
    have h2 := depthAll_mem (List.mem_of_getElem? ht)
    simp only [List.length_cons, PyData.depth, PyData.depthAll]
    omega
  | k :: ks, .tuple [], y, hp => by cases hp
  | k :: ks, .none, y, hp => by cases hp
  | k :: ks, .bool _, y, hp => by cases hp
  | k :: ks, .int _, y, hp => by cases hp
  | k :: ks, .str _, y, hp => by cases hp
  | k :: ks, .list _, y, hp => by cases hp
  | k :: ks, .dict _, y, hp => by cases hp
theorem path_vol : ∀ {ks : List Nat} {x y : PyData}, pathTo x ks y → vol y ≤ vol x ∧ y.depth ≤ x.depth
  | [], x, y, hp => by
    cases hp
    exact ⟨Nat.le_refl _, Nat.le_refl _⟩
  | k :: ks, .tuple (h :: ts), y, hp => by
    obtain ⟨t, ht, hp⟩ := hp
    have h1 := path_vol hp
    have h2 := depthAll_mem (List.mem_of_getElem? ht)
    have h3 := volAll_mem (List.mem_of_getElem? ht)
    simp only [vol, volAll, PyData.depth, PyData.depthAll]
    omega
  | k :: ks, .tuple [], y, hp => by cases hp
  | k :: ks, .none, y, hp => by cases hp
  | k :: ks, .bool _, y, hp => by cases hp
  | k :: ks, .int _, y, hp => by cases hp
  | k :: ks, .str _, y, hp => by cases hp
  | k :: ks, .list _, y, hp => by cases hp
  | k :: ks, .dict _, y, hp => by cases hp
theorem volAll_split {ts : List PyData} {k : Nat} {t : PyData} (h : ts[k]? = some t) : volAll ts = volAll (ts.take k) + (vol t + volAll (ts.drop (k + 1))) := by
  have hk : k < ts.length := by
    rcases Nat.lt_or_ge k ts.length with h1 | h1
    · exact h1
    · rw [List.getElem?_eq_none h1] at h
      cases h
  have e : ts = ts.take k ++ (t :: ts.drop (k + 1)) := by
    have : ts[k] = t := by
      rw [List.getElem?_eq_getElem hk] at h
      exact Option.some.inj h
    rw [← this, List.getElem_cons_drop, List.take_append_drop]
  conv => lhs; rw [e]
  rw [volAll_append]
  simp only [volAll]
theorem depthAll_append : ∀ xs ys : List PyData, PyData.depthAll (xs ++ ys) = max (PyData.depthAll xs) (PyData.depthAll ys)
  | [], ys => by simp [PyData.depthAll]
  | x :: xs, ys => by simp only [List.cons_append, PyData.depthAll, depthAll_append xs ys, Nat.max_assoc]
theorem depthAll_take (ts : List PyData) (k : Nat) : PyData.depthAll (ts.take k) ≤ PyData.depthAll ts := by
  conv => rhs; rw [← List.take_append_drop k ts, depthAll_append]
  omega
theorem depthAll_drop (ts : List PyData) (k : Nat) : PyData.depthAll (ts.drop k) ≤ PyData.depthAll ts := by
  conv => rhs; rw [← List.take_append_drop k ts, depthAll_append]
  omega
theorem atI_nat {α : Type} {xs : List α} {k : Nat} {x : α} (h : xs[k]? = some x) : L2.atI xs (k : Int) = some x := by
  have hk : k < xs.length := by
    rcases Nat.lt_or_ge k xs.length with h1 | h1
    · exact h1
    · rw [List.getElem?_eq_none h1] at h
      cases h
  obtain ⟨y, h1, h2⟩ := atI_lt (xs := xs) (i := (k : Int)) (by omega) (by omega)
  rw [h1, ← h2]
  exact h
/-! ### entries, sizes, names, parts put in -/
mutual
def entL : PyData → List PyData → List PyData
  | .tuple xs, pl => .tuple [.tuple pl, .tuple xs] :: entT xs pl
  | x, pl => [.tuple [.tuple pl, x]]
def entT : List PyData → List PyData → List PyData
  | [], _ => []
  | _ :: ts, pl => entA ts pl 0
def entA : List PyData → List PyData → Nat → List PyData
  | [], _, _ => []
  | t :: ts, pl, k => entL t (pl ++ [.int k]) ++ entA ts pl (k + 1)
end
mutual
def cntP : PyData → Nat
  | .tuple xs => 1 + cntT xs
  | _ => 1
def cntT : List PyData → Nat
  | [] => 0
  | _ :: ts => cntA ts
def cntA : List PyData → Nat
  | [] => 0
  | t :: ts => cntP t + cntA ts
end
mutual
def nmsP : PyData → List Int
  | .tuple xs => nmsT xs
  | .int i => [i]
  | _ => []
def nmsT : List PyData → List Int
  | [] => []
  | _ :: ts => nmsA ts
def nmsA : List PyData → List Int
  | [] => []
  | t :: ts => nmsP t ++ nmsA ts
end
def putP : PyData → List Nat → PyData → PyData
  | _, [], z => z
  | .tuple (h :: ts), k :: ks, z => .tuple (h :: (ts.take k ++ putP (ts[k]?.getD .none) ks z :: ts.drop (k + 1)))
  | x, _ :: _, _ => x
def partsL : PyData → List PyData
  | .tuple (_ :: ts) => ts
  | _ => []
def good (x : PyData) : Prop := treeB true x = true ∧ x.canLay0 = true
theorem entL_eq (x : PyData) (pl : List PyData) : entL x pl = .tuple [.tuple pl, x] :: entA (partsL x) pl 0 := by
  cases x <;> try (simp [entL, partsL, entA]; done)
  rename_i xs
  cases xs <;> simp [entL, partsL, entA, entT]
theorem cntP_eq (x : PyData) : cntP x = 1 + cntA (partsL x) := by
  cases x <;> try (simp [cntP, partsL, cntA]; done)
  rename_i xs
  cases xs <;> simp [cntP, partsL, cntA, cntT]
mutual
theorem entL_len : ∀ (x : PyData) (pl : List PyData), (entL x pl).length = cntP x
  | .tuple xs, pl => by rw [entL, cntP, List.length_cons, entT_len xs pl]; omega
  | .none, _ => by simp [entL, cntP]
  | .bool _, _ => by simp [entL, cntP]
  | .int _, _ => by simp [entL, cntP]
  | .str _, _ => by simp [entL, cntP]
  | .list _, _ => by simp [entL, cntP]
  | .dict _, _ => by simp [entL, cntP]
theorem entT_len : ∀ (xs : List PyData) (pl : List PyData), (entT xs pl).length = cntT xs
  | [], _ => by simp [entT, cntT]
  | _ :: ts, pl => by rw [entT, cntT, entA_len ts pl 0]
theorem entA_len : ∀ (ts : List PyData) (pl : List PyData) (k : Nat), (entA ts pl k).length = cntA ts
  | [], _, _ => by simp [entA, cntA]
  | t :: ts, pl, k => by rw [entA, cntA, List.length_append, entL_len t _, entA_len ts pl (k + 1)]
end
mutual
theorem cntP_vol : ∀ x : PyData, 20 * cntP x ≤ vol x
  | .tuple xs => by
    have := cntT_vol xs
    simp only [cntP, vol]
    omega
  | .none => by simp [cntP, vol]
  | .bool _ => by simp [cntP, vol]
  | .int _ => by simp only [cntP, vol]; omega
  | .str _ => by simp only [cntP, vol]; omega
  | .list _ => by simp only [cntP, vol]; omega
  | .dict _ => by simp only [cntP, vol]; split <;> omega
theorem cntT_vol : ∀ xs : List PyData, 20 * cntT xs ≤ volAll xs
  | [] => by simp [cntT, volAll]
  | x :: ts => by
    have := cntA_vol ts
    simp only [cntT, volAll]
    omega
theorem cntA_vol : ∀ xs : List PyData, 20 * cntA xs ≤ volAll xs
  | [] => by simp [cntA, volAll]
  | t :: ts => by
    have h1 := cntP_vol t
    have h2 := cntA_vol ts
    simp only [cntA, volAll]
    omega
end
theorem cntP_pos (x : PyData) : 1 ≤ cntP x := by
  rw [cntP_eq]
  omega
theorem cntA_append : ∀ xs ys : List PyData, cntA (xs ++ ys) = cntA xs + cntA ys
  | [], ys => by simp [cntA]
  | x :: xs, ys => by simp only [List.cons_append, cntA, cntA_append xs ys]; omega
theorem cntA_reverse : ∀ xs : List PyData, cntA xs.reverse = cntA xs
  | [] => rfl
  | x :: xs => by
    rw [List.reverse_cons, cntA_append, cntA_reverse xs]
    simp only [cntA]
    omega
/-! entries' members -/
mutual
theorem entL_mem : ∀ (x : PyData) (pl : List PyData) (e : PyData), e ∈ entL x pl → ∃ ks y, e = .tuple [.tuple (pl ++ plc ks), y] ∧ pathTo x ks y
  | .tuple xs, pl, e, h => by
    rw [entL] at h
    rcases List.mem_cons.mp h with h | h
    · exact ⟨[], .tuple xs, by simpa [plc] using h, rfl⟩
    · cases xs with
      | nil => simp [entT] at h
      | cons z ts =>
        rw [entT] at h
        obtain ⟨i, t, ks, y, h1, h2, h3⟩ := entA_mem ts pl 0 e h
        refine ⟨i :: ks, y, ?_, t, h1, h3⟩
        rw [h2]
        simp [plc]
  | .none, pl, e, h => ⟨[], .none, by simpa [entL, plc] using h, rfl⟩
  | .bool b, pl, e, h => ⟨[], .bool b, by simpa [entL, plc] using h, rfl⟩
  | .int i, pl, e, h => ⟨[], .int i, by simpa [entL, plc] using h, rfl⟩
  | .str s, pl, e, h => ⟨[], .str s, by simpa [entL, plc] using h, rfl⟩
  | .list s, pl, e, h => ⟨[], .list s, by simpa [entL, plc] using h, rfl⟩
  | .dict s, pl, e, h => ⟨[], .dict s, by simpa [entL, plc] using h, rfl⟩
theorem entA_mem : ∀ (ts : List PyData) (pl : List PyData) (k : Nat) (e : PyData), e ∈ entA ts pl k → ∃ i t ks y, ts[i]? = some t ∧ e = .tuple [.tuple (pl ++ (.int ((k + i : Nat) : Int) :: plc ks)), y] ∧ pathTo t ks y
  | [], pl, k, e, h => by simp [entA] at h
  | t :: ts, pl, k, e, h => by
    rw [entA] at h
    rcases List.mem_append.mp h with h | h
    · obtain ⟨ks, y, h1, h2⟩ := entL_mem t _ e h
      exact ⟨0, t, ks, y, rfl, by rw [h1]; simp, h2⟩
    · obtain ⟨i, u, ks, y, h1, h2, h3⟩ := entA_mem ts pl (k + 1) e h
      refine ⟨i + 1, u, ks, y, h1, ?_, h3⟩
      rw [h2, show k + 1 + i = k + (i + 1) by omega]
end
theorem ent_ne (x : PyData) (pl : List PyData) : entL x pl ≠ [] := by rw [entL_eq]; simp
/-! paths -/
theorem path_append : ∀ {as bs : List Nat} {x y : PyData}, pathTo x (as ++ bs) y → ∃ m, pathTo x as m ∧ pathTo m bs y
  | [], bs, x, y, h => ⟨x, rfl, h⟩
  | k :: ks, bs, .tuple (h :: ts), y, hp => by
    obtain ⟨t, ht, hp⟩ := hp
    obtain ⟨m, h1, h2⟩ := path_append (as := ks) hp
    exact ⟨m, ⟨t, ht, h1⟩, h2⟩
  | k :: ks, _, .tuple [], y, hp => by cases hp
  | k :: ks, _, .none, y, hp => by cases hp
  | k :: ks, _, .bool _, y, hp => by cases hp
  | k :: ks, _, .int _, y, hp => by cases hp
  | k :: ks, _, .str _, y, hp => by cases hp
  | k :: ks, _, .list _, y, hp => by cases hp
  | k :: ks, _, .dict _, y, hp => by cases hp
theorem path_join : ∀ {as bs : List Nat} {x m y : PyData}, pathTo x as m → pathTo m bs y → pathTo x (as ++ bs) y
  | [], bs, x, m, y, h, h2 => by cases h; exact h2
  | k :: ks, bs, .tuple (h :: ts), m, y, hp, h2 => by
    obtain ⟨t, ht, hp⟩ := hp
    exact ⟨t, ht, path_join (as := ks) hp h2⟩
  | k :: ks, _, .tuple [], _, y, hp, _ => by cases hp
  | k :: ks, _, .none, _, y, hp, _ => by cases hp
  | k :: ks, _, .bool _, _, y, hp, _ => by cases hp
  | k :: ks, _, .int _, _, y, hp, _ => by cases hp
  | k :: ks, _, .str _, _, y, hp, _ => by cases hp
  | k :: ks, _, .list _, _, y, hp, _ => by cases hp
  | k :: ks, _, .dict _, _, y, hp, _ => by cases hp
theorem path_unique : ∀ {ks : List Nat} {x y z : PyData}, pathTo x ks y → pathTo x ks z → y = z
  | [], x, y, z, h, g => by cases h; cases g; rfl
  | k :: ks, .tuple (h :: ts), y, z, hp, hq => by
    obtain ⟨t, ht, hp⟩ := hp
    obtain ⟨u, hu, hq⟩ := hq
    rw [ht] at hu
    cases hu
    exact path_unique hp hq
  | k :: ks, .tuple [], _, y, hp, _ => by cases hp
  | k :: ks, .none, _, y, hp, _ => by cases hp
  | k :: ks, .bool _, _, y, hp, _ => by cases hp
  | k :: ks, .int _, _, y, hp, _ => by cases hp
  | k :: ks, .str _, _, y, hp, _ => by cases hp
  | k :: ks, .list _, _, y, hp, _ => by cases hp
  | k :: ks, .dict _, _, y, hp, _ => by cases hp
theorem path_cons {x y : PyData} {k : Nat} {ks : List Nat} (hp : pathTo x (k :: ks) y) : ∃ h ts t, x = .tuple (h :: ts) ∧ ts[k]? = some t ∧ pathTo t ks y := by
  cases x <;> first | (cases hp; done) | skip
  rename_i xs
  cases xs with
  | nil => cases hp
  | cons h ts =>
    obtain ⟨t, ht, hp⟩ := hp
    exact ⟨h, ts, t, rfl, ht, hp⟩
theorem put_cons {h t z : PyData} {ts : List PyData} {k : Nat} {ks : List Nat} (ht : ts[k]? = some t) : putP (.tuple (h :: ts)) (k :: ks) z = .tuple (h :: (ts.take k ++ putP t ks z :: ts.drop (k + 1))) := by
  rw [putP, ht]
  rfl
theorem split_at {ts : List PyData} {k : Nat} {t : PyData} (h : ts[k]? = some t) : ts = ts.take k ++ (t :: ts.drop (k + 1)) := by
  have hk : k < ts.length := by
    rcases Nat.lt_or_ge k ts.length with h1 | h1
    · exact h1
    · rw [List.getElem?_eq_none h1] at h
      cases h
  have : ts[k] = t := by
    rw [List.getElem?_eq_getElem hk] at h
    exact Option.some.inj h
  rw [← this, List.getElem_cons_drop, List.take_append_drop]
theorem at_mid {ts : List PyData} {k : Nat} {t u : PyData} (h : ts[k]? = some t) : (ts.take k ++ (u :: ts.drop (k + 1)))[k]? = some u := by
  have hk : k < ts.length := by
    rcases Nat.lt_or_ge k ts.length with h1 | h1
    · exact h1
    · rw [List.getElem?_eq_none h1] at h
      cases h
  have e : (ts.take k).length = k := by rw [List.length_take]; omega
  rw [List.getElem?_append_right (by omega), e, Nat.sub_self]
  rfl
theorem take_mid {ts : List PyData} {k : Nat} {t u : PyData} (h : ts[k]? = some t) : (ts.take k ++ (u :: ts.drop (k + 1))).take k = ts.take k := by
  have hk : k < ts.length := by
    rcases Nat.lt_or_ge k ts.length with h1 | h1
    · exact h1
    · rw [List.getElem?_eq_none h1] at h
      cases h
  exact List.take_left' (by rw [List.length_take]; omega)
theorem drop_mid {ts : List PyData} {k : Nat} {t u : PyData} (h : ts[k]? = some t) : (ts.take k ++ (u :: ts.drop (k + 1))).drop (k + 1) = ts.drop (k + 1) := by
  have hk : k < ts.length := by
    rcases Nat.lt_or_ge k ts.length with h1 | h1
    · exact h1
    · rw [List.getElem?_eq_none h1] at h
      cases h
  have e : (ts.take k ++ (u :: ts.drop (k + 1))) = (ts.take k ++ [u]) ++ ts.drop (k + 1) := by simp
  rw [e]
  exact List.drop_left' (by rw [List.length_append, List.length_take]; simp only [List.length_cons, List.length_nil]; omega)
theorem path_put : ∀ {ks : List Nat} {x y : PyData} (z : PyData), pathTo x ks y → pathTo (putP x ks z) ks z
  | [], x, y, z, h => rfl
  | k :: ks, x, y, z, hp => by
    obtain ⟨h, ts, t, rfl, ht, hp⟩ := path_cons hp
    rw [put_cons ht]
    exact ⟨putP t ks z, at_mid ht, path_put z hp⟩
theorem put_back : ∀ {ks : List Nat} {x y : PyData} (z : PyData), pathTo x ks y → putP (putP x ks z) ks y = x
  | [], x, y, z, h => by cases h; rfl
  | k :: ks, x, y, z, hp => by
    obtain ⟨h, ts, t, rfl, ht, hp⟩ := path_cons hp
    rw [put_cons ht, put_cons (at_mid ht), take_mid ht, drop_mid ht, put_back z hp, ← split_at ht]
theorem canLayAll_mem : ∀ {xs : List PyData}, PyData.canLayAll0 xs = true ↔ ∀ x ∈ xs, x.canLay0 = true
  | [] => by simp [PyData.canLayAll0]
  | x :: xs => by
    rw [PyData.canLayAll0, Bool.and_eq_true, canLayAll_mem (xs := xs)]
    simp
theorem treeA_mem {w : Bool} {xs : List PyData} : treeA w xs = true ↔ ∀ x ∈ xs, treeB w x = true := by
  rw [treeA_all, List.all_eq_true]
theorem good_tuple {h : PyData} {ts : List PyData} : good (.tuple (h :: ts)) ↔ (headB h = true ∧ h.canLay0 = true) ∧ ∀ t ∈ ts, good t := by
  unfold good
  rw [treeB, treeT, Bool.and_eq_true, treeA_mem, PyData.canLay0, PyData.canLayAll0, Bool.and_eq_true, canLayAll_mem]
  constructor
  · rintro ⟨⟨h1, h2⟩, h3, h4⟩
    exact ⟨⟨h1, h3⟩, fun t ht => ⟨h2 t ht, h4 t ht⟩⟩
  · rintro ⟨⟨h1, h3⟩, h⟩
    exact ⟨⟨h1, fun t ht => (h t ht).1⟩, h3, fun t ht => (h t ht).2⟩
theorem good_cases {x : PyData} (g : good x) : (∃ i : Int, x = .int i ∧ 0 ≤ i ∧ i < 1000) ∨ ∃ h ts, x = .tuple (h :: ts) := by
  cases x <;> try (obtain ⟨g, _⟩ := g; simp [treeB, belowB] at g; done)
  · rename_i i
    obtain ⟨g, _⟩ := g
    simp [treeB, belowB] at g
    exact .inl ⟨i, rfl, g.1, g.2⟩
  · rename_i xs
    cases xs with
    | nil => obtain ⟨g, _⟩ := g; simp [treeB, treeT] at g
    | cons h ts => exact .inr ⟨h, ts, rfl⟩
theorem good_parts {x : PyData} (g : good x) : ∀ t ∈ partsL x, good t := by
  rcases good_cases g with ⟨i, rfl, _⟩ | ⟨h, ts, rfl⟩
  · intro t ht; cases ht
  · exact (good_tuple.mp g).2
theorem good_path : ∀ {ks : List Nat} {x y : PyData}, good x → pathTo x ks y → good y
  | [], x, y, g, h => by cases h; exact g
  | k :: ks, x, y, g, hp => by
    obtain ⟨h, ts, t, rfl, ht, hp⟩ := path_cons hp
    exact good_path ((good_tuple.mp g).2 t (List.mem_of_getElem? ht)) hp
theorem good_put : ∀ {ks : List Nat} {x y z : PyData}, good x → good z → pathTo x ks y → good (putP x ks z)
  | [], x, y, z, g, gz, h => gz
  | k :: ks, x, y, z, g, gz, hp => by
    obtain ⟨h, ts, t, rfl, ht, hp⟩ := path_cons hp
    rw [put_cons ht]
    rw [good_tuple] at g ⊢
    refine ⟨g.1, fun u hu => ?_⟩
    rcases List.mem_append.mp hu with hu | hu
    · exact g.2 u (List.mem_of_mem_take hu)
    · rcases List.mem_cons.mp hu with hu | hu
      · subst hu
        exact good_put (g.2 t (List.mem_of_getElem? ht)) gz hp
      · exact g.2 u (List.mem_of_mem_drop hu)
theorem vol_put : ∀ {ks : List Nat} {x y : PyData} (z : PyData), pathTo x ks y → vol (putP x ks z) ≤ vol x + vol z ∧ (putP x ks z).depth ≤ x.depth + z.depth
  | [], x, y, z, h => by
    rw [putP]
    omega
  | k :: ks, x, y, z, hp => by
    obtain ⟨h, ts, t, rfl, ht, hp⟩ := path_cons hp
    have hs := volAll_split ht
    have hd := depthAll_mem (List.mem_of_getElem? ht)
    have d1 := depthAll_take ts k
    have d2 := depthAll_drop ts (k + 1)
    obtain ⟨i1, i2⟩ := vol_put z hp
    rw [put_cons ht]
    simp only [vol, volAll, volAll_append, PyData.depth, PyData.depthAll, depthAll_append]
    omega
theorem good_eq {x : PyData} (g : good x) (d : x.depth ≤ 60) : eqO x x = some true := by
  unfold eqO
  rw [if_pos ⟨g.2, g.2, by omega⟩, SeqAt.eqv_refl x g.2]
theorem eqO_self {x : PyData} (g : x.canLay0 = true) (d : x.depth ≤ 60) : eqO x x = some true := by
  unfold eqO
  rw [if_pos ⟨g, g, by omega⟩, SeqAt.eqv_refl x g]
theorem depthAll_le {xs : List PyData} {d : Nat} (h : ∀ x ∈ xs, x.depth ≤ d) : PyData.depthAll xs ≤ d := by
  induction xs with
  | nil => simp [PyData.depthAll]
  | cons x xs ih =>
    have h1 := h x List.mem_cons_self
    have h2 := ih fun y hy => h y (List.mem_cons_of_mem _ hy)
    simp only [PyData.depthAll]
    omega
theorem ints_lay (ns : List Int) : (PyData.list (ns.map .int)).canLay0 = true ∧ (PyData.list (ns.map .int)).depth ≤ 1 ∧ (PyData.tuple (ns.map .int)).canLay0 = true ∧ (PyData.tuple (ns.map .int)).depth ≤ 1 := by
  have h1 : PyData.canLayAll0 (ns.map .int) = true := canLayAll_mem.mpr fun x hx => by
    obtain ⟨i, _, rfl⟩ := List.mem_map.mp hx
    rfl
  have h2 : PyData.depthAll (ns.map .int) ≤ 0 := depthAll_le fun x hx => by
    obtain ⟨i, _, rfl⟩ := List.mem_map.mp hx
    simp [PyData.depth]
  refine ⟨h1, ?_, h1, ?_⟩
  all_goals
    simp only [PyData.depth]
    omega
theorem plc_ints (ks : List Nat) : plc ks = (ks.map fun (k : Nat) => (k : Int)).map .int := by
  unfold plc
  rw [List.map_map]
  rfl
/-- the places of a list of entries -/
def fstD : PyData → PyData
  | .tuple (p :: _) => p
  | x => x
def sndD : PyData → PyData
  | .tuple [_, p] => p
  | x => x
theorem places_lay (x : PyData) : (PyData.list ((entL x []).map fstD)).canLay0 = true ∧ (PyData.list ((entL x []).map fstD)).depth ≤ 2 := by
  have h : ∀ u ∈ (entL x []).map fstD, ∃ ks : List Nat, u = .tuple (plc ks) := by
    intro u hu
    obtain ⟨e, he, rfl⟩ := List.mem_map.mp hu
    obtain ⟨ks, y, rfl, _⟩ := entL_mem x [] e he
    exact ⟨ks, rfl⟩
  refine ⟨canLayAll_mem.mpr fun u hu => ?_, ?_⟩
  · obtain ⟨ks, rfl⟩ := h u hu
    rw [plc_ints]
    exact (ints_lay _).2.2.1
  · have : PyData.depthAll ((entL x []).map fstD) ≤ 1 := depthAll_le fun u hu => by
      obtain ⟨ks, rfl⟩ := h u hu
      rw [plc_ints]
      exact (ints_lay _).2.2.2
    simp only [PyData.depth]
    omega
/-! names -/
def addN (ns : List Int) (i : Int) : List Int := if i ∈ ns then ns else ns ++ [i]
def dedN (ns : List Int) : List Int := ns.foldl addN []
theorem addN_len (ns : List Int) (i : Int) : (addN ns i).length ≤ ns.length + 1 := by
  unfold addN
  split <;> simp
def nmKv (ns : List Int) : List (PyData × PyData) := ns.map fun i => (.int i, .bool true)
@[simp] theorem plainK_nmKv (ns : List Int) : plainK (nmKv ns) = true := by
  unfold plainK nmKv
  rw [List.all_map]
  exact List.all_eq_true.mpr fun p _ => rfl
theorem putD_nm (ns : List Int) (i : Int) : putD (nmKv ns) (.int i) (.bool true) = nmKv (addN ns i) := by
  have e : ((nmKv ns).any fun p => decide (keyD p.1 = keyD (.int i))) = decide (i ∈ ns) := by
    rw [Bool.eq_iff_iff, List.any_eq_true, decide_eq_true_eq]
    unfold nmKv
    constructor
    · rintro ⟨p, hp, h⟩
      obtain ⟨j, hj, rfl⟩ := List.mem_map.mp hp
      simp only [keyD, Option.some.injEq, Sum.inl.injEq, decide_eq_true_eq] at h
      rw [← h]
      exact hj
    · intro h
      exact ⟨_, List.mem_map.mpr ⟨i, h, rfl⟩, by simp⟩
  unfold putD
  rw [e]
  unfold addN
  by_cases h : i ∈ ns
  · rw [if_pos (by simpa using h), if_pos h]
    unfold nmKv
    rw [List.map_map]
    refine List.map_congr_left fun j hj => ?_
    simp only [Function.comp]
    split <;> rfl
  · rw [if_neg (by simpa using h), if_neg h]
    unfold nmKv
    rw [List.map_append]
    rfl
theorem nmKv_keys (ns : List Int) : (nmKv ns).map (·.1) = ns.map .int := by
  unfold nmKv
  rw [List.map_map]
  rfl
theorem nmsP_eq {x : PyData} (h : ∀ i, x ≠ .int i) : nmsP x = nmsA (partsL x) := by
  cases x <;> try (simp [nmsP, partsL, nmsA]; done)
  · exact absurd rfl (h _)
  · rename_i xs
    cases xs <;> simp [nmsP, partsL, nmsA, nmsT]
/-- the ints among the parts of entries -/
def leafN : PyData → List Int
  | .tuple [_, .int i] => [i]
  | _ => []
mutual
theorem ent_names : ∀ (x : PyData) (pl : List PyData), (entL x pl).flatMap leafN = nmsP x
  | .tuple xs, pl => by rw [entL, nmsP, List.flatMap_cons, ent_namesT xs pl]; rfl
  | .none, _ => by simp [entL, nmsP, leafN]
  | .bool _, _ => by simp [entL, nmsP, leafN]
  | .int _, _ => by simp [entL, nmsP, leafN]
  | .str _, _ => by simp [entL, nmsP, leafN]
  | .list _, _ => by simp [entL, nmsP, leafN]
  | .dict _, _ => by simp [entL, nmsP, leafN]
theorem ent_namesT : ∀ (xs : List PyData) (pl : List PyData), (entT xs pl).flatMap leafN = nmsT xs
  | [], _ => by simp [entT, nmsT]
  | _ :: ts, pl => by rw [entT, nmsT, ent_namesA ts pl 0]
theorem ent_namesA : ∀ (ts : List PyData) (pl : List PyData) (k : Nat), (entA ts pl k).flatMap leafN = nmsA ts
  | [], _, _ => by simp [entA, nmsA]
  | t :: ts, pl, k => by rw [entA, nmsA, List.flatMap_append, ent_names t _, ent_namesA ts pl (k + 1)]
end
/-! counting down -/
def downL : Nat → List PyData
  | 0 => []
  | n + 1 => .int n :: downL n
theorem rangeD_down (n : Nat) : rangeD ((n : Int) - 1) (-1) = downL n := by
  unfold rangeD
  rw [show ((n : Int) - 1 - -1).toNat = n by omega]
  induction n with
  | zero => rfl
  | succ n ih =>
    rw [List.range_succ_eq_map, List.map_cons, List.map_map, downL, ← ih]
    congr 1
    · congr 1
      omega
    · refine List.map_congr_left fun k _ => ?_
      simp only [Function.comp]
      congr 1
      omega
/-! a stack of entries -/
def prs (pl : List PyData) : List PyData → Nat → List (List PyData × PyData)
  | [], _ => []
  | t :: ts, k => (pl ++ [.int k], t) :: prs pl ts (k + 1)
theorem prs_len (pl : List PyData) : ∀ (ts : List PyData) (k : Nat), (prs pl ts k).length = ts.length
  | [], _ => rfl
  | t :: ts, k => by rw [prs, List.length_cons, List.length_cons, prs_len pl ts]
theorem prs_ent (pl : List PyData) : ∀ (ts : List PyData) (k : Nat), ((prs pl ts k).flatMap fun p => entL p.2 p.1) = entA ts pl k
  | [], _ => by simp [prs, entA]
  | t :: ts, k => by rw [prs, entA, List.flatMap_cons, prs_ent pl ts]
theorem prs_mem (pl : List PyData) : ∀ (ts : List PyData) (k : Nat) (p : List PyData × PyData), p ∈ prs pl ts k → p.1.length = pl.length + 1 ∧ p.2 ∈ ts
  | [], _, p, h => by cases h
  | t :: ts, k, p, h => by
    rw [prs] at h
    rcases List.mem_cons.mp h with h | h
    · subst h
      exact ⟨by simp, List.mem_cons_self⟩
    · obtain ⟨h1, h2⟩ := prs_mem pl ts (k + 1) p h
      exact ⟨h1, List.mem_cons_of_mem _ h2⟩
theorem prs_drop (pl : List PyData) {ts : List PyData} {j : Nat} {t : PyData} (h : ts[j]? = some t) : prs pl (ts.drop j) j = (pl ++ [.int j], t) :: prs pl (ts.drop (j + 1)) (j + 1) := by
  have hk : j < ts.length := by
    rcases Nat.lt_or_ge j ts.length with h1 | h1
    · exact h1
    · rw [List.getElem?_eq_none h1] at h
      cases h
  have e : ts[j] = t := by
    rw [List.getElem?_eq_getElem hk] at h
    exact Option.some.inj h
  rw [List.drop_eq_getElem_cons hk, e, prs]
def prD (p : List PyData × PyData) : PyData := .tuple [.tuple p.1, p.2]
/-! ### places of any form -/
def plB : PyData → List PyData → Bool
  | _, [] => true
  | x, a :: as => match x, a with
    | .tuple xs, .int i => belowB (.int i) ((xs.length : Int) - 1) && (match xs[i.toNat + 1]? with
      | some t => plB t as
      | none => false)
    | _, _ => false
def placeB (x : PyData) : PyData → Bool
  | .tuple as => plB x as
  | _ => false
theorem plB_path : ∀ {ks : List Nat} {x y : PyData} (rest : List PyData), pathTo x ks y → plB x (plc ks ++ rest) = plB y rest
  | [], x, y, rest, h => by cases h; rfl
  | k :: ks, x, y, rest, hp => by
    obtain ⟨h, ts, t, rfl, ht, hp⟩ := path_cons hp
    have hlt : k < ts.length := by
      rcases Nat.lt_or_ge k ts.length with h1 | h1
      · exact h1
      · rw [List.getElem?_eq_none h1] at ht
        cases ht
    show (belowB (.int (k : Nat)) (((h :: ts).length : Int) - 1) && (match (h :: ts)[((k : Nat) : Int).toNat + 1]? with
      | some t => plB t (plc ks ++ rest)
      | none => false)) = _
    have hb : belowB (.int (k : Int)) (((h :: ts).length : Int) - 1) = true := by
      unfold belowB
      simp only [List.length_cons, Bool.and_eq_true, decide_eq_true_eq]
      omega
    rw [hb, Bool.true_and, Int.toNat_natCast, List.getElem?_cons_succ, ht]
    exact plB_path rest hp
theorem plB_out {x : PyData} {i : Int} {rest : List PyData} (h : belowB (.int i) (match x with
    | .tuple xs => (xs.length : Int) - 1
    | _ => 0) = false) : plB x (.int i :: rest) = false := by
  cases x <;> first | rfl | skip
  rename_i xs
  show (belowB (.int i) ((xs.length : Int) - 1) && _) = false
  have h : belowB (.int i) ((xs.length : Int) - 1) = false := h
  rw [h, Bool.false_and]
theorem plB_odd {x a : PyData} {rest : List PyData} (h : ∀ i, a ≠ .int i) : plB x (a :: rest) = false := by
  cases x <;> first | rfl | skip
  cases a <;> first | rfl | (exact absurd rfl (h _))
end Lk
namespace Lk
open PySem PySem.Spec PyProof.Rows L2
def top (i : Nat) : Stmt := PySem.Challenge.pw_likeshown_k01_errors.main.body.getD i (.Pass ⟨0, 0, 0, 0⟩)
def c__law_kneaded : Dfn := ⟨"_law_kneaded", 2, ["_law_seed", "_law_lap", "_law_prime", "_law_amount", "_law_again"], [
  .asg 2 (.val (.kd (.int 2305843009213693907))),
  .asg 3 (.val (.bin .mod (.fnc .int (.bin .add (.bin .add (.bin .mul (.var 0) (.kd (.int 2862933555777941757))) (.bin .mul (.var 1) (.kd (.int 3037000493)))) (.kd (.int 29)))) (.var 2))),
  .forS (.nm 4) .rng [.kd (.int 4)] [.asg 3 (.val (.bin .mod (.fnc .int (.bin .add (.bin .add (.bin .add (.bin .mul (.var 3) (.var 3)) (.bin .mul (.kd (.int 11)) (.var 3))) (.bin .mul (.kd (.int 4099)) (.var 4))) (.var 1))) (.var 2)))],
  .ret (.bin .add (.bin .mul (.var 3) (.var 2)) (.bin .mod (.fnc .int (.bin .add (.bin .mul (.var 3) (.kd (.int 69621))) (.var 1))) (.var 2)))]⟩
def c__law_pot_of : Dfn := ⟨"_law_pot_of", 1, ["_law_script", "_law_cells", "_law_place", "_law_cell"], [
  .asg 1 (.comp [("_law_cell", 3)] (.nm 3) .val [.slc false true (.var 0) [.kd (.int 17)]] [] (.fnc .abs (.var 3))),
  .forS (.tup [2, 3]) .enum [.slc true true (.var 0) [.kd (.int 17), .kd (.int 60)]] [.setI (.var 1) (.bin .mod (.var 2) (.kd (.int 17))) (.bin .add (.ix (.var 1) (.bin .mod (.var 2) (.kd (.int 17)))) (.fnc .abs (.var 3)))],
  .ret (.lst true [.one (.var 1), .one (.kd (.int 0)), .one (.kd (.int 0)), .one (.kd (.int 0))])]⟩
def c__law_below : Dfn := ⟨"_law_below", 2, ["_law_pot", "_law_bound", "_law_found", "_law_amount", "_law_cells", "_law_place"], [
  .ifs (.of (.cmp .lt (.ix (.var 0) (.kd (.int 3))) (.var 1))) [.par 4 5 (.val (.ix (.var 0) (.kd (.int 0)))) (.val (.ix (.var 0) (.kd (.int 1)))), .asg 3 (.val (.ite (.of (.cmp .ne (.var 4) (.lst false []))) (.ix (.var 4) (.bin .mod (.var 5) (.fnc .len (.var 4)))) (.kd (.int 0)))), .ifs (.or [.of (.cmp .ge (.var 5) (.fnc .len (.var 4))), .of (.cmp .lt (.var 3) (.bin .pow (.kd (.int 10)) (.kd (.int 16))))]) [.asg 3 (.val (.call "_law_kneaded" [.bin .mod (.fnc .int (.var 3)) (.kd (.int 982451629)), .var 5]))] [], .setI (.var 0) (.kd (.int 1)) (.bin .add (.var 5) (.kd (.int 1))), .setI (.var 0) (.kd (.int 2)) (.var 3), .setI (.var 0) (.kd (.int 3)) (.var 3)] [],
  .asg 2 (.val (.bin .mod (.fnc .int (.ix (.var 0) (.kd (.int 2)))) (.var 1))),
  .setI (.var 0) (.kd (.int 2)) (.bin .fdiv (.ix (.var 0) (.kd (.int 2))) (.var 1)),
  .setI (.var 0) (.kd (.int 3)) (.bin .fdiv (.ix (.var 0) (.kd (.int 3))) (.var 1)),
  .ret (.var 2)]⟩
def c__law_made : Dfn := ⟨"_law_made", 2, ["_law_limit", "_law_line", "_law_found"], [
  .asg 2 (.disp [.one (.mkI .lim [.var 0]), .one (.mkI .syn [.var 1, .var 0]), .one (.mkI .rul [.tup [.one (.kd (.str "right")), .one (.tup [.one (.var 1)])]]), .one (.mkE "NoTree" (.kd (.str "x"))), .one (.mkE "NoPattern" (.kd (.str "x")))]),
  .asg 2 (.val (.bin .add (.var 2) (.lst false [.one (.mkE "NoPlace" (.kd (.str "x"))), .one (.mkE "NoLesson" (.kd (.str "x"))), .one (.mkE "NoPair" (.kd (.str "x"))), .one (.mkE "NoStay" (.kd (.str "x"))), .one (.mkE "NoMark" (.kd (.str "x"))), .one (.mkE "Mismatch" (.kd (.str "x")))]))),
  .ret (.bin .add (.var 2) (.lst false [.one (.mkE "InvalidCommand" (.kd (.str "x")))]))]⟩
def c__law_classes : Dfn := ⟨"_law_classes", 1, ["_law_error", "_law_found"], [
  .asg 1 (.disp [.one (.isx (.own "TooMany") (.var 0)), .one (.isx (.own "SyntaxProblem") (.var 0)), .one (.isx (.own "NoRule") (.var 0))]),
  .asg 1 (.val (.bin .add (.var 1) (.lst false [.one (.isx (.own "NoTree") (.var 0)), .one (.isx (.own "NoPattern") (.var 0)), .one (.isx (.own "NoPlace") (.var 0))]))),
  .asg 1 (.val (.bin .add (.var 1) (.lst false [.one (.isx (.own "NoLesson") (.var 0)), .one (.isx (.own "NoPair") (.var 0)), .one (.isx (.own "NoStay") (.var 0))]))),
  .ret (.bin .add (.var 1) (.lst false [.one (.isx (.own "NoMark") (.var 0)), .one (.isx (.own "Mismatch") (.var 0)), .one (.isx (.own "InvalidCommand") (.var 0))]))]⟩
def c_law : Dfn := ⟨"law", 1, ["_law_script", "_law_pot", "_law_errors", "_law_fields", "_law_limit", "_law_line", "_law_at", "_law_error", "_law_spot"], [
  .asg 1 (.val (.call "_law_pot_of" [.var 0])),
  .par 4 5 (.val (.bin .add (.kd (.int 1)) (.call "_law_below" [.var 1, .bin .pow (.kd (.int 10)) (.kd (.int 6))]))) (.val (.bin .add (.kd (.int 1)) (.call "_law_below" [.var 1, .kd (.int 50)]))),
  .asg 2 (.val (.call "_law_made" [.var 4, .var 5])),
  .forS (.tup [6, 7]) .enum [.var 2] [.ifs (.or [.of (.cmp .ne (.call "_law_classes" [.var 7]) (.comp [("_law_spot", 8)] (.nm 8) .rng [.fnc .len (.var 2)] [] (.cmp .eq (.var 8) (.var 6)))), .not (.of (.isx (.own "ShownError") (.var 7)))]) [.ret (.kd (.bool false))] [], .ifs (.or [.not (.of (.isx .val (.var 7))), .of (.isx .oth (.var 7))]) [.ret (.kd (.bool false))] []],
  .asg 3 (.disp [.one (.fld "limit" (.ix (.var 2) (.kd (.int 0)))), .one (.fld "line" (.ix (.var 2) (.kd (.int 1)))), .one (.fld "column" (.ix (.var 2) (.kd (.int 1)))), .one (.fld "paper" (.ix (.var 2) (.kd (.int 2))))]),
  .ret (.andE [.cmp .eq (.var 3) (.lst false [.one (.var 4), .one (.var 5), .one (.var 4), .one (.tup [.one (.kd (.str "right")), .one (.tup [.one (.var 5)])])]), .cmp .notin (.kd (.bool true)) (.call "_law_classes" [.mkE "ShownError" (.kd (.str "x"))])])]⟩
def rows : List Row := [⟨"_law_kneaded", "_law_kneaded", top 15, c__law_kneaded⟩,
  ⟨"_law_pot_of", "_law_pot_of", top 16, c__law_pot_of⟩,
  ⟨"_law_below", "_law_below", top 17, c__law_below⟩,
  ⟨"_law_made", "_law_made", top 18, c__law_made⟩,
  ⟨"_law_classes", "_law_classes", top 19, c__law_classes⟩,
  ⟨"law", "law", top 20, c_law⟩]
def cst : List (Str × PyData) := []
def bl : List Str := ["len", "int", "abs", "isinstance", "range", "enumerate", "ValueError", "KeyError", "IndexError", "TypeError"]
def exs : List Str := []
def rai : List Str := []
def defAt (i : Nat) : Stmt := match top i with
  | .ClassDef _ _ _ [b] _ _ _ _ _ _ _ => b
  | s => s
def ini : Option IniT := some ⟨defAt 2, defAt 3, defAt 4⟩
def T : Str → Option Dfn := tabOf rows
def loose : List Str := (["__name__", "ShownError", "TooMany", "SyntaxProblem", "NoRule", "NoTree", "NoPattern", "NoPlace", "NoLesson", "NoPair", "NoStay", "NoMark", "Mismatch", "InvalidCommand", "_law_kneaded", "_law_pot_of", "_law_below", "_law_made", "_law_classes"] : List Str)
abbrev R : PySem.W.OpenRow := PySem.W.OpenLaw.row PySem.Challenge.rw_likeshown_k01_errors
abbrev hk : PySem.W.Hook := hookS 4 ini (faOfRows rows cst bl exs rai) (fnOfRows rows ini)
def ob (s : PySem.W.SharedT) : AlS := obsSG 4 ini (faOfRows rows cst bl exs rai) (fnOfRows rows ini) (HandSHeadRun.getT s)
theorem ob_eq (s : PySem.W.SharedT) : ob s = hk.obs s.abs := obsSG_eq (HandSHeadRun.getT_eq s)
theorem run (w : World) : HandSHeadRun.RunEq R (PySem.W.view R.prog [20]) hk ob 8000 loose w := by
  intro os
  kernel_rfl
theorem rows_ok : rows.all (rowB (gOf rows cst bl exs rai)) = true := by decide +kernel
end Lk
namespace Lk
open PySem
local macro_rules
  | `(tactic| back_ro) => `(tactic| first
    | (with_reducible refine gd_E ?_; first | with_reducible refine e_kd ?_ | with_reducible refine e_gl ?_ | with_reducible refine e_var rfl ?_ | with_reducible refine e_ol rfl ?_ | with_reducible refine e_od rfl ?_ | with_reducible refine e_call ?_ | with_reducible refine e_cmp ?_ | with_reducible refine e_bin ?_ | with_reducible refine e_ix ?_ | with_reducible refine e_fnc ?_ | with_reducible refine e_tup ?_ | with_reducible refine e_lst ?_ | with_reducible refine e_lstS ?_ | with_reducible refine e_ite ?_ | with_reducible refine e_inst ?_ | with_reducible refine e_and ?_ | with_reducible refine e_or ?_ | with_reducible refine e_not ?_ | with_reducible refine e_chain ?_ | with_reducible refine e_isk ?_ | with_reducible refine e_slc ?_ | with_reducible refine e_comp ?_ | with_reducible refine e_edic ?_ | with_reducible refine e_calB1 ?_ | with_reducible refine e_calB2 ?_ | with_reducible refine e_edicS ?_ | with_reducible refine e_frz ?_ | with_reducible refine e_rv ?_ | with_reducible refine e_fncS ?_ | with_reducible refine e_mkE ?_ | with_reducible refine e_mkI ?_ | with_reducible refine e_isx ?_ | with_reducible refine e_fld ?_ | with_reducible refine e_catS ?_ | with_reducible refine e_compS ?_ | with_reducible refine e_callL ?_ | with_reducible refine e_isB ?_ | with_reducible refine e_dgo rfl ?_ | with_reducible refine e_dgv rfl ?_ | with_reducible refine e_trng ?_ | with_reducible refine e_lidx ?_ | with_reducible refine e_litems ?_ | with_reducible refine e_dctB ?_ | with_reducible refine e_srtS ?_ | with_reducible refine e_ddis ?_ | with_reducible refine e_ddis2 ?_ | with_reducible refine e_lzip ?_ | with_reducible refine e_dcomp ?_ | with_reducible refine e_dcompS ?_ | with_reducible refine e_join ?_ | with_reducible refine e_comp2 ?_)
    | (with_reducible refine gd_X ?_; first | with_reducible refine x_var rfl ?_ | with_reducible refine x_now rfl ?_)
    | (with_reducible refine gd_con ?_; first | with_reducible refine con_now ?_ | with_reducible refine con_v rfl ?_ | with_reducible refine con_ol rfl ?_ | with_reducible refine con_od rfl ?_ | with_reducible refine con_rl rfl sput_same ?_ | with_reducible refine con_rn sput_same ?_ | with_reducible refine con_rd rfl sput_same ?_ | with_reducible refine con_rnd sput_same ?_)
    | (with_reducible refine gd_D ?_; first | with_reducible refine d_d ?_)
    | (with_reducible refine gd_Ss ?_; first | with_reducible refine ss_nil ?_)
    | (with_reducible refine gd_S ?_; first | with_reducible refine s_asg ?_ | with_reducible refine s_if ?_ | with_reducible refine s_ret ?_ | with_reducible refine s_expr ?_ | with_reducible refine s_for ?_ | with_reducible refine s_par ?_ | with_reducible refine s_app rfl ?_ | with_reducible refine s_ext rfl ?_ | with_reducible refine s_aug rfl ?_ | with_reducible refine s_unp ?_ | with_reducible refine s_asgE ?_ | with_reducible refine s_set ?_ | with_reducible refine s_retN ?_ | with_reducible refine s_brk ?_ | with_reducible refine s_cont ?_ | with_reducible refine s_pass ?_ | with_reducible refine s_clrE ?_ | with_reducible refine s_appE ?_ | with_reducible refine s_rai ?_ | with_reducible refine s_raiL ?_ | with_reducible refine s_clrD ?_ | with_reducible refine s_try ?_)
    | (with_reducible refine gd_R ?_; first | with_reducible refine r_val ?_ | with_reducible refine r_disp ?_ | with_reducible refine r_edic ?_ | with_reducible refine r_take ?_ | with_reducible refine r_comp ?_ | with_reducible refine r_dct ?_)
    | (with_reducible refine gd_As ?_; first | with_reducible refine as_one ?_ | with_reducible refine as_nil ?_)
    | (with_reducible refine gd_T ?_; first | with_reducible refine t_of ?_ | with_reducible refine t_and ?_ | with_reducible refine t_or ?_ | with_reducible refine t_not ?_)
    | (with_reducible refine gd_tru ?_; first | with_reducible refine tr_b ?_ | with_reducible refine tr_n ?_ | with_reducible refine tr_i ?_)
    | (with_reducible refine gd_ite ?_; first | with_reducible refine ite_t ?_ | with_reducible refine ite_f ?_)
    | (with_reducible refine gd_Is ?_; first | with_reducible refine is_one ?_ | with_reducible refine is_nil ?_ | with_reducible refine is_star ?_)
    | (with_reducible refine gd_bin ?_; first | with_reducible refine o_addi ?_ | with_reducible refine o_sub ?_ | with_reducible refine o_addl (by first | decide | exact Nat.le_of_ble_eq_true (by with_unfolding_all rfl)) ?_ | with_reducible refine o_addt (by first | decide | exact Nat.le_of_ble_eq_true (by with_unfolding_all rfl)) ?_)
    | (with_reducible refine gd_cmp ?_; first | with_reducible refine o_lt ?_ | with_reducible refine o_le ?_ | with_reducible refine o_gt ?_ | with_reducible refine o_ge ?_ | with_reducible refine o_inst ?_ | with_reducible refine o_ninst ?_)
    | (with_reducible refine gd_bf ?_; first | with_reducible refine f_lenl ?_ | with_reducible refine f_lent ?_ | with_reducible refine f_ll ?_ | with_reducible refine f_lt ?_ | with_reducible refine f_ld ?_ | with_reducible refine f_lend ?_ | with_reducible refine f_tl ?_ | with_reducible refine f_tt ?_ | with_reducible refine f_int ?_ | with_reducible refine f_abs ?_ | with_reducible refine f_dicd ?_)
    | (with_reducible refine gd_ix ?_; first | with_reducible refine ix_l rfl ?_ | with_reducible refine ix_t rfl ?_)
    | (with_reducible refine gd_tg ?_; first | with_reducible refine tg_nm ?_ | with_reducible refine tg_2 ?_)
    | (with_reducible refine gd_src ?_; first | with_reducible refine s_l ?_ | with_reducible refine s_t ?_ | with_reducible refine s_s ?_ | with_reducible refine s_el ?_ | with_reducible refine s_et ?_ | with_reducible refine s_dk ?_ | with_reducible refine s_di ?_ | with_reducible refine s_diN ?_ | with_reducible refine s_dv ?_)
    | (with_reducible refine gd_B ?_; first | with_reducible refine b_b ?_)
    | (with_reducible refine gd_orW ?_; first | with_reducible refine ow_b ?_ | with_reducible refine ow_n ?_ | with_reducible refine ow_l ?_ | with_reducible refine ow_d ?_)
    | (with_reducible refine gd_And ?_; first | with_reducible refine and_two ?_ | with_reducible refine and_one ?_)
    | (with_reducible refine gd_Or ?_; first | with_reducible refine or_two ?_ | with_reducible refine or_one ?_)
    | (with_reducible refine gd_TA ?_; first | with_reducible refine ta_one ?_ | with_reducible refine ta_nil ?_)
    | (with_reducible refine gd_TO ?_; first | with_reducible refine to_one ?_ | with_reducible refine to_nil ?_)
    | (with_reducible refine gd_conL ?_; first | with_reducible refine conL_s rfl ?_ | with_reducible refine conL_v rfl ?_ | with_reducible refine conL_ol rfl ?_ | with_reducible refine conL_now ?_)
    | (with_reducible refine gd_slc ?_; first | with_reducible refine sl_l1 ?_ | with_reducible refine sl_l2 ?_ | with_reducible refine sl_l3 ?_ | with_reducible refine sl_l ?_ | with_reducible refine sl_t1 ?_ | with_reducible refine sl_t2 ?_ | with_reducible refine sl_t3 ?_ | with_reducible refine sl_t ?_)
    | (with_reducible refine gd_it ?_; first | with_reducible refine it_l ?_ | with_reducible refine it_t ?_)
    | (with_reducible refine gd_isP ?_; first | with_reducible refine isn_n ?_ | with_reducible refine isn_t ?_ | with_reducible refine isn_l ?_ | with_reducible refine isn_d ?_ | with_reducible refine isn_i ?_)
    | (with_reducible refine gd_isK ?_; first | with_reducible refine ik_d ?_ | with_reducible refine ik_r ?_)
    | (with_reducible refine gd_isB ?_; first | with_reducible refine ib_b ?_)
    | (with_reducible refine gd_asD ?_; first | with_reducible refine asD_d ?_)
    | (with_reducible refine gd_stoD ?_; first | with_reducible refine sto_d sput_same ?_)
    | (with_reducible refine gd_rv ?_; first | with_reducible refine rv_l0 ?_ | with_reducible refine rv_l1 ?_ | with_reducible refine rv_t0 ?_ | with_reducible refine rv_t1 ?_)
    | (with_reducible refine gd_asL ?_; first | with_reducible refine as_l ?_)
    | (with_reducible refine gd_sto ?_; first | with_reducible refine sto_l sput_same ?_)
    | (with_reducible refine gd_setW ?_; first | with_reducible refine w_r rfl sput_same rfl ?_)
    | (with_reducible refine gd_aug ?_; first | with_reducible refine ag_add ?_ | with_reducible refine ag_sub ?_)
    | with_reducible refine And.intro (by first | decide | exact Nat.le_of_ble_eq_true (by with_unfolding_all rfl)) ?_)
local macro_rules
  | `(tactic| w_up) => `(tactic| repeat back_ro)
local macro_rules
  | `(tactic| w_fin) => `(tactic| repeat (first | back_ro | with_reducible refine ss_one ?_))
local macro_rules
  | `(tactic| w_typed) => `(tactic| simp only [startV, List.map_cons, List.map_nil, List.length_cons, List.length_nil, List.replicate, List.cons_append, List.nil_append, Nat.reduceAdd, Nat.reduceSub])
theorem pT : PotT T := ⟨rfl, rfl, rfl⟩
theorem T_made : T "_law_made" = some c__law_made := rfl
theorem T_classes : T "_law_classes" = some c__law_classes := rfl
theorem T_law : T "law" = some c_law := rfl
/-- the errors that are made -/
def errs (k l : Int) : List PyData := [errD "TooMany" [("limit", .int k)], errD "SyntaxProblem" [("column", .int k), ("line", .int l)], errD "NoRule" [("paper", .tuple [.str "right", .tuple [.int l]])], errD "NoTree" [], errD "NoPattern" [],
  errD "NoPlace" [], errD "NoLesson" [], errD "NoPair" [], errD "NoStay" [], errD "NoMark" [], errD "Mismatch" [], errD "InvalidCommand" []]
def ns12 : List Str := ["TooMany", "SyntaxProblem", "NoRule", "NoTree", "NoPattern", "NoPlace", "NoLesson", "NoPair", "NoStay", "NoMark", "Mismatch", "InvalidCommand"]
def clsB (c : Str) : List Bool := ns12.map fun d => isxB (.own d) c
def spotB (k : Nat) : List Bool := (List.range 12).map fun (j : Nat) => decide ((0 : Int) + (j : Int) = (k : Int))
def clsL (c : Str) : List PyData := (clsB c).map .bool
def spotL (k : Nat) : List PyData := (spotB k).map .bool
theorem mk_lim {k : Int} {C : List (Str × PyData) → Prop} (z : smI k) (h : C [("limit", .int k)]) : mkP .lim [.d (.int k)] C := ⟨z, h⟩
theorem mk_syn {l k : Int} {C : List (Str × PyData) → Prop} (z : smI l) (z2 : smI k) (h : C [("column", .int k), ("line", .int l)]) : mkP .syn [.d (.int l), .d (.int k)] C := ⟨z, z2, h⟩
theorem mk_rul {x : PyData} {C : List (Str × PyData) → Prop} (h : C [("paper", x)]) : mkP .rul [.d x] C := h
theorem smI_of {k : Int} (h0 : 0 ≤ k) (h1 : k < 2 ^ 62) : smI k := by
  have e : k.natAbs < 2 ^ 62 := by omega
  refine ⟨?_, Nat.le_trans (PyProof.Rows.toString_length_le h0 (k := 20) (by decide) (by omega)) (by decide)⟩
  by_cases z : k.natAbs = 0
  · rw [z]
    decide
  · exact (Nat.log2_lt z).mpr (Nat.lt_of_lt_of_le e (Nat.pow_le_pow_right (by decide) (by decide)))
section
variable {n : Nat} {S : Sto} {Q : PV → Sto → Prop} {E : Exc → Sto → Prop}
theorem made_ok {k l : Int} (hk : smI k) (hl : smI l) (h : Q (.d (.list (errs k l))) S) : callW T (n + 1) "_law_made" [.d (.int k), .d (.int l)] S Q E := by
  have sl : sizeLine = 16777216 := rfl
  refine call_in T_made rfl ?_
  unfold c__law_made
  w_typed
  w_fin
  refine mk_lim hk ?_
  w_fin
  refine mk_syn hl hk ?_
  w_fin
  refine mk_rul ?_
  w_fin
  exact h
theorem classes_ok {c : Str} {fs : List (Str × PyData)} (hc : errN.contains c = true) (h : Q (.d (.list (clsL c))) S) : callW T (n + 1) "_law_classes" [.d (errD c fs)] S Q E := by
  have sl : sizeLine = 16777216 := rfl
  refine call_in T_classes rfl ?_
  unfold c__law_classes
  w_typed
  w_fin
  repeat (refine isx_d hc ?_; w_fin)
  exact h
end
theorem enum_errs {k l : Int} : ∀ x ∈ enumL (errs k l), ∃ (j : Nat) (c : Str) (fs : List (Str × PyData)), x = .tuple [.int j, errD c fs] ∧ errN.contains c = true ∧ j < 12 ∧ clsL c = spotL j := by
  intro x hx
  unfold enumL errs at hx
  simp only [List.zipIdx_cons, List.zipIdx_nil, List.map_cons, List.map_nil, List.mem_cons, List.not_mem_nil, or_false] at hx
  rcases hx with rfl | rfl | rfl | rfl | rfl | rfl | rfl | rfl | rfl | rfl | rfl | rfl <;> exact ⟨_, _, _, rfl, by decide, by decide, congrArg (List.map PyData.bool) (by decide +kernel)⟩
theorem spot_eq (j : Nat) (h : j < 12) : eqO (.list (spotL j)) (.list (spotL j)) = some true := by
  have : ∀ j, j < 12 → eqO (.list (spotL j)) (.list (spotL j)) = some true := by decide +kernel
  exact this j h
def eqiF (j : Nat) : PyData → PyData
  | .int i => .bool (decide (i = (j : Int)))
  | _ => .none
theorem spot_map (j : Nat) : (((rangeL 0 12).filter fun _ => true).map (eqiF j)) = spotL j := by
  have e : (rangeL 0 12).filter (fun _ => true) = rangeL 0 12 := List.filter_eq_self.mpr fun _ _ => rfl
  rw [e]
  unfold rangeL spotL spotB
  rw [List.map_map, List.map_map]
  rfl
theorem law_ok (ns0 : List Int) : callW (tabOf rows) 80 "law" [.s ns0] (fun _ => none) (fun v _ => v = .d (.bool true)) fun _ _ => False := by
  have sl : sizeLine = 16777216 := rfl
  refine call_in T_law rfl ?_
  unfold c_law
  w_typed
  refine ss_one ?_
  w_up
  refine pot_of_ok pT fun a S hp => ?_
  w_up
  refine ss_one ?_
  w_up
  refine o_pow ⟨by decide, by decide, by decide⟩ ?_
  w_up
  refine below_ok pT hp (by decide) (by decide) fun r S1 hp1 r0 r1 => ?_
  w_up
  refine below_ok pT hp1 (by decide) (by decide) fun r2 S2 hp2 r3 r4 => ?_
  w_up
  have z1 : smI (1 + r) := smI_of (by omega) (by have : (10 : Int) ^ (6 : Int).toNat = 1000000 := by decide
                                                 omega)
  have z2 : smI (1 + r2) := smI_of (by omega) (by omega)
  refine ss_one ?_
  w_up
  refine made_ok (n := 78) z1 z2 ?_
  w_up
  refine ss_cut (fun ρ1 S1 => ∃ o6 o7 o8 : Option Lo, ρ1 = [some (.v (.s ns0)), some (.v (.r a)), some (.v (.d (.list (errs (1 + r) (1 + r2))))), none, some (.v (.d (.int (1 + r)))), some (.v (.d (.int (1 + r2)))), o6, o7, o8]) (fun N hN => ?_) ?_
  · w_up
    refine for_by (fun xs ρ1 S1 => (∀ x ∈ xs, x ∈ enumL (errs (1 + r) (1 + r2))) ∧ ∃ o6 o7 o8 : Option Lo, ρ1 = [some (.v (.s ns0)), some (.v (.r a)), some (.v (.d (.list (errs (1 + r) (1 + r2))))), none, some (.v (.d (.int (1 + r)))), some (.v (.d (.int (1 + r2)))), o6, o7, o8])
      (fun ρ1 S1 hI => hN _ _ hI.2) (fun x xs ρ1 S1 N2 k2 hI => ?_) _ _ _ ⟨fun x hx => hx, _, _, _, rfl⟩
    obtain ⟨hm, o6, o7, o8, rfl⟩ := hI
    obtain ⟨j, c, fs, rfl, hc, hj, hcl⟩ := enum_errs x (hm x (by simp))
    w_up
    simp only [List.set_cons_zero, List.set_cons_succ]
    refine ss_one ?_
    w_up
    refine classes_ok (n := 78) hc ?_
    rw [hcl]
    w_up
    rw [show ((errs (1 + r) (1 + r2)).length : Int) = 12 from rfl]
    refine s_r1 ⟨by decide, by decide⟩ ?_
    refine comp_mf (fun _ => true) (eqiF j) _ (by decide) (fun x hx N3 acc hN3 => ?_) ?_
    · obtain ⟨i, rfl⟩ : ∃ i, x = .int i := by
        obtain ⟨k, _, rfl⟩ := List.mem_map.mp hx
        exact ⟨_, rfl⟩
      w_up
      refine o_eq (eqO_int _ _) ?_
      w_up
      exact hN3
    · rw [spot_map]
      w_up
      refine o_ne (spot_eq j hj) ?_
      rw [Bool.not_true]
      w_up
      refine isx_d hc ?_
      w_up
      rw [show isxB (.own "ShownError") c = true from by unfold isxB; simp, Bool.not_true]
      w_up
      refine ss_one ?_
      w_up
      refine isx_d hc ?_
      rw [show isxB .val c = true from rfl]
      w_up
      rw [Bool.not_true]
      w_up
      refine isx_d hc ?_
      rw [show isxB .oth c = false from rfl]
      w_up
      exact k2 _ _ ⟨fun x hx => hm x (by simp [hx]), _, _, _, rfl⟩
  · rintro ρ1 S1 ⟨o6, o7, o8, rfl⟩
    refine ss_one ?_
    w_up
    refine fld_d (x := .int (1 + r)) (by rfl) (by decide) (by decide) ?_
    w_up
    refine fld_d (x := .int (1 + r2)) (by rfl) (by decide) (by decide) ?_
    w_up
    refine fld_d (x := .int (1 + r)) (by rfl) (by decide) (by decide) ?_
    w_up
    refine fld_d (x := .tuple [.str "right", .tuple [.int (1 + r2)]]) (by rfl) (by decide) (by decide) ?_
    w_up
    refine ss_one ?_
    w_up
    refine o_eq (eqO_self (by simp [PyData.canLay0, PyData.canLayAll0]; decide +kernel) (by simp [PyData.depth, PyData.depthAll])) ?_
    w_up
    refine classes_ok (n := 78) (c := "ShownError") (fs := []) (by decide) ?_
    w_up
    refine (show cmpP .notin (.bool true) (.list (clsL "ShownError")) _ from ⟨rfl, by rfl, by decide, ?_⟩)
    show PV.d (.bool (!(clsL "ShownError").any fun z => z.eqv (.bool true))) = _
    rw [show ((clsL "ShownError").any fun z => PyData.eqv z (.bool true)) = false from by decide +kernel] <;> rfl
end Lk
namespace Lk
abbrev RW := PySem.Challenge.rw_likeshown_k01_errors
end Lk
open PySem PySem.W PySem.Calls PyProof.Rows
theorem PySem.Challenge.cw_likeshown_k01_errors_holds : PySem.Challenge.rw_likeshown_k01_errors.Holds := by
  w_on
  o_law
  refine HandSHeadRun.head_any (H := Lk.hk) (ob := Lk.ob) (M := 8000) (loose := Lk.loose) (kwd := [])
    (r := OpenLaw.row Lk.RW) (q := view (OpenLaw.row Lk.RW).prog [20])
    (d := HandSHeadRun.topDef (OpenLaw.row Lk.RW).prog 20)
    Lk.ob_eq (by kernel_rfl) (fun s => by kernel_rfl) Lk.run
    (by kernel_rfl) (by kernel_rfl) (by kernel_rfl) (by rfl)
    (by first | assumption | decide +kernel) (by decide +kernel)
    ⟨rfl, rfl, rfl, rfl, rfl, by decide +kernel⟩ ?hw ?hc
  case hw => w_witness2
  case hc =>
    refine Lk.walkRows (l := Lk.RW) (k := 80) (xl := "law") (x := "_law_script") (c := Lk.c_law) rfl (by decide) (by kernel_rfl)
      ⟨rfl, by decide, by decide⟩ (by kernel_rfl) Lk.rows_ok (by decide +kernel) (by decide +kernel) rfl rfl ?_
    exact fun ns _ => Lk.law_ok ns
